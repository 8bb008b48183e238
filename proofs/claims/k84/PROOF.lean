import PyProof.Rows.All
import Wide.All
import OpenK.AllK
import Wide.FinOn
import KE.RegKIsAll
import HandS.ForMost
import HandS.OwnEq
import HandS.Property
import HandS.Defaults
import HandS.MakeKwOnly
import HandS.FStr
import HandS.Gcd
import HandS.IsInst
import HandS.WideBits
import PyProof.ReprNest
import PySem.Challenge.RW_pairsfree_k84_whole_frames_and_their_tab
set_option Elab.async false
set_option linter.all false
set_option maxRecDepth 100000
set_option maxHeartbeats 4000000
/-! Additions to the layer: defs that are known to run under no guard (so that repr of nested data may be asked there). -/
namespace L2
open PySem PySem.Spec PyProof.Rows

/-- as FnOk, where the call stands under no guard of a repr -/
structure FnG (P : Program) (w : World) (K : PySem.W.Frag) (mg : Str → Option Value) (base : Heap) (k : Nat)
    (f : Addr) (fd : FuncData) (ps : List Str) (sp : Sp) : Prop where
  len : ∀ vs H Q E, sp vs H Q E → vs.length = ps.length
  run : ∀ (A : Around) (outer : List Env) (s : Shared) (H : Hp) (args : Args) (us : List Value) (vs : List V) (Q : VK) (E : XK),
    A.guards = some [] → Room k A → Env0 P w K mg base A outer s H → BindsTo s fd args (ps.zip us) → Vals vs us → sp vs H Q E →
    codeAny (model P w) A (.call (.ref f) args) (CR CX0 outer P w H s Q E) s

section
variable {P : Program} {w : World} {K : PySem.W.Frag} {mg : Str → Option Value} {base : Heap} {k : Nat} {f : Addr} {fd : FuncData} {ps : List Str} {sp : Sp}

theorem FnG.mono {j : Nat} (F : FnG P w K mg base j f fd ps sp) (h : j ≤ k) : FnG P w K mg base k f fd ps sp :=
  ⟨F.len, fun A outer s H args us vs Q E hg hr => F.run A outer s H args us vs Q E hg (hr.mono h)⟩

/-- a def by its body, the guards known -/
theorem Fun.okG {x qual : Str} {st : Stmt} {N : List Str} (F : Fun K x qual st f fd) (S : FnScope N ps (defScope st))
    (len : ∀ vs H Q E, sp vs H Q E → vs.length = ps.length)
    (hbody : ∀ (cdv : Value) (A : Around) (outer : List Env) (s : Shared) (H : Hp) (vs : List V) (Q : VK) (E : XK),
      A.guards = some [] → Room k (A.deeper (envOfC qual (defScope st) s.heap.objs.size f cdv)) → sp vs H Q E →
      ∃ t, PSs (cxOf CX0 P w K mg base N qual (defScope st) f cdv A outer s H E).nox (defBody st) t ∧
        t { nx := fun _ H' => Q .non H', rt := Q } (start N vs) H) : FnG P w K mg base (k + 1) f fd ps sp := by
  obtain ⟨oc, od, kV, doc, pm, an, cdv, ct, osl, rfl, lk, hcd⟩ := F.ex
  refine ⟨len, fun A outer s H args us vs Q E hg hr e0 hb r hsp => ?_⟩
  have hl := len _ _ _ _ hsp
  have kin : K.In s.heap := e0.mod.kin.keeps fun b o e => (e0.bs b o e).1
  have nolim : s.heap.NoLimit := e0.mod.nolimit.keeps fun b o e => (e0.bs b o e).1
  have kinds : ∀ y ∈ ps.zip us, (defScope st).names.lookup y.1 = some .local ∨
      ((defScope st).names.lookup y.1 = some .cell ∧ ((cellsFrom (s.heap.objs.size + 1) (defScope st).names []).lookup y.1).isSome = true) := by
    rintro ⟨n, v⟩ hy
    rcases S.par n (List.of_mem_zip hy).1 with q | q
    · exact .inl q
    · exact .inr ⟨q, PySem.W.cellsFrom_some _ _ _ (.inl q)⟩
  refine codeAny_call_function hr.depth (kin _ _ lk) rfl S.co S.gen rfl (PySem.W.codeRec_of kin hcd) (hb _ _ _ _ ?_)
  refine wpAny_newFunctionEnv_cells S.kind kinds fun env he s1 x => ?_
  subst he
  refine ⟨nolim.keeps x.toInCall.keep, codeAny_func ?_⟩
  obtain ⟨t, ht, hq⟩ := hbody cdv A outer s H vs Q E hg (hr.deeper _) hsp
  have I := inv_start (CX := CX0) (E := E) S hr.hd e0 hl r x
  refine wpAny_mono (ht.nox.run [] s1 (start N vs) H _ I hq) (fun fl s' hs => ?_) fun e s' hs => hs
  cases fl with
  | ret u =>
    obtain ⟨v, σ', H', J, rv, q⟩ := hs
    exact ⟨v, H', J.os, J.bare, J.base, J.hok, rv, q⟩
  | next =>
    obtain ⟨σ', H', J, q⟩ := hs
    exact ⟨V.non, H', J.os, J.bare, J.base, J.hok, rfl, q⟩
  | brk =>
    obtain ⟨_, _, _, q⟩ := hs
    exact q.elim
  | cont =>
    obtain ⟨_, _, _, q⟩ := hs
    exact q.elim
end

section
variable {X : Cx} {k : Nat} {f : Addr} {fd : FuncData} {ps : List Str} {sp : Sp} {x : Str} {p pos : Pos} {e : Expr} {es : List Expr} {t : TA}
/-- a call of such a def, by its promise -/
theorem run_G {pins : List (Addr × Obj)} {σ : St} {H : Hp} {s : Shared} {Q : VK} {us : List Value} {vs : List V}
    (F : FnG X.prog X.w X.K X.mg X.base k f fd ps sp) (hg : X.A.guards = some []) (hr : Room k X.A) (hb : Binds X.K fd ps [])
    (I : Inv X pins σ H s) (r : Vals vs us) (h : sp vs H Q E0) : wpAny (model X.prog X.w) X.A (call (.ref f) us) (EP X pins σ Q) X.xe s := by
  have hl : (us ++ []).length = ps.length := by
    rw [List.append_nil, ← r.length]
    exact F.len _ _ _ _ h
  have bnd := hb s us I.kIn hl
  rw [List.append_nil] at bnd
  refine wpAny_call (codeAny_mono (F.run X.A X.stack s H ⟨us, []⟩ us vs Q E0 hg hr I.env0 bnd r h) fun r s' hq => ?_)
  cases r with
  | error e => exact False.elim hq
  | ok fl =>
    cases fl with
    | ret u => exact I.after hq
    | next => exact False.elim hq
    | brk => exact False.elim hq
    | cont => exact False.elim hq
theorem pe_callG (F : FnG X.prog X.w X.K X.mg X.base k f fd ps sp) (hgu : X.A.guards = some []) (hr : Room k X.A) (hg : Gl X x)
    (hm : X.mg x = some (.ref f)) (hk : PySem.W.keepIn X.K (.ref f) = true) (hb : Binds X.K fd ps []) (ha : PA X (e :: es) t)
    (hdb : (x == ("__debug__" : Str)) = false := by decide)
    (he : starEach (e :: es) X.env = (false, eval e X.env) :: starEach es X.env := by rfl)
    (hpl : (backTo pos (starEach es X.env)).any (·.1) = false := by rfl) :
    PE X (.Call (.Name x p) (e :: es) [] pos) (fun σ H Q => t σ H fun vs H1 => sp vs H1 Q E0) := by
  refine ⟨fun pins s σ H Q I h => wpAny_Call_Name_kw (ld_glob I hg hm ?_ hdb)⟩
  exact PySem.W.callWith_K (h₀ := X.base) I.ok.mod.kin hk
    (thn (ha.run pos pins s σ H _ I h) fun us s1 ⟨vs, H1, I1, r, q⟩ => ⟨I1.kIn, run_G F hgu hr hb I1 r q⟩) he hpl
end
end L2

/-! Data as trees, what stands at an address as data, and repr of it. -/
namespace L2
open PySem PySem.Spec PyProof.Rows

/-- plain data with fractions -/
inductive Dt where
  | non | bl (b : Bool) | int (i : Int) | rat (t b : Int) | lst (ds : List Dt) | tup (ds : List Dt)

/-- the text that digits_of gives of a small number (as the f-string joins it) -/
def dig (i : Int) : Str := Str.empty ++ (if i < 0 then ("-" : Str) else ("" : Str)) ++ ((toString (if 0 ≤ i then i else 0 - i) : String) : Str) ++ ("" : Str)
def ratText (t b : Int) : Str := Str.empty ++ ("Ratio(" : Str) ++ dig t ++ (", " : Str) ++ dig b ++ (")" : Str)

mutual
def Dt.text : Dt → Str
  | .non => "None"
  | .bl b => if b then "True" else "False"
  | .int i => ((toString i : String) : Str)
  | .rat t b => ratText t b
  | .lst ds => listText (Dt.texts ds)
  | .tup ds => tupleText (Dt.texts ds)
def Dt.texts : List Dt → List Str
  | [] => []
  | d :: ds => d.text :: Dt.texts ds
end
mutual
def Dt.ht : Dt → Nat
  | .lst ds => Dt.hts ds + 1
  | .tup ds => Dt.hts ds + 1
  | _ => 0
def Dt.hts : List Dt → Nat
  | [] => 0
  | d :: ds => max d.ht (Dt.hts ds)
end
/-- a fraction that is small enough to be told by its digits at once -/
def SmR (t b : Int) : Prop := (-1000000 ≤ t ∧ t ≤ 1000000) ∧ 1 ≤ b ∧ b ≤ 1000000
mutual
def Dt.ok : Dt → Prop
  | .int i => i.natAbs.log2 < 1920
  | .rat t b => SmR t b
  | .lst ds => Dt.oks ds
  | .tup ds => Dt.oks ds
  | _ => True
def Dt.oks : List Dt → Prop
  | [] => True
  | d :: ds => d.ok ∧ Dt.oks ds
end

/-- the fields of a Ratio -/
def ratF (t b : Int) : List (Str × V) := [("own_top", V.int t), ("own_bottom", V.int b)]

mutual
inductive Is (CR : Addr) (H : Hp) : Dt → V → Prop
  | non : Is CR H .non .non
  | bl (b : Bool) : Is CR H (.bl b) (.bl b)
  | int (i : Int) : Is CR H (.int i) (.int i)
  | rat {a dx : Addr} {t b : Int} (e : H a = some (.ins CR dx (ratF t b))) : Is CR H (.rat t b) (.ref a)
  | lst {a : Addr} {ds : List Dt} {xs : List V} (e : H a = some (.lst xs)) (r : Iss CR H ds xs) : Is CR H (.lst ds) (.ref a)
  | tup {a : Addr} {ds : List Dt} {xs : List V} (e : H a = some (.tup xs)) (r : Iss CR H ds xs) : Is CR H (.tup ds) (.ref a)
inductive Iss (CR : Addr) (H : Hp) : List Dt → List V → Prop
  | nil : Iss CR H [] []
  | cons {d : Dt} {ds : List Dt} {x : V} {xs : List V} (h : Is CR H d x) (r : Iss CR H ds xs) : Iss CR H (d :: ds) (x :: xs)
end

section
variable {CR : Addr} {H H' : Hp}
mutual
theorem Is.ext {d : Dt} {x : V} (h : Is CR H d x) (e : Ext H H') : Is CR H' d x := by
  cases h with
  | non => exact .non
  | bl b => exact .bl b
  | int i => exact .int i
  | rat e0 => exact .rat (e _ _ e0)
  | lst e0 r => exact .lst (e _ _ e0) (Iss.ext r e)
  | tup e0 r => exact .tup (e _ _ e0) (Iss.ext r e)
theorem Iss.ext {ds : List Dt} {xs : List V} (h : Iss CR H ds xs) (e : Ext H H') : Iss CR H' ds xs := by
  cases h with
  | nil => exact .nil
  | cons h r => exact .cons (Is.ext h e) (Iss.ext r e)
end
theorem Iss.length {ds : List Dt} {xs : List V} (h : Iss CR H ds xs) : ds.length = xs.length := by
  induction ds generalizing xs with
  | nil => cases h; rfl
  | cons d ds ih => cases h with | cons h r => simp [ih r]
theorem Iss.get {ds : List Dt} {xs : List V} (h : Iss CR H ds xs) : ∀ {i : Nat} {x : V}, xs[i]? = some x → ∃ d, ds[i]? = some d ∧ Is CR H d x := by
  induction ds generalizing xs with
  | nil => cases h; intro i x e; simp at e
  | cons d ds ih =>
    cases h with
    | cons h r =>
      intro i x e
      cases i with
      | zero =>
        have e2 : _ = x := Option.some.inj e
        subst e2
        exact ⟨d, rfl, h⟩
      | succ i => exact ih r (by simpa using e)
theorem Iss.getD {ds : List Dt} {xs : List V} (h : Iss CR H ds xs) : ∀ {i : Nat} {d : Dt}, ds[i]? = some d → ∃ x, xs[i]? = some x ∧ Is CR H d x := by
  induction ds generalizing xs with
  | nil => cases h; intro i x e; simp at e
  | cons d ds ih =>
    cases h with
    | cons h r =>
      intro i x e
      cases i with
      | zero =>
        have e2 : _ = x := Option.some.inj e
        subst e2
        exact ⟨_, rfl, h⟩
      | succ i => exact ih r (by simpa using e)
theorem Iss.append {ds es : List Dt} {xs ys : List V} (h : Iss CR H ds xs) (h2 : Iss CR H es ys) : Iss CR H (ds ++ es) (xs ++ ys) := by
  induction ds generalizing xs with
  | nil => cases h; exact h2
  | cons d ds ih => cases h with | cons h r => exact .cons h (ih r)
theorem Iss.take {ds : List Dt} {xs : List V} (h : Iss CR H ds xs) : ∀ n : Nat, Iss CR H (ds.take n) (xs.take n) := by
  induction ds generalizing xs with
  | nil => cases h; intro n; simp; exact .nil
  | cons d ds ih =>
    cases h with
    | cons h r =>
      intro n
      cases n with
      | zero => exact .nil
      | succ n => exact .cons h (ih r n)
theorem Iss.drop {ds : List Dt} {xs : List V} (h : Iss CR H ds xs) : ∀ n : Nat, Iss CR H (ds.drop n) (xs.drop n) := by
  induction ds generalizing xs with
  | nil => cases h; intro n; simp; exact .nil
  | cons d ds ih =>
    cases h with
    | cons h r =>
      intro n
      cases n with
      | zero => exact .cons h r
      | succ n => exact ih r n
mutual
theorem Is.det {d e : Dt} {x : V} (h : Is CR H d x) (g : Is CR H e x) : d = e := by
  cases h with
  | non => cases g; rfl
  | bl b => cases g; rfl
  | int i => cases g; rfl
  | rat e0 =>
    cases g with
    | rat e1 =>
      rw [e0] at e1
      have e2 := congrArg (fun o => match o with | some (HO.ins _ _ fs) => fs | _ => []) e1
      simp only [ratF, List.cons.injEq, Prod.mk.injEq, V.int.injEq, true_and, and_true] at e2
      rw [e2.1, e2.2]
    | lst e1 r1 => rw [e0] at e1; cases e1
    | tup e1 r1 => rw [e0] at e1; cases e1
  | lst e0 r =>
    cases g with
    | rat e1 => rw [e0] at e1; cases e1
    | lst e1 r1 =>
      rw [e0] at e1; cases e1
      rw [Iss.det r r1]
    | tup e1 r1 => rw [e0] at e1; cases e1
  | tup e0 r =>
    cases g with
    | rat e1 => rw [e0] at e1; cases e1
    | lst e1 r1 => rw [e0] at e1; cases e1
    | tup e1 r1 =>
      rw [e0] at e1; cases e1
      rw [Iss.det r r1]
theorem Iss.det {ds es : List Dt} {xs : List V} (h : Iss CR H ds xs) (g : Iss CR H es xs) : ds = es := by
  cases h with
  | nil => cases g; rfl
  | cons h r =>
    cases g with
    | cons h1 r1 => rw [Is.det h h1, Iss.det r r1]
end
end

theorem texts_length : ∀ ds : List Dt, (Dt.texts ds).length = ds.length
  | [] => by simp [Dt.texts]
  | d :: ds => by simp [Dt.texts, texts_length ds]
theorem texts_get : ∀ {ds : List Dt} {i : Nat} {d : Dt}, ds[i]? = some d → (Dt.texts ds)[i]? = some d.text
  | d :: ds, 0, e, h => by
    have e2 : d = e := Option.some.inj h
    simp [Dt.texts, e2]
  | d :: ds, i + 1, e, h => by
    simp only [Dt.texts, List.getElem?_cons_succ]
    exact texts_get (by simpa using h)
theorem texts_append : ∀ ds es : List Dt, Dt.texts (ds ++ es) = Dt.texts ds ++ Dt.texts es
  | [], es => by simp [Dt.texts]
  | d :: ds, es => by simp [Dt.texts, texts_append ds es]
theorem hts_get : ∀ {ds : List Dt} {i : Nat} {d : Dt}, ds[i]? = some d → d.ht ≤ Dt.hts ds
  | d :: ds, 0, e, h => by
    have e2 : d = e := Option.some.inj h
    rw [Dt.hts, ← e2]
    exact Nat.le_max_left _ _
  | d :: ds, i + 1, e, h => by
    rw [Dt.hts]
    exact Nat.le_trans (hts_get (ds := ds) (i := i) (by simpa using h)) (Nat.le_max_right _ _)
theorem oks_get : ∀ {ds : List Dt} {i : Nat} {d : Dt}, ds[i]? = some d → Dt.oks ds → d.ok
  | d :: ds, 0, e, h, k => by
    have e2 : d = e := Option.some.inj h
    rw [Dt.oks] at k
    rw [← e2]
    exact k.1
  | d :: ds, i + 1, e, h, k => by
    rw [Dt.oks] at k
    exact oks_get (by simpa using h) k.2

/-- what is being told around is greater data: so the thing itself isn't among it -/
def Above (CR : Addr) (H : Hp) (g : List Code) (n : Nat) : Prop :=
  ∀ (id : String) (b : Addr) (rest : List Value) (kw : List (Str × Value)), Code.builtin id ⟨.ref b :: rest, kw⟩ ∈ g → ∃ e, Is CR H e (.ref b) ∧ n < e.ht
theorem Above.nil {CR : Addr} {H : Hp} {n : Nat} : Above CR H [] n := fun _ _ _ _ h => by cases h
theorem Above.ext {CR : Addr} {H H' : Hp} {g : List Code} {n : Nat} (h : Above CR H g n) (e : Ext H H') : Above CR H' g n := fun id b rest kw m =>
  let ⟨d, i, l⟩ := h id b rest kw m
  ⟨d, i.ext e, l⟩
theorem Above.le {CR : Addr} {H : Hp} {g : List Code} {n m : Nat} (h : Above CR H g n) (l : m ≤ n) : Above CR H g m := fun id b rest kw mm =>
  let ⟨d, i, q⟩ := h id b rest kw mm
  ⟨d, i, Nat.lt_of_le_of_lt l q⟩
theorem Above.cons {CR : Addr} {H : Hp} {g : List Code} {n : Nat} {d : Dt} {a : Addr} {id : String} {rest : List Value} {kw : List (Str × Value)}
    (h : Above CR H g n) (i : Is CR H d (.ref a)) (l : n < d.ht) : Above CR H (.builtin id ⟨.ref a :: rest, kw⟩ :: g) n := by
  intro id' b rest' kw' m
  rcases List.mem_cons.mp m with e | m
  · cases e
    exact ⟨d, i, l⟩
  · exact h _ _ _ _ m
theorem Above.clear {CR : Addr} {H : Hp} {g : List Code} {d : Dt} {a : Addr} (h : Above CR H g d.ht) (i : Is CR H d (.ref a)) : Clear g a := by
  intro id v rest kw m e
  subst e
  obtain ⟨d', i', l⟩ := h id a rest kw m
  rw [i.det i'] at l
  exact Nat.lt_irrefl _ l

/-! ### rooms under a guard -/
theorem Room.guard {k : Nat} {A : Around} {c : Code} (r : Room (k + 1) A) (h1 : (A.under c).depth = A.depth + 1) (h2 : (A.under c).units = A.units + 1) : Room k (A.under c) :=
  ⟨r.hd, by have := r.dp; rw [h1]; omega, by have := r.un; rw [h2]; omega⟩
theorem depth_loop (A : Around) (args : Args) : (A.under (.builtin "list.__repr__.loop" args)).depth = A.depth + 1 := by
  have e : (Code.builtin "list.__repr__.loop" args).isGuard = true := isGuard_list_loop args
  simp [Around.under, Code.weight, e, Code.isCreation, Code.isCaller, Code.frames, Code.isFrame]
theorem frames_loop (A : Around) (args : Args) : (A.under (.builtin "list.__repr__.loop" args)).frames = A.frames := by
  simp [Around.under, Code.envs, Code.isFrame, pushEnvs]
theorem depth_tup (A : Around) (args : Args) : (A.under (.builtin "tuple.__repr__" args)).depth = A.depth + 1 := by
  have e : (Code.builtin "tuple.__repr__" args).isGuard = true := isGuard_tuple_repr args
  simp [Around.under, Code.weight, e, Code.isCreation, Code.isCaller, Code.frames, Code.isFrame]
theorem frames_tup (A : Around) (args : Args) : (A.under (.builtin "tuple.__repr__" args)).frames = A.frames := by
  simp [Around.under, Code.envs, Code.isFrame, pushEnvs]
theorem depth_tupU (A : Around) (args : Args) : (A.under (.builtin "tuple.__repr__.under" args)).depth = A.depth + 1 := by
  have e : (Code.builtin "tuple.__repr__.under" args).isGuard = true := isGuard_tuple_repr_under args
  simp [Around.under, Code.weight, e, Code.isCreation, Code.isCaller, Code.frames, Code.isFrame]
theorem frames_tupU (A : Around) (args : Args) : (A.under (.builtin "tuple.__repr__.under" args)).frames = A.frames := by
  simp [Around.under, Code.envs, Code.isFrame, pushEnvs]
end L2

/-! repr of data with own fractions within, by the own __repr__ -/
namespace L2
open PySem PySem.Spec PyProof.Rows
open Builtin Builtin.List

def spRatRepr (CR : Addr) : Sp := fun vs H Q _ => ∃ a dx t b, vs = [.ref a] ∧ H a = some (.ins CR dx (ratF t b)) ∧ SmR t b ∧ ∀ H', Ext H H' → Q (.str (ratText t b)) H'
/-- the own __repr__ of the fractions, at the level n -/
structure RatRep (X : Cx) (CR : Addr) (n : Nat) : Prop where
  ex : ∃ f fd, FnOk X.prog X.w X.K X.mg X.base CX0 n f fd ["self"] (spRatRepr CR) ∧ PySem.W.findIn X.K (.ref CR) "__repr__" = some (some (.ref f)) ∧
    PySem.W.isFn X.K (.ref f) = true ∧ Binds X.K fd ["self"] []

section
variable {X : Cx} {CR : Addr} {n : Nat} {pins : List (Addr × Obj)} {σ : St} {H : Hp} {s : Shared}

/-- a def is run somewhere below the body -/
theorem run_below {A : Around} {f : Addr} {fd : FuncData} {ps : List Str} {sp : Sp} {us : List Value} {vs : List V} {Q : VK} {E : Value → Shared → Prop}
    (F : FnOk X.prog X.w X.K X.mg X.base CX0 n f fd ps sp) (hr : Room n A) (fr : A.frames = X.A.frames) (hb : Binds X.K fd ps []) (I : Inv X pins σ H s) (r : Vals vs us)
    (h : sp vs H Q E0) : wpAny (model X.prog X.w) A (call (.ref f) us) (EP X pins σ Q) E s := by
  have e0 := I.env0
  have e1 : Env0 X.prog X.w X.K X.mg X.base A X.stack s H := ⟨fr.trans e0.frames, e0.mod, e0.bs, e0.bsz, e0.funs, e0.frf, e0.hok, e0.bare⟩
  have hl : (us ++ []).length = ps.length := by
    rw [List.append_nil, ← r.length]
    exact F.len _ _ _ _ h
  have bnd := hb s us I.kIn hl
  rw [List.append_nil] at bnd
  refine wpAny_call (codeAny_mono (F.run A X.stack s H ⟨us, []⟩ us vs Q E0 hr e1 bnd r h) fun r s' hq => ?_)
  cases r with
  | error e => exact False.elim hq
  | ok fl =>
    cases fl with
    | ret u => exact I.after hq
    | next => exact False.elim hq
    | brk => exact False.elim hq
    | cont => exact False.elim hq

theorem boundBy_own {M : Model} {A : Around} {E : Value → Shared → Prop} {last : Value → List Value → Sem Value} {x C f : Addr} {ox : Obj} {od : Option Obj} {name : Str} {K : PySem.W.Frag}
    {Q : Option Value → Shared → Prop} (Y : K.In s.heap) (J : PySem.W.InstAt s.heap x ox C od) (hs : PySem.W.findIn K (.ref C) name = some (some (.ref f)))
    (hf : PySem.W.isFn K (.ref f) = true) (h : wpAny M A (last (.ref f) [.ref x]) (fun v => Q (some v)) E s) : wpAny M A (callSpecialIfBoundBy? last (.ref x) name) Q E s := by
  simp only [callSpecialIfBoundBy?, bindSpecialIfBound?]
  refine wpAny_holding (wpAny_bind (wpAny_bind (wpAny_bind (J.type.here ((PySem.W.looks_findIn Y hs).here ?_)))))
  refine wpAny_bind (wpAny_askSetting (wpAny_ite ?_))
  have fin : wpAny M A (last (.ref f) [.ref x] >>= fun v => pure (some v)) Q E s := wpAny_bind (wpAny_mono h (fun v s' h' => wpAny_pure h') fun _ _ h' => h')
  split
  · exact wpAny_bind ((PySem.W.bind_fn Y _ (beq_iff_eq.mp hf)).here (wpAny_pure (by exact fin)))
  · exact wpAny_tryCatch (wpAny_bind ((PySem.W.bind_fn Y _ (beq_iff_eq.mp hf)).here (wpAny_pure (by exact fin))))

/-- what telling data gives -/
abbrev Told (X : Cx) (pins : List (Addr × Obj)) (σ : St) (H : Hp) (x : Str) (t : Str) (s' : Shared) : Prop := t = x ∧ ∃ H', Inv X pins σ H' s' ∧ Ext H H'

theorem rep_rat (T : RatRep X CR n) {A : Around} {base : Nat} {a dx : Addr} {t b : Int} {E : Value → Shared → Prop} (hr : Room n A) (fr : A.frames = X.A.frames) (I : Inv X pins σ H s)
    (e : H a = some (.ins CR dx (ratF t b))) (sm : SmR t b) (hz : base ≤ sizeLine) :
    wpAny (model X.prog X.w) A (pyReprUnder base (.ref a)) (Told X pins σ H (ratText t b)) E s := by
  obtain ⟨f, fd, F, hs, hf, hb⟩ := T.ex
  obtain ⟨mA, J, _⟩ := ins_get I.hok e
  obtain ⟨od, J, _⟩ := J.look
  refine wpAny_pyReprUnder_ref hz ?_
  unfold pyReprObjUnder pyReprObjBy
  refine wpAny_bind (wpAny_cRoomFor hr.units0 ?_)
  refine wpAny_bind (wpAny_bind (J.type.here ((PySem.W.looks_findIn I.kIn hs).here ?_)))
  show wpAny _ _ (if (some (Value.ref f)).isNone = true then _ else _) _ _ _
  rw [if_neg (by simp)]
  refine wpAny_bind (m := callSpecialIfBoundBy? _ (.ref a) (Str.ofString "__repr__")) (boundBy_own I.kIn J hs hf ?_)
  show wpAny _ _ (call (.ref f) ([.ref a] ++ [])) _ _ _
  have hsp : spRatRepr CR [.ref a] H (fun v H' => v = .str (ratText t b) ∧ Ext H H') E0 := ⟨a, dx, t, b, rfl, e, sm, fun H' x => ⟨rfl, x⟩⟩
  refine wpAny_mono (run_below (E := E) F hr fr hb I (vs := [.ref a]) (.cons rfl .nil) hsp) (fun v s' q => ?_) fun _ _ z => z
  obtain ⟨v', H', I', rv, rfl, x⟩ := q
  obtain ⟨tk, rfl⟩ := rv
  refine wpAny_bind (wpAny_isInstance (T := "str") (b := true) rfl isSubtype_str_str ?_)
  exact wpAny_pure ⟨_, _, rfl, rfl, H', I', x⟩

/-- all data of at most this height is told -/
def RepN (X : Cx) (CR : Addr) (n N : Nat) : Prop :=
  ∀ (d : Dt), d.ht ≤ N → d.ok → ∀ (A : Around) (g : List Code) (pins : List (Addr × Obj)) (s : Shared) (σ : St) (H : Hp) (x : V) (u : Value) (base : Nat),
    Room (n + N) A → A.frames = X.A.frames → A.guards = some g → Inv X pins σ H s → RelV x u → Is CR H d x → Above CR H g d.ht → base + d.text.length ≤ sizeLine →
    wpAny (model X.prog X.w) A (pyReprUnder base u) (Told X pins σ H d.text) X.xe s

/-- a record of ours, apart from all that the body knows -/
structure Mine (X : Cx) (pins : List (Addr × Obj)) (P : Addr) : Prop where
  above : X.s_0.heap.objs.size ≤ P
  loc : P ≠ X.env.locals
  cell : ∀ x c, X.env.cells.lookup x = some c → c ≠ P
  pin : ∀ p ∈ X.pn ++ pins, p.1 ≠ P
theorem Mine.of (I : Inv X pins σ H s) : Mine X pins s.heap.objs.size where
  above := I.sz
  loc := fun e => Nat.lt_irrefl _ (e ▸ I.lt)
  cell := fun x c e q => by
    obtain ⟨v, o, ho, _⟩ := I.cell x c e
    rw [q] at ho
    exact Nat.lt_irrefl _ (Heap.lt_size ho)
  pin := fun p hp q => by
    obtain ⟨e, _⟩ := I.pin p hp
    rw [q] at e
    exact Nat.lt_irrefl _ (Heap.lt_size e)
theorem Inv.unpin {p : Addr × Obj} (I : Inv X (p :: pins) σ H s) : Inv X pins σ H s :=
  I.pins_of fun q hq => I.pin q (List.mem_append_right _ (List.mem_cons_of_mem _ hq))
theorem Inv.addpin {P : Addr} {o : Obj} (I : Inv X pins σ H s) (m : Mine X pins P) (e : s.heap.get? P = some o) (hn : H P = none) (hd : ∀ v, o.data ≠ .cell v) : Inv X ((P, o) :: pins) σ H s :=
  I.pins_of fun q hq => by
    rcases List.mem_cons.mp hq with z | hq
    · rw [z]
      refine ⟨e, hn, m.loc, fun z => ?_, hd⟩
      obtain ⟨_, o', ho, _⟩ := I.ok.funs.mem z
      exact absurd (Nat.lt_of_lt_of_le (Heap.lt_size ho) m.above) (Nat.lt_irrefl _)
    · exact I.pin q (List.mem_append_right _ hq)
/-- such a record is changed -/
theorem Inv.repin {P : Addr} {o o' : Obj} {h' : Heap} {t' : Nat} (I : Inv X ((P, o) :: pins) σ H s) (m : Mine X pins P) (k : ∀ b u, b ≠ P → s.heap.get? b = some u → h'.get? b = some u)
    (e : h'.get? P = some o') (hd : ∀ v, o'.data ≠ .cell v) : Inv X ((P, o') :: pins) σ H { s with heap := h', toks := t' } := by
  have hn : H P = none := (I.pin (P, o) (List.mem_append_right _ (List.mem_cons_self ..))).2.1
  exact (I.unpin.turned (t' := t') k hn m.loc (.inr m.above) m.cell m.pin).addpin m e hn hd

theorem listText_two (ts : List Str) : 2 * ts.length ≤ (listText ts).length + 2 := by
  have h := (textFrom_len ts 0 "[").1
  have e : (listText ts).length = (textFrom 0 "[" ts).length + 1 := by
    show (textFrom 0 "[" ts ++ "]").length = _
    rw [strLen_append]; rfl
  rw [if_neg (Nat.lt_irrefl 0)] at h
  omega
theorem listText_mem {ts : List Str} {t : Str} (ht : t ∈ ts) : t.length ≤ (listText ts).length := by
  have h := (textFrom_len ts 0 "[").2.1 t ht
  have e : (listText ts).length = (textFrom 0 "[" ts).length + 1 := by
    show (textFrom 0 "[" ts ++ "]").length = _
    rw [strLen_append]; rfl
  omega

/-- the pieces of a list's text, one turn behind another -/
theorem rep_loop {N : Nat} (T : RepN X CR n N) {ds : List Dt} {xs : List V} {a P : Addr} {A : Around} {g : List Code} {base : Nat} {R : Result → Shared → Prop} {H0 : Hp}
    (hh : Dt.hts ds ≤ N) (ok : Dt.oks ds) (hr : Room (n + N + 1) A) (fr : A.frames = X.A.frames) (hg : A.guards = some g) (e0 : H0 a = some (.lst xs)) (r0 : Iss CR H0 ds xs)
    (ab : Above CR H0 g (Dt.lst ds).ht) (hsz : base + (listText (Dt.texts ds)).length ≤ sizeLine) (m : Mine X pins P) (hE : ∀ e s', X.xe e s' → R (.error e) s')
    (hR : ∀ s' u H', Inv X pins σ H' s' → Ext H0 H' → R (.ok (.ret (.str (listText (Dt.texts ds)) u))) s') :
    ∀ (k i : Nat) (s : Shared) (H : Hp) (acc : Array Value) (c : Nat) (done : List (Str × Tok)), xs.length - i = k → i ≤ xs.length →
      Inv X ((P, { cls := .type "list", dict := none, data := .seq acc c, slots := #[] }) :: pins) σ H s → Ext H0 H → acc.toList = strValues done → done.map (·.1) = (Dt.texts ds).take i →
      codeAny (model X.prog X.w) A (.builtin "list.__repr__.loop" ⟨[.ref a, rawInt i, .ref P, rawInt ((base + piled ((Dt.texts ds).take i) : Nat) : Int)], []⟩) R s := by
  have lt := texts_length ds
  have lx := r0.length
  have htwo := listText_two (Dt.texts ds)
  have hp3 := piled_le_listText (Dt.texts ds)
  intro k
  induction k with
  | zero =>
    intro i s H acc c done hk hi I hx hacc hdone
    have hin : i = xs.length := by omega
    obtain ⟨_, its, na, rv, ha⟩ := (show ObjOk X.prog X.w H s.heap a (.lst xs) from I.hok a _ (hx _ _ e0))
    have hP := (I.pin _ (List.mem_append_right _ (List.mem_cons_self ..))).1
    refine codeAny_builtin F.entry_list_repr_loop ?_
    show wpAny _ _ («list.__repr__.loop» ⟨[.ref a, .int i 0, .ref P, .int ((base + piled ((Dt.texts ds).take i) : Nat) : Int) 0], []⟩) _ _ s
    rw [repr_loop_tree]
    refine wpAny_bind (wpAny_listItems ha rfl ?_)
    have hnone : its.toArray[(i : Int).toNat]? = none := by
      have := rv.length
      simp
      omega
    simp only [hnone]
    unfold reprEnd
    refine wpAny_bind (wpAny_listItems hP rfl ?_)
    rw [hacc, repr_fold]
    refine wpAny_bind (wpAny_pure ?_)
    have hall : done.map (·.1) = Dt.texts ds := by rw [hdone, hin, ← lx, ← lt, List.take_length]
    rw [hall]
    refine wpAny_bind (wpAny_mkStr (wpAny_pure ?_) (show (listText (Dt.texts ds)).length ≤ sizeLine by omega))
    exact hR _ _ H (I.unpin.tok _) hx
  | succ k ih =>
    intro i s H acc c done hk hi I hx hacc hdone
    have hlt : i < xs.length := by omega
    obtain ⟨_, its, na, rv, ha⟩ := (show ObjOk X.prog X.w H s.heap a (.lst xs) from I.hok a _ (hx _ _ e0))
    have hP := (I.pin _ (List.mem_append_right _ (List.mem_cons_self ..))).1
    have gx : xs[i]? = some xs[i] := List.getElem?_eq_getElem hlt
    obtain ⟨u, gu, ru⟩ := rv.get gx
    obtain ⟨d, gd, isd⟩ := r0.get gx
    have gt := texts_get gd
    have hp1 := piled_take_succ gt
    have hp2 := piled_take_le (Dt.texts ds) (i + 1)
    refine codeAny_builtin F.entry_list_repr_loop ?_
    show wpAny _ _ («list.__repr__.loop» ⟨[.ref a, .int i 0, .ref P, .int ((base + piled ((Dt.texts ds).take i) : Nat) : Int) 0], []⟩) _ _ s
    rw [repr_loop_tree]
    refine wpAny_bind (wpAny_listItems ha rfl ?_)
    have hsome : its.toArray[(i : Int).toNat]? = some u := by
      simpa using gu
    simp only [hsome]
    rw [Int.toNat_natCast]
    have hdh : d.ht < (Dt.lst ds).ht := by
      show d.ht < Dt.hts ds + 1
      exact Nat.lt_succ_of_le (hts_get gd)
    have room : Room (n + N) (A.under (.builtin "list.__repr__.loop" ⟨[.ref a, rawInt i, .ref P, rawInt ((base + piled ((Dt.texts ds).take i) : Nat) : Int)], []⟩)) := Room.guard (by rw [Nat.add_assoc] at hr ⊢; exact hr) (depth_loop A _) (units_under_list_loop A _)
    have step := T d (Nat.le_trans (hts_get gd) hh) (oks_get gd ok) _ _ _ _ _ _ _ _ (base + piled ((Dt.texts ds).take i) + 1) room ((frames_loop A _).trans fr) (guards_under_guard (isGuard_list_loop _) hg) I ru (isd.ext hx)
      (((ab.ext hx).le (Nat.le_of_lt hdh)).cons (.lst (hx _ _ e0) (r0.ext hx)) hdh) (by omega)
    refine wpAny_bind (wpAny_holding (wpAny_mono step (fun t s1 q => ?_) fun e s1 q => hE e s1 q))
    obtain ⟨rfl, H1, I1, x1⟩ := q
    refine wpAny_bind (wpAny_mkStr ?_ (show d.text.length ≤ sizeLine from by omega))
    refine wpAny_bind ?_
    show wpAny _ _ (updateSeq P _) _ _ _
    have hP1 : s1.heap.get? P = some { cls := .type "list", dict := none, data := .seq acc c, slots := #[] } := (I1.pin _ (List.mem_append_right _ (List.mem_cons_self ..))).1
    have hasz : acc.size ≤ sizeLine := by
      have e1 : acc.toList.length = acc.size := by simp
      have e2 : (strValues done).length = done.length := by simp [strValues]
      have e3 : done.length = ((Dt.texts ds).take i).length := by rw [← hdone, List.length_map]
      have e4 : ((Dt.texts ds).take i).length ≤ i := by rw [List.length_take]; omega
      rw [hacc] at e1
      omega
    refine wpAny_updateSeq hP1 rfl (wpAny_pure ⟨F.quiet_list_repr_loop _, ?_⟩) hasz
    have e1 : ((i : Int) + 1) = ((i + 1 : Nat) : Int) := by omega
    have e2 : base + piled ((Dt.texts ds).take i) + (d.text.length + 2) = base + piled ((Dt.texts ds).take (i + 1)) := by omega
    rw [e1, e2]
    have z := Heap.get?_update_self (Obj.mapSeq (·.push (.str d.text s1.toks))) hP1 rfl
    obtain ⟨c2, z2⟩ : ∃ c2, Obj.mapSeq (·.push (.str d.text s1.toks)) { cls := .type "list", dict := none, data := .seq acc c, slots := #[] } = { cls := .type "list", dict := none, data := .seq (acc.push (.str d.text s1.toks)) c2, slots := #[] } := ⟨_, rfl⟩
    rw [z2] at z
    have I2 := I1.repin (t' := s1.toks + 1) m (fun b u hb eb => (Heap.get?_update_other _ _ (fun z : P = b => hb z.symm)).trans eb) z (fun v z => by cases z)
    exact ih (i + 1) _ H1 (acc.push (.str d.text s1.toks)) c2 (done ++ [(d.text, s1.toks)]) (by omega) hlt I2 (hx.trans x1) (by simp [hacc, strValues]) (by simp [List.take_add_one, gt, hdone])

/-- a list's text -/
theorem rep_listAt {N : Nat} (T : RepN X CR n N) {ds : List Dt} {xs : List V} {a : Addr} {A : Around} {g : List Code} {base : Nat} {R : Result → Shared → Prop}
    (hh : Dt.hts ds ≤ N) (ok : Dt.oks ds) (hr : Room (n + N + 1) A) (fr : A.frames = X.A.frames) (hg : A.guards = some g) (I : Inv X pins σ H s) (e : H a = some (.lst xs)) (r : Iss CR H ds xs)
    (ab : Above CR H g (Dt.lst ds).ht) (hsz : base + (listText (Dt.texts ds)).length ≤ sizeLine) (hE : ∀ e s', X.xe e s' → R (.error e) s')
    (hR : ∀ s' u H', Inv X pins σ H' s' → Ext H H' → R (.ok (.ret (.str (listText (Dt.texts ds)) u))) s') :
    wpAny (model X.prog X.w) A.in1 (Builtin.listReprAt base ⟨[.ref a], []⟩)
      (fun fin s' => match fin with | .done f => R (.ok f) s' | .again c' => c'.quiet = true ∧ codeAny (model X.prog X.w) A c' R s') (fun e s' => R (.error e) s') s := by
  obtain ⟨_, its, na, rv, ha⟩ := (show ObjOk X.prog X.w H s.heap a (.lst xs) from I.hok a _ e)
  cases its with
  | nil =>
    have x0 : xs = [] := List.length_eq_zero_iff.mp rv.length
    subst x0
    cases r
    exact wpAny_list_repr_empty ha rfl (hR _ _ H (I.tok _) Ext.rfl')
  | cons y l =>
    have hca : Clear g a := ab.clear (.lst e r)
    refine wpAny_list_repr_head (A := A.in1) hg (fun v rest kw hm => listSameRef_of_ne (hca _ _ _ _ hm)) ha rfl ?_
    refine wpAny_bind (m := newList []) (wpAny_newObj_type ?_)
    refine wpAny_pure ⟨F.quiet_list_repr_loop _, ?_⟩
    have I1 : Inv X pins σ H { s with heap := s.heap.push { cls := .type "list", dict := none, data := .seq #[] } } := I.kept (t' := s.toks) fun b u q => Heap.get?_push_of_some _ q
    have m := Mine.of I
    have hn : H s.heap.objs.size = none := I.hok.fresh (Nat.le_refl _)
    have I2 := I1.addpin m (Heap.get?_push_size _ rfl) hn (fun v z => by cases z)
    exact rep_loop T hh ok hr fr hg e r ab hsz m hE hR xs.length 0 _ H #[] _ [] (by omega) (Nat.zero_le _) I2 Ext.rfl' rfl (by simp)

/-- the pieces of a tuple's text -/
theorem rep_tups {N : Nat} (T : RepN X CR n N) {A : Around} {g : List Code} {H0 : Hp} (hr : Room (n + N) A) (fr : A.frames = X.A.frames) (hg : A.guards = some g) :
    ∀ (ds : List Dt) (xs : List V) (us : List Value) (acc : Array Str) (z : Nat) (s : Shared) (H : Hp) (Q : (Array Str × Nat) → Shared → Prop), Dt.hts ds ≤ N → Dt.oks ds → Iss CR H0 ds xs → Vals xs us →
      (∀ d ∈ ds, Above CR H0 g d.ht) → z + piled (Dt.texts ds) ≤ sizeLine → Inv X pins σ H s → Ext H0 H →
      (∀ s' H', Inv X pins σ H' s' → Ext H0 H' → Q ⟨acc ++ (Dt.texts ds).toArray, z + piled (Dt.texts ds)⟩ s') →
      wpAny (model X.prog X.w) A (forIn us (⟨acc, z⟩ : (Array Str × Nat)) tupBody) Q X.xe s := by
  intro ds
  induction ds with
  | nil =>
    intro xs us acc z s H Q _ _ r rv _ _ I hx q
    cases r
    cases rv
    simp only [List.forIn_nil]
    exact wpAny_pure (by simpa [Dt.texts, piled] using q s H I hx)
  | cons d ds ih =>
    intro xs us acc z s H Q hh ok r rv ab hz I hx q
    cases r with
    | cons h r =>
      cases rv with
      | cons ru rv =>
        rename_i x xs u us
        have e1 : Dt.texts (d :: ds) = d.text :: Dt.texts ds := by rw [Dt.texts]
        rw [e1, piled_cons] at hz
        rw [Dt.hts] at hh
        rw [Dt.oks] at ok
        rw [List.forIn_cons]
        have hd : d.ht ≤ N := Nat.le_trans (Nat.le_max_left _ _) hh
        have hds : Dt.hts ds ≤ N := Nat.le_trans (Nat.le_max_right _ _) hh
        refine wpAny_bind (wpAny_bind (wpAny_mono (T d hd ok.1 A g pins s σ H x u (z + 1) hr fr hg I ru (h.ext hx) ((ab d (List.mem_cons_self ..)).ext hx) (by omega)) (fun t s1 qq => ?_) fun _ _ y => y))
        obtain ⟨rfl, H1, I1, x1⟩ := qq
        refine wpAny_pure ?_
        refine ih xs us (acc.push d.text) (z + (d.text.length + 2)) s1 H1 Q hds ok.2 r rv (fun d' m => ab d' (List.mem_cons_of_mem _ m)) (by omega) I1 (hx.trans x1) fun s' H' I' x' => ?_
        have h1 := q s' H' I' x'
        rw [e1, piled_cons] at h1
        have e2 : z + (d.text.length + 2 + piled (Dt.texts ds)) = z + (d.text.length + 2) + piled (Dt.texts ds) := by omega
        rw [e2] at h1
        simpa using h1

/-- a tuple's text, under either of its two names -/
theorem rep_tupAt {N : Nat} (T : RepN X CR n N) {ds : List Dt} {xs : List V} {a : Addr} {A : Around} {g : List Code} {base : Nat} {R : Result → Shared → Prop} {id : String} {rest : List Value}
    (c1 : (Code.builtin id ⟨.ref a :: rest, []⟩).isGuard = true) (c2 : (A.under (.builtin id ⟨.ref a :: rest, []⟩)).units = A.units + 1) (c3 : (A.under (.builtin id ⟨.ref a :: rest, []⟩)).depth = A.depth + 1)
    (c4 : (A.under (.builtin id ⟨.ref a :: rest, []⟩)).frames = A.frames)
    (hh : Dt.hts ds ≤ N) (ok : Dt.oks ds) (hr : Room (n + N + 1) A) (fr : A.frames = X.A.frames) (hg : A.guards = some g) (I : Inv X pins σ H s) (e : H a = some (.tup xs)) (r : Iss CR H ds xs)
    (ab : Above CR H g (Dt.tup ds).ht) (hsz : base + (tupleText (Dt.texts ds)).length ≤ sizeLine) (hE : ∀ e s', X.xe e s' → R (.error e) s')
    (hR : ∀ s' u H', Inv X pins σ H' s' → Ext H H' → R (.ok (.ret (.str (tupleText (Dt.texts ds)) u))) s') :
    wpOwn (model X.prog X.w) A (.builtin id ⟨.ref a :: rest, []⟩) (Builtin.tupleReprAt base ⟨[.ref a], []⟩)
      (fun fin s' => match fin with | .done f => R (.ok f) s' | .again c' => c'.quiet = true ∧ codeAny (model X.prog X.w) A c' R s') (fun e s' => R (.error e) s') s := by
  obtain ⟨_, its, rv, o, ho, hoc, na, hod⟩ := (show ObjOk X.prog X.w H s.heap a (.tup xs) from I.hok a _ e)
  have hca : Clear g a := ab.clear (.tup e r)
  have lt := texts_length ds
  have lx := r.length
  have lv := rv.length
  have hp := piled_le_tupleText (Dt.texts ds)
  rw [tuple_repr_tree, tupleReprUnderWay_eq]
  refine wpOwn_bind (wpOwn_stackTailAny hg (tupGuardF_off _) (tupGuardF_pos _) ?_)
  have hn : (g.any fun c => tupGuardF (.ref a) (c, default)) = false := by
    rw [List.any_eq_false]
    intro c hcm
    rw [tupGuardF_of_clear hca c hcm]
    exact Bool.false_ne_true
  rw [hn]
  refine wpOwn_of_wpAny ?_
  show wpAny _ _ (tupleReprRest base (.ref a)) _ _ s
  unfold tupleReprRest Builtin.Tuple.tupleItemsOf
  refine wpAny_bind (wpAny_bind (wpAny_seqItems ho hod (wpAny_pure ?_)))
  rw [← Array.forIn_toList]
  have room : Room (n + N) (A.under (.builtin id ⟨.ref a :: rest, []⟩)) := Room.guard (by rw [Nat.add_assoc] at hr ⊢; exact hr) c3 c2
  have up : ∀ d ∈ ds, Above CR H (.builtin id ⟨.ref a :: rest, []⟩ :: g) d.ht := fun d hd => by
    obtain ⟨i, hi⟩ := List.getElem?_of_mem hd
    have l : d.ht < (Dt.tup ds).ht := by
      show d.ht < Dt.hts ds + 1
      exact Nat.lt_succ_of_le (hts_get hi)
    exact (ab.le (Nat.le_of_lt l)).cons (.tup e r) l
  refine wpAny_bind (wpAny_mono (rep_tups T room (c4.trans fr) (guards_under_guard c1 hg) ds xs its #[] base s H (fun p s' => p = ⟨#[] ++ (Dt.texts ds).toArray, base + piled (Dt.texts ds)⟩ ∧ ∃ H', Inv X pins σ H' s' ∧ Ext H H')
    hh ok r rv up (by omega) I Ext.rfl' (fun s' H' I' x' => ⟨rfl, H', I', x'⟩)) (fun p s' q => ?_) fun e s' q => hE e s' q)
  obtain ⟨rfl, H', I', x'⟩ := q
  have hlen : its.length = (Dt.texts ds).length := by omega
  refine wpAny_bind (wpAny_mkStr (wpAny_pure ?_) (by
    have h0 : (tupleText (Dt.texts ds)).length ≤ sizeLine := by omega
    simpa [tupleText, hlen] using h0))
  have h1 := hR { s' with toks := s'.toks + 1 } s'.toks H' (I'.tok _) x'
  simpa [tupleText, hlen] using h1

theorem RelV.ref_eq {a : Addr} {u : Value} (h : RelV (.ref a) u) : u = .ref a := h

theorem lst_ty {a : Addr} {xs : List V} (I : Inv X pins σ H s) (e : H a = some (.lst xs)) : s.TypeIs (.ref a) "list" := by
  obtain ⟨_, its, na, rv, ha⟩ := (show ObjOk X.prog X.w H s.heap a (.lst xs) from I.hok a _ e)
  exact ⟨_, ha, rfl⟩
theorem tup_ty {a : Addr} {xs : List V} (I : Inv X pins σ H s) (e : H a = some (.tup xs)) : s.TypeIs (.ref a) "tuple" := by
  obtain ⟨_, its, rv, o, ho, hoc, _⟩ := (show ObjOk X.prog X.w H s.heap a (.tup xs) from I.hok a _ e)
  exact ⟨_, ho, hoc⟩

/-- list.__repr__ of such a list -/
theorem call_rep_list {N : Nat} (T : RepN X CR n N) {ds : List Dt} {a : Addr} {A : Around} {g : List Code} {Q : Value → Shared → Prop}
    (hh : Dt.hts ds ≤ N) (ok : Dt.oks ds) (hr : Room (n + N + 1) A) (fr : A.frames = X.A.frames) (hg : A.guards = some g) (I : Inv X pins σ H s) (h : Is CR H (.lst ds) (.ref a))
    (ab : Above CR H g (Dt.lst ds).ht) (hsz : (listText (Dt.texts ds)).length ≤ sizeLine)
    (hQ : ∀ s' u H', Inv X pins σ H' s' → Ext H H' → Q (.str (listText (Dt.texts ds)) u) s') : wpAny (model X.prog X.w) A (call (.builtin "list.__repr__") [.ref a]) Q X.xe s := by
  cases h with
  | lst e r =>
    exact wpAny_call (codeAny_call_builtin F.slot_list_repr.plain F.entry_list_repr (F.slot_list_repr.check _ _ _ _ _ _ _ _ (lst_ty I e) (F.args_list_repr_1 _)
      (rep_listAt (base := 0) (R := callEnd Q X.xe) T hh ok hr fr hg I e r ab (by omega) (fun _ _ z => z) hQ)))
theorem call_rep_tup {N : Nat} (T : RepN X CR n N) {ds : List Dt} {a : Addr} {A : Around} {g : List Code} {Q : Value → Shared → Prop}
    (hh : Dt.hts ds ≤ N) (ok : Dt.oks ds) (hr : Room (n + N + 1) A) (fr : A.frames = X.A.frames) (hg : A.guards = some g) (I : Inv X pins σ H s) (h : Is CR H (.tup ds) (.ref a))
    (ab : Above CR H g (Dt.tup ds).ht) (hsz : (tupleText (Dt.texts ds)).length ≤ sizeLine)
    (hQ : ∀ s' u H', Inv X pins σ H' s' → Ext H H' → Q (.str (tupleText (Dt.texts ds)) u) s') : wpAny (model X.prog X.w) A (call (.builtin "tuple.__repr__") [.ref a]) Q X.xe s := by
  cases h with
  | tup e r =>
    exact wpAny_call (codeAny_call_builtin_own (Code.quiet_builtin _ (by decide +kernel)) F.entry_tuple_repr (F.slot_tuple_repr.check _ _ _ _ _ _ _ _ (tup_ty I e) (F.args_tuple_repr_1 _)
      (rep_tupAt (base := 0) (R := callEnd Q X.xe) T (isGuard_tuple_repr _) (units_under_tuple_repr _ _) (depth_tup _ _) (frames_tup _ _) hh ok hr fr hg I e r ab (by omega) (fun _ _ z => z) hQ)))

/-- the under-names -/
theorem rep_list_under {N : Nat} (T : RepN X CR n N) {ds : List Dt} {a : Addr} {A : Around} {g : List Code} {base : Nat}
    (hh : Dt.hts ds ≤ N) (ok : Dt.oks ds) (hr : Room (n + N + 1) A) (fr : A.frames = X.A.frames) (hg : A.guards = some g) (I : Inv X pins σ H s) (h : Is CR H (.lst ds) (.ref a))
    (ab : Above CR H g (Dt.lst ds).ht) (hsz : base + (listText (Dt.texts ds)).length ≤ sizeLine) :
    wpAny (model X.prog X.w) A (pyReprUnder base (.ref a)) (Told X pins σ H (listText (Dt.texts ds))) X.xe s := by
  cases h with
  | lst e r =>
    refine wpAny_pyReprUnder_ref (by omega) ?_
    refine wpAny_pyReprObjUnder_twin (twin := "list.__repr__.under") (lst_ty I e) F.slot_list_repr.toG rfl hr.units0 ?_
    refine call_twin_plain F.plain_list_repr_under F.entry_list_repr_under F.check_list_repr_under (lst_ty I e) F.slot_list_repr.toG (F.args_list_repr_1 _) ?_
    exact rep_listAt (R := callEnd _ X.xe) T hh ok hr fr hg I e r ab hsz (fun _ _ z => z) fun s' u H' I' x' => ⟨⟨_, _, rfl⟩, _, _, rfl, rfl, H', I', x'⟩
theorem rep_tup_under {N : Nat} (T : RepN X CR n N) {ds : List Dt} {a : Addr} {A : Around} {g : List Code} {base : Nat}
    (hh : Dt.hts ds ≤ N) (ok : Dt.oks ds) (hr : Room (n + N + 1) A) (fr : A.frames = X.A.frames) (hg : A.guards = some g) (I : Inv X pins σ H s) (h : Is CR H (.tup ds) (.ref a))
    (ab : Above CR H g (Dt.tup ds).ht) (hsz : base + (tupleText (Dt.texts ds)).length ≤ sizeLine) :
    wpAny (model X.prog X.w) A (pyReprUnder base (.ref a)) (Told X pins σ H (tupleText (Dt.texts ds))) X.xe s := by
  cases h with
  | tup e r =>
    refine wpAny_pyReprUnder_ref (by omega) ?_
    refine wpAny_pyReprObjUnder_twin (twin := "tuple.__repr__.under") (tup_ty I e) F.slot_tuple_repr rfl hr.units0 ?_
    refine call_twin_own (F.quiet_tuple_repr_under _) F.entry_tuple_repr_under F.check_tuple_repr_under (tup_ty I e) F.slot_tuple_repr (F.args_tuple_repr_1 _) ?_
    exact rep_tupAt (R := callEnd _ X.xe) T (isGuard_tuple_repr_under _) (units_under_tuple_repr_under _ _) (depth_tupU _ _) (frames_tupU _ _) hh ok hr fr hg I e r ab hsz (fun _ _ z => z)
      fun s' u H' I' x' => ⟨⟨_, _, rfl⟩, _, _, rfl, rfl, H', I', x'⟩

/-- all data is told -/
theorem repN (Z : RatRep X CR n) : ∀ N : Nat, RepN X CR n N := by
  have flat : ∀ {d : Dt} {t : Str} {A : Around} {pins : List (Addr × Obj)} {s : Shared} {σ : St} {H : Hp} {u : Value} {base : Nat}, Inv X pins σ H s → ReprIs X.prog X.w u t → d.text = t → base + d.text.length ≤ sizeLine →
      wpAny (model X.prog X.w) A (pyReprUnder base u) (Told X pins σ H d.text) X.xe s := by
    intro d t A pins s σ H u base I h e hz
    subst e
    exact h base hz A X.xe s _ fun tk => ⟨rfl, H, I.tok tk, Ext.rfl'⟩
  intro N
  induction N with
  | zero =>
    intro d hd ok A g pins s σ H x u base hr fr hg I ru h ab hz
    cases h with
    | non =>
      obtain rfl : u = Value.none := ru
      exact flat I ReprIs.none (by rw [Dt.text]) hz
    | bl b =>
      obtain rfl : u = Value.bool b := ru
      refine flat I (ReprIs.bool b) (by rw [Dt.text]) hz
    | int i =>
      obtain ⟨t, rfl⟩ := ru
      rw [Dt.ok] at ok
      exact flat I (ReprIs.int t ok) (by rw [Dt.text]) hz
    | rat e =>
      obtain rfl := RelV.ref_eq ru
      rw [Dt.ok] at ok
      rw [Dt.text] at hz ⊢
      exact rep_rat Z hr fr I e ok (by omega)
    | lst e r => exact absurd hd (by rw [Dt.ht]; omega)
    | tup e r => exact absurd hd (by rw [Dt.ht]; omega)
  | succ N ih =>
    intro d hd ok A g pins s σ H x u base hr fr hg I ru h ab hz
    cases id h with
    | lst e r =>
      obtain rfl := RelV.ref_eq ru
      rw [Dt.ok] at ok
      rw [Dt.ht] at hd
      rw [Dt.text] at hz ⊢
      exact rep_list_under ih (by omega) ok hr fr hg I h ab hz
    | tup e r =>
      obtain rfl := RelV.ref_eq ru
      rw [Dt.ok] at ok
      rw [Dt.ht] at hd
      rw [Dt.text] at hz ⊢
      exact rep_tup_under ih (by omega) ok hr fr hg I h ab hz
    | non => exact ih .non (by simp [Dt.ht]) ok A g pins s σ H _ u base (hr.mono (by omega)) fr hg I ru h ab hz
    | bl b => exact ih (.bl b) (by simp [Dt.ht]) ok A g pins s σ H _ u base (hr.mono (by omega)) fr hg I ru h ab hz
    | int i => exact ih (.int i) (by simp [Dt.ht]) ok A g pins s σ H _ u base (hr.mono (by omega)) fr hg I ru h ab hz
    | rat e => exact ih (.rat _ _) (by simp [Dt.ht]) ok A g pins s σ H _ u base (hr.mono (by omega)) fr hg I ru h ab hz

/-! ### the two rules -/
/-- repr(x), x a list of data (of at most the height N + 1) -/
def rRepD (CR : Addr) (N : Nat) : List V → Hp → VK → Prop := fun vs H Q => ∃ ds a, vs = [.ref a] ∧ Is CR H (.lst ds) (.ref a) ∧ Dt.hts ds ≤ N ∧ Dt.oks ds ∧ (listText (Dt.texts ds)).length ≤ sizeLine ∧
  ∀ H', Ext H H' → Q (.str (listText (Dt.texts ds))) H'
theorem call_reprD (Z : RatRep X CR n) (N : Nat) (hg : X.A.guards = some []) (hr : Room (n + N + 2) X.A) : CallR X (.builtin "repr") (rRepD CR N) := by
  intro pins s σ H vs us Q I r h
  obtain ⟨ds, a, rfl, hI, hh, ok, hz, q⟩ := h
  have e1 : us = [.ref a] := by
    cases r with
    | cons r0 r1 => cases r1; rw [RelV.ref_eq r0]
  subst e1
  have ty : s.TypeIs (.ref a) "list" := by
    cases hI with
    | lst e _ => exact lst_ty I e
  have un := hr.un
  refine call_repr_slot (by omega) ty F.slot_list_repr.toG ?_
  exact call_rep_list (repN Z N) hh ok hr.in1 rfl hg I hI Above.nil hz fun s' u H' I' x' => ⟨_, _, rfl, .str (listText (Dt.texts ds)), H', I', ⟨_, rfl⟩, q H' x'⟩
/-- {x} in an f-string, x such a list -/
def tFmtD (CR : Addr) (N : Nat) (te : TE) : TE := fun σ H Q => te σ H fun x H1 => ∃ ds a, x = .ref a ∧ Is CR H1 (.lst ds) (.ref a) ∧ Dt.hts ds ≤ N ∧ Dt.oks ds ∧ (listText (Dt.texts ds)).length ≤ sizeLine ∧
  ∀ H', Ext H1 H' → Q (.str (listText (Dt.texts ds))) H'
theorem pe_fmtD (Z : RatRep X CR n) (N : Nat) (hg : X.A.guards = some []) (hr : Room (n + N + 3) X.A) {e : Expr} {te : TE} {pos : Pos} (he : PE X e te) : PE X (.FormattedValue e (-1) none pos) (tFmtD CR N te) := by
  refine ⟨fun pins s σ H Q I h => ?_⟩
  refine wpAny_FormattedValue_plain (thn (he.run pins s σ H _ I h) fun v s1 hv => ?_)
  obtain ⟨x, H1, I1, r1, ds, a, rfl, hI, hh, ok, hz, q⟩ := hv
  obtain rfl := RelV.ref_eq r1
  have ty : s1.TypeIs (.ref a) "list" := by
    cases hI with
    | lst e _ => exact lst_ty I1 e
  have un := hr.un
  refine wpAny_formatField_slot (fun _ _ => nofun) (by omega) ty F.slot_list_format F.slot_list_str F.slot_list_repr.toG ?_
  have I2 := I1.tok (s1.toks + 1)
  exact call_rep_list (repN Z N) hh ok hr.in1.in1 rfl hg I2 hI Above.nil hz fun s' u H' I' x' => ⟨_, _, rfl, .str (listText (Dt.texts ds)), H', I', ⟨_, rfl⟩, q H' x'⟩
end
end L2

/-! == of data with own fractions within: both answers -/
namespace GB
open PySem PySem.SeqAt
open AutoSeq1 (wpAny_loadPart')
open MeetsSeq MeetsSeq2 MeetsSeq3 SeqRoads2 GQ

section
variable {prog : Program} {w : World} {A : Around} {R : Result → Shared → Prop}

/-- the lists are read anew at each turn; the i-th two compare to an i -/
def ListB (prog : Program) (w : World) (A : Around) (E : Value → Shared → Prop) (l b : Addr) (N : Nat) (an : Nat → Bool) (I : Nat → Shared → Prop) : Prop :=
  ∀ i s, I i s → ∃ (items items2 : Array Value) (n n2 : Nat), s.heap.get? l = some { cls := .type "list", data := .seq items n } ∧
    s.heap.get? b = some { cls := .type "list", data := .seq items2 n2 } ∧ items.size = N ∧ items2.size = N ∧
    ∀ (h1 : i < items.size) (h2 : i < items2.size), wpAny (model prog w) A.in1 (eqBool items[i] items2[i]) (fun r s' => r = an i ∧ I (i + 1) s') E s

theorem eq_loopB (l b : Addr) (N : Nat) (an : Nat → Bool) (I : Nat → Shared → Prop) (hl : ListB prog w A (fun e s' => R (.error e) s') l b N an I)
    (yes : ∀ s, I N s → (∀ j, j < N → an j = true) → R (.ok (.ret (.bool true))) s) (no : ∀ i s, i < N → I (i + 1) s → an i = false → R (.ok (.ret (.bool false))) s) (k : Nat) :
    ∀ i : Nat, N - i = k → i ≤ N → (∀ j, j < i → an j = true) → ∀ s, I i s →
      wpAny (model prog w) A.in1 (Builtin.«list.__eq__.loop» ⟨[.ref l, .ref b, rawInt i, rawInt 2], []⟩) (FinOf prog w A R) (fun e s' => R (.error e) s') s := by
  induction k with
  | zero =>
    intro i hk hi hj s h
    obtain ⟨items, items2, n, n2, hl1, hb1, hs1, hs2, _⟩ := hl _ _ h
    have hi' : i = N := by omega
    have hR : R (.ok (.ret (.bool true))) s := yes s (hi' ▸ h) (fun j q => hj j (by omega))
    obtain ⟨hp, g, d, tk, os⟩ := s
    wp_walk using wpAny_loadPart' hl1, wpAny_loadPart' hb1
    have hi1 : items[((i : Nat) : Int).toNat]? = none := by simp; omega
    have hi2 : items2[((i : Nat) : Int).toNat]? = none := by simp; omega
    rw [hi1, hi2]
    wp_walk using wpAny_loadPart' hl1, wpAny_loadPart' hb1
    show R (.ok (.ret (.bool (items.size == items2.size)))) _
    rw [hs1, hs2]
    simpa using hR
  | succ k ih =>
    intro i hk hi hj s h
    obtain ⟨items, items2, n, n2, hl1, hb1, hs1, hs2, turn⟩ := hl _ _ h
    have hlt : i < items.size := by omega
    have hlt2 : i < items2.size := by omega
    have ht := turn hlt hlt2
    obtain ⟨hp, g, d, tk, os⟩ := s
    wp_walk using wpAny_loadPart' hl1, wpAny_loadPart' hb1
    have hi1 : items[((i : Nat) : Int).toNat]? = some items[i] := by simp [hlt]
    have hi2 : items2[((i : Nat) : Int).toNat]? = some items2[i] := by simp [hlt2]
    have hc : ((i : Int) + 1) = ((i + 1 : Nat) : Int) := by omega
    rw [hi1, hi2]
    refine wpAny_bind (wpAny_mono ht (fun r s2 h2 => ?_) fun _ _ x => x)
    obtain ⟨hr, h2⟩ := h2
    subst hr
    cases ha : an i with
    | true =>
      have hrec := ih (i + 1) (by omega) (by omega) (fun j q => by
        rcases Nat.lt_or_ge j i with z | z
        · exact hj j z
        · have : j = i := by omega
          rw [this]; exact ha) s2 h2
      obtain ⟨hp2, g2, d2, tk2, os2⟩ := s2
      wp_walk
      rw [hc]
      exact ⟨plainId_quiet plain_eq_loop _, codeAny_builtin entry_eq_loop (by
        rw [Around.under_plainId plain_eq_loop _]
        exact hrec)⟩
    | false =>
      have hno := no i s2 (by omega) h2 ha
      obtain ⟨it3, it4, n3, n4, hl3, hb3, hs3, hs4, _⟩ := hl _ _ h2
      obtain ⟨hp2, g2, d2, tk2, os2⟩ := s2
      wp_walk using wpAny_loadPart' hl3, wpAny_loadPart' hb3
      have hi3 : it3[((i : Nat) : Int).toNat]? = some it3[i] := by simp
      have hi4 : it4[((i : Nat) : Int).toNat]? = some it4[i] := by simp
      rw [hi3, hi4]
      wp_walk
      exact hno

theorem list_eqB (l b : Addr) (N : Nat) (an : Nat → Bool) (I : Nat → Shared → Prop) (hl : ListB prog w A (fun e s' => R (.error e) s') l b N an I)
    (yes : ∀ s, I N s → (∀ j, j < N → an j = true) → R (.ok (.ret (.bool true))) s) (no : ∀ i s, i < N → I (i + 1) s → an i = false → R (.ok (.ret (.bool false))) s) {s : Shared} (h : I 0 s) :
    wpAny (model prog w) A.in1 (Builtin.«list.__eq__» ⟨[.ref l, .ref b], []⟩) (FinOf prog w A R) (fun e s' => R (.error e) s') s := by
  obtain ⟨items, items2, n, n2, hl1, hb1, hs1, hs2, _⟩ := hl _ _ h
  have hrec := eq_loopB (A := A) (R := R) l b N an I hl yes no _ 0 rfl (Nat.zero_le _) (fun j q => absurd q (Nat.not_lt_zero _)) s h
  obtain ⟨hp, g, d, tk, os⟩ := s
  have f3 := AutoSeq1.sub_list_list
  have hne : ¬ (items.size != items2.size) = true := by simp [hs1, hs2]
  wp_walk using wpAny_loadPart' hl1, wpAny_loadPart' hb1
  exact ⟨plainId_quiet plain_eq_loop _, codeAny_builtin entry_eq_loop (by
    rw [Around.under_plainId plain_eq_loop _]
    exact hrec)⟩
/-- lists of other lengths -/
theorem list_eqL (l b : Addr) (items items2 : Array Value) (n n2 : Nat) {s : Shared} (hl1 : s.heap.get? l = some { cls := .type "list", data := .seq items n }) (hb1 : s.heap.get? b = some { cls := .type "list", data := .seq items2 n2 })
    (hz : items.size ≠ items2.size) (no : R (.ok (.ret (.bool false))) s) :
    wpAny (model prog w) A.in1 (Builtin.«list.__eq__» ⟨[.ref l, .ref b], []⟩) (FinOf prog w A R) (fun e s' => R (.error e) s') s := by
  obtain ⟨hp, g, d, tk, os⟩ := s
  have f3 := AutoSeq1.sub_list_list
  have hne : (items.size != items2.size) = true := by simpa using hz
  wp_walk using wpAny_loadPart' hl1, wpAny_loadPart' hb1
  exact no
/-- != of two lists of other lengths, of two empty ones -/
theorem list_neL (l b : Addr) (items items2 : Array Value) (n n2 : Nat) {s : Shared} (hl1 : s.heap.get? l = some { cls := .type "list", data := .seq items n }) (hb1 : s.heap.get? b = some { cls := .type "list", data := .seq items2 n2 })
    (hz : items.size ≠ items2.size) (no : R (.ok (.ret (.bool true))) s) :
    wpAny (model prog w) A.in1 (Builtin.«list.__ne__» ⟨[.ref l, .ref b], []⟩) (FinOf prog w A R) (fun e s' => R (.error e) s') s := by
  obtain ⟨hp, g, d, tk, os⟩ := s
  have f3 := AutoSeq1.sub_list_list
  have hne : (items.size != items2.size) = true := by simpa using hz
  wp_walk using wpAny_loadPart' hl1, wpAny_loadPart' hb1
  exact no
theorem list_ne0 (l b : Addr) (n n2 : Nat) {s : Shared} (hl1 : s.heap.get? l = some { cls := .type "list", data := .seq #[] n }) (hb1 : s.heap.get? b = some { cls := .type "list", data := .seq #[] n2 })
    (no : R (.ok (.ret (.bool false))) s) :
    wpAny (model prog w) A.in1 (Builtin.«list.__ne__» ⟨[.ref l, .ref b], []⟩) (FinOf prog w A R) (fun e s' => R (.error e) s') s := by
  obtain ⟨hp, g, d, tk, os⟩ := s
  have f3 := AutoSeq1.sub_list_list
  wp_walk using wpAny_loadPart' hl1, wpAny_loadPart' hb1
  refine ⟨plainId_quiet plain_eq_loop _, codeAny_builtin entry_eq_loop (by
    rw [Around.under_plainId plain_eq_loop _]
    wp_walk using wpAny_loadPart' hl1, wpAny_loadPart' hb1
    exact no)⟩

theorem tuple_eqB (l b : Addr) (items items2 : Array Value) (n n2 : Nat) (dd dd2 : Option Addr) (sl sl2 : Array (Option Value)) (an : Nat → Bool) (I : Nat → Shared → Prop)
    (turn : ∀ i (h1 : i < items.size) (h2 : i < items2.size) s, I i s → wpAny (model prog w) A.in1 (eqBool items[i] items2[i]) (fun r s' => r = an i ∧ I (i + 1) s') (fun e s' => R (.error e) s') s)
    (yes : ∀ i s, I i s → (∀ j, j < items.size → j < items2.size → an j = true) → R (.ok (.ret (.bool (items.size == items2.size)))) s)
    (no : ∀ i s, i < items.size → i < items2.size → I (i + 1) s → an i = false → R (.ok (.ret (.bool false))) s) {s : Shared}
    (hl1 : s.heap.get? l = some { cls := .type "tuple", dict := dd, data := .seq items n, slots := sl }) (hb1 : s.heap.get? b = some { cls := .type "tuple", dict := dd2, data := .seq items2 n2, slots := sl2 }) (h : I 0 s) :
    wpAny (model prog w) A.in1 (Builtin.«tuple.__eq__» ⟨[.ref l, .ref b], []⟩) (FinOf prog w A R) (fun e s' => R (.error e) s') s := by
  have f2 := AutoSeq1.sub_tuple_tuple
  have hZ : (items.toList.zip items2.toList).length = min items.size items2.size := by simp
  have h0 := h
  obtain ⟨hp, g, d, tk, os⟩ := s
  wp_walk using wpAny_loadPart' hl1, wpAny_loadPart' hb1, wpAny_forIn_list _ (fun rest b s' => b.1 = none ∧ ∃ i, rest = (items.toList.zip items2.toList).drop i ∧ i ≤ min items.size items2.size ∧ (∀ j, j < i → an j = true) ∧ I i s') _
  case turn =>
    rintro ⟨y, x⟩ rest b s' ⟨hb', i, hz, hi, hj, hI⟩
    have hlt : i < (items.toList.zip items2.toList).length := by
      rcases Nat.lt_or_ge i (items.toList.zip items2.toList).length with h' | h'
      · exact h'
      · rw [List.drop_of_length_le h'] at hz; cases hz
    have h1 : i < items.size := by omega
    have h2 : i < items2.size := by omega
    rw [List.drop_eq_getElem_cons hlt] at hz
    injection hz with hyx hrest
    have hy : y = items[i] := by have := congrArg Prod.fst hyx; simpa using this
    have hx : x = items2[i] := by have := congrArg Prod.snd hyx; simpa using this
    subst hy hx
    refine wpAny_bind (wpAny_mono (turn i h1 h2 s' hI) (fun r s2 q2 => ?_) fun _ _ x => x)
    obtain ⟨hr, q2⟩ := q2
    subst hr
    cases ha : an i with
    | true =>
      wp_walk
      refine ⟨rfl, i + 1, hrest, by omega, fun j q => ?_, q2⟩
      rcases Nat.lt_or_ge j i with z | z
      · exact hj j z
      · have : j = i := by omega
        rw [this]; exact ha
    | false =>
      have hno := no i s2 h1 h2 q2 ha
      wp_walk
      exact hno
  case fin =>
    rintro ⟨b1, b2⟩ s' ⟨hb', i, hz, hi, hj, hI⟩
    simp only at hb'
    subst hb'
    have hge : min items.size items2.size ≤ i := by
      rcases Nat.lt_or_ge i (items.toList.zip items2.toList).length with h' | h'
      · rw [List.drop_eq_getElem_cons h'] at hz; cases hz
      · exact hZ ▸ h'
    have hR := yes i s' hI (fun j q1 q2 => hj j (by omega))
    wp_walk
    simpa [Builtin.Tuple.tupleCompareSizes] using hR
  case h =>
    exact ⟨rfl, 0, rfl, Nat.zero_le _, fun j q => absurd q (Nat.not_lt_zero _), h0⟩
end
end GB

namespace L2
open PySem PySem.Spec PyProof.Rows

mutual
/-- whether two data are the same -/
def Dt.same : Dt → Dt → Bool
  | .non, .non => true
  | .bl a, .bl b => a == b
  | .int a, .int b => a == b
  | .rat a b, .rat c d => a == c && b == d
  | .lst ds, .lst es => Dt.sames ds es
  | .tup ds, .tup es => Dt.sames ds es
  | _, _ => false
def Dt.sames : List Dt → List Dt → Bool
  | [], [] => true
  | d :: ds, e :: es => d.same e && Dt.sames ds es
  | _, _ => false
end
mutual
/-- data of one make: what is compared here -/
def Dt.cmp : Dt → Dt → Prop
  | .int _, .int _ => True
  | .rat _ _, .rat _ _ => True
  | .lst ds, .lst es => Dt.cmps ds es
  | .tup ds, .tup es => Dt.cmps ds es
  | _, _ => False
def Dt.cmps : List Dt → List Dt → Prop
  | d :: ds, e :: es => d.cmp e ∧ Dt.cmps ds es
  | _, _ => True
end
mutual
theorem same_self : ∀ d : Dt, d.same d = true
  | .non => by simp [Dt.same]
  | .bl b => by simp [Dt.same]
  | .int i => by simp [Dt.same]
  | .rat t b => by simp [Dt.same]
  | .lst ds => by rw [Dt.same]; exact sames_self ds
  | .tup ds => by rw [Dt.same]; exact sames_self ds
theorem sames_self : ∀ ds : List Dt, Dt.sames ds ds = true
  | [] => by simp [Dt.sames]
  | d :: ds => by rw [Dt.sames, same_self d, sames_self ds]; rfl
end
mutual
theorem same_eq : ∀ {d e : Dt}, d.same e = true → d = e
  | .non, e, h => by cases e <;> simp [Dt.same] at h ⊢
  | .bl b, e, h => by cases e <;> simp [Dt.same] at h ⊢; exact h
  | .int i, e, h => by cases e <;> simp [Dt.same] at h ⊢; exact h
  | .rat t b, e, h => by cases e <;> simp [Dt.same] at h ⊢; exact h
  | .lst ds, e, h => by
    cases e with
    | lst es => rw [Dt.same] at h; rw [sames_eq h]
    | _ => simp [Dt.same] at h
  | .tup ds, e, h => by
    cases e with
    | tup es => rw [Dt.same] at h; rw [sames_eq h]
    | _ => simp [Dt.same] at h
theorem sames_eq : ∀ {ds es : List Dt}, Dt.sames ds es = true → ds = es
  | [], es, h => by cases es <;> simp [Dt.sames] at h ⊢
  | d :: ds, es, h => by
    cases es with
    | nil => simp [Dt.sames] at h
    | cons e es =>
      rw [Dt.sames, Bool.and_eq_true] at h
      rw [same_eq h.1, sames_eq h.2]
end
theorem same_iff {d e : Dt} : d.same e = true ↔ d = e := ⟨same_eq, fun h => by rw [h]; exact same_self e⟩
theorem same_false {d e : Dt} (h : d ≠ e) : d.same e = false := by
  cases q : d.same e with
  | false => rfl
  | true => exact absurd (same_eq q) h
theorem cmps_get : ∀ {ds es : List Dt} {i : Nat} {d e : Dt}, Dt.cmps ds es → ds[i]? = some d → es[i]? = some e → d.cmp e
  | [], _, _, _, _, _, h, _ => by simp at h
  | _ :: _, [], _, _, _, _, _, h => by simp at h
  | d :: ds, e :: es, 0, d', e', h, h1, h2 => by
    rw [Dt.cmps] at h
    have a : d = d' := Option.some.inj h1
    have b : e = e' := Option.some.inj h2
    rw [← a, ← b]
    exact h.1
  | d :: ds, e :: es, i + 1, d', e', h, h1, h2 => by
    rw [Dt.cmps] at h
    exact cmps_get (i := i) h.2 (by simpa using h1) (by simpa using h2)
theorem sames_all : ∀ {ds es : List Dt}, ds.length = es.length → (∀ (i : Nat) d e, ds[i]? = some d → es[i]? = some e → d.same e = true) → Dt.sames ds es = true
  | [], [], _, _ => by simp [Dt.sames]
  | [], _ :: _, h, _ => by simp at h
  | _ :: _, [], h, _ => by simp at h
  | d :: ds, e :: es, h, k => by
    rw [Dt.sames, k 0 d e rfl rfl, sames_all (by simpa using h) fun i d' e' h1 h2 => k (i + 1) d' e' (by simpa using h1) (by simpa using h2)]
    rfl
theorem sames_len {ds es : List Dt} (h : ds.length ≠ es.length) : Dt.sames ds es = false := by
  cases q : Dt.sames ds es with
  | false => rfl
  | true => exact absurd (by rw [sames_eq q]) h
theorem sames_at {ds es : List Dt} {i : Nat} {d e : Dt} (h1 : ds[i]? = some d) (h2 : es[i]? = some e) (h : d.same e = false) : Dt.sames ds es = false := by
  cases q : Dt.sames ds es with
  | false => rfl
  | true =>
    have z := sames_eq q
    subst z
    rw [h1] at h2
    cases h2
    rw [same_self] at h
    cases h

def spRatEq (CR : Addr) : Sp := fun vs H Q _ => ∃ a b dx dy t1 b1 t2 b2, vs = [.ref a, .ref b] ∧ H a = some (.ins CR dx (ratF t1 b1)) ∧ H b = some (.ins CR dy (ratF t2 b2)) ∧
  ∀ H', Ext H H' → Q (.bl (t1 == t2 && b1 == b2)) H'
/-- the own __eq__ of the fractions, at the level n -/
structure RatEq (X : Cx) (CR : Addr) (n : Nat) : Prop where
  ex : ∃ f fd, FnOk X.prog X.w X.K X.mg X.base CX0 n f fd ["self", "other"] (spRatEq CR) ∧ PySem.W.findIn X.K (.ref CR) "__eq__" = some (some (.ref f)) ∧
    PySem.W.isFn X.K (.ref f) = true ∧ Binds X.K fd ["self", "other"] []

section
variable {X : Cx} {CR : Addr} {n : Nat} {pins : List (Addr × Obj)} {σ : St} {H : Hp} {s : Shared}

/-- what comparing gives -/
abbrev Gave (X : Cx) (pins : List (Addr × Obj)) (σ : St) (H : Hp) (c r : Bool) (s' : Shared) : Prop := r = c ∧ ∃ H', Inv X pins σ H' s' ∧ Ext H H'
abbrev GaveV (X : Cx) (pins : List (Addr × Obj)) (σ : St) (H : Hp) (c : Bool) (v : Value) (s' : Shared) : Prop := v = .bool c ∧ ∃ H', Inv X pins σ H' s' ∧ Ext H H'

theorem rc_rat (T : RatEq X CR n) {A : Around} {a b dx dy : Addr} {t1 b1 t2 b2 : Int} {E : Value → Shared → Prop} (hr : Room n A) (fr : A.frames = X.A.frames) (I : Inv X pins σ H s)
    (ea : H a = some (.ins CR dx (ratF t1 b1))) (eb : H b = some (.ins CR dy (ratF t2 b2))) :
    wpAny (model X.prog X.w) A (richCompare .Eq (.ref a) (.ref b)) (GaveV X pins σ H (t1 == t2 && b1 == b2)) E s := by
  obtain ⟨f, fd, F, hs, hf, hb⟩ := T.ex
  obtain ⟨mA, J, _⟩ := ins_get I.hok ea
  obtain ⟨mB, J', _⟩ := ins_get I.hok eb
  obtain ⟨od, J, _⟩ := J.look
  obtain ⟨od', J', _⟩ := J'.look
  obtain ⟨m, hF⟩ := I.fr
  refine PySem.W.cmp_K (op := .Eq) (tb := .ref CR) hr.units0 hF I.ok.mod.kin J J'.type (by simp [PySem.W.notFirst]) hs hf ?_
  have hsp : spRatEq CR [.ref a, .ref b] H (fun v H' => v = .bl (t1 == t2 && b1 == b2) ∧ Ext H H') E0 := ⟨a, b, dx, dy, t1, b1, t2, b2, rfl, ea, eb, fun H' x => ⟨rfl, x⟩⟩
  refine wpAny_mono (run_below (E := E) F hr fr hb I (vs := [.ref a, .ref b]) (.cons rfl (.cons rfl .nil)) hsp) (fun v s' q => ?_) fun _ _ z => z
  obtain ⟨v', H', I', rv, rfl, x⟩ := q
  obtain rfl : v = Value.bool _ := rv
  exact ⟨rfl, H', I', x⟩

/-- all data of at most this height compares -/
def EqN (X : Cx) (CR : Addr) (n N : Nat) : Prop :=
  ∀ (d e : Dt), d.cmp e → d.ht ≤ N → ∀ (A : Around) (pins : List (Addr × Obj)) (s : Shared) (σ : St) (H : Hp) (x y : V) (u v : Value),
    Room (n + N) A → A.frames = X.A.frames → Inv X pins σ H s → RelV x u → RelV y v → Is CR H d x → Is CR H e y →
    wpAny (model X.prog X.w) A (eqBool u v) (Gave X pins σ H (d.same e)) X.xe s

theorem bool_and_eq {t1 b1 t2 b2 : Int} : (Dt.rat t1 b1).same (.rat t2 b2) = (t1 == t2 && b1 == b2) := by rw [Dt.same]

/-- one turn over the items -/
theorem eq_turn {N : Nat} (T : EqN X CR n N) {A : Around} {ds es : List Dt} {xs ys : List V} {its its2 : List Value} {H0 : Hp} (hr : Room (n + N + 1) A) (fr : A.frames = X.A.frames)
    (c : Dt.cmps ds es) (hh : Dt.hts ds ≤ N) (r1 : Iss CR H0 ds xs) (r2 : Iss CR H0 es ys) (v1 : Vals xs its) (v2 : Vals ys its2) (i : Nat) (h1 : i < its.toArray.size) (h2 : i < its2.toArray.size)
    (s' : Shared) (I : ∃ H', Inv X pins σ H' s' ∧ Ext H0 H') :
    wpAny (model X.prog X.w) A.in1 (eqBool its.toArray[i] its2.toArray[i]) (fun r s2 => r = ((ds.getD i .non).same (es.getD i .non)) ∧ ∃ H', Inv X pins σ H' s2 ∧ Ext H0 H') X.xe s' := by
  obtain ⟨H1, I1, e1⟩ := I
  have l1 := v1.length
  have l2 := v2.length
  have k1 : i < xs.length := by simp at h1; omega
  have k2 : i < ys.length := by simp at h2; omega
  have g1 := List.getElem?_eq_getElem k1
  have g2 := List.getElem?_eq_getElem k2
  obtain ⟨u, hu, ru⟩ := v1.get g1
  obtain ⟨v, hv, rv⟩ := v2.get g2
  obtain ⟨d, hd, isd⟩ := r1.get g1
  obtain ⟨e, he, ise⟩ := r2.get g2
  have eu : its.toArray[i] = u := by
    have z : its[i]? = some its.toArray[i] := by
      have h1' : i < its.length := by simpa using h1
      rw [List.getElem?_eq_getElem h1'] <;> simp
    rw [z] at hu
    exact Option.some.inj hu
  have ev : its2.toArray[i] = v := by
    have z : its2[i]? = some its2.toArray[i] := by
      have h2' : i < its2.length := by simpa using h2
      rw [List.getElem?_eq_getElem h2'] <;> simp
    rw [z] at hv
    exact Option.some.inj hv
  rw [eu, ev]
  have ed : ds.getD i .non = d := by rw [List.getD_eq_getElem?_getD, hd]; rfl
  have ee : es.getD i .non = e := by rw [List.getD_eq_getElem?_getD, he]; rfl
  rw [ed, ee]
  refine wpAny_mono (T d e (cmps_get c hd he) (Nat.le_trans (hts_get hd) hh) A.in1 pins s' σ H1 _ _ u v hr.in1 fr I1 ru rv (isd.ext e1) (ise.ext e1)) (fun r s2 q => ?_) fun _ _ z => z
  obtain ⟨rfl, H2, I2, e2⟩ := q
  exact ⟨rfl, H2, I2, e1.trans e2⟩

theorem rc_lst {N : Nat} (T : EqN X CR n N) {A : Around} {ds es : List Dt} {a b : Addr} (hr : Room (n + N + 1) A) (fr : A.frames = X.A.frames) (c : Dt.cmps ds es) (hh : Dt.hts ds ≤ N)
    (I : Inv X pins σ H s) (h1 : Is CR H (.lst ds) (.ref a)) (h2 : Is CR H (.lst es) (.ref b)) :
    wpAny (model X.prog X.w) A (richCompare .Eq (.ref a) (.ref b)) (GaveV X pins σ H (Dt.sames ds es)) X.xe s := by
  cases h1 with
  | lst ea r1 =>
    cases h2 with
    | lst eb r2 =>
      rename_i xs ys
      obtain ⟨_, its, k, rv, e⟩ := (show ObjOk X.prog X.w H s.heap a (.lst xs) from I.hok a _ ea)
      obtain ⟨_, its2, k2, rv2, e2⟩ := (show ObjOk X.prog X.w H s.heap b (.lst ys) from I.hok b _ eb)
      have n1 := r1.length
      have n2 := r2.length
      have m1 := rv.length
      have m2 := rv2.length
      refine wpAny_richCompare_same_room (op := .Eq) ⟨_, e, rfl⟩ ⟨_, e2, rfl⟩ F.slot_list_eq (GQ.call_here F.slot_list_eq ⟨_, e, rfl⟩ F.entry_list_eq (F.args_list_eq_2 _ _) ?_) hr.units0
      by_cases hl : ds.length = es.length
      · refine GB.list_eqB (R := wants (fun v s' => v ≠ .notImplemented ∧ GaveV X pins σ H (Dt.sames ds es) v s') X.xe) a b xs.length (fun i => (ds.getD i .non).same (es.getD i .non))
          (fun _ s' => ∃ H', Inv X pins σ H' s' ∧ Ext H H') (fun i s' q => ?_) (fun s' q al => ?_) (fun i s' hi q al => ?_) ⟨H, I, Ext.rfl'⟩
        · obtain ⟨H1, I1, x1⟩ := id q
          obtain ⟨_, js, j, w1, f1⟩ := (show ObjOk X.prog X.w H1 s'.heap a (.lst xs) from I1.hok a _ (x1 _ _ ea))
          obtain ⟨_, js2, j2, w2, f2⟩ := (show ObjOk X.prog X.w H1 s'.heap b (.lst ys) from I1.hok b _ (x1 _ _ eb))
          have o1 := w1.length
          have o2 := w2.length
          exact ⟨js.toArray, js2.toArray, j, j2, f1, f2, by simp; omega, by simp; omega, fun q1 q2 => eq_turn T hr fr c hh r1 r2 w1 w2 i q1 q2 s' q⟩
        · refine ⟨(fun x => nomatch x), ?_, q⟩
          rw [sames_all hl fun i d e hd he => ?_]
          have hi : i < xs.length := by
            have := (List.getElem?_eq_some_iff.mp hd).1
            omega
          have z := al i hi
          simpa [List.getD_eq_getElem?_getD, hd, he] using z
        · refine ⟨(fun x => nomatch x), ?_, q⟩
          have i1 : i < ds.length := by omega
          have i2 : i < es.length := by omega
          have g1 := List.getElem?_eq_getElem i1
          have g2 := List.getElem?_eq_getElem i2
          rw [sames_at g1 g2 (by simpa [List.getD_eq_getElem?_getD, g1, g2] using al)]
      · refine GB.list_eqL (R := wants (fun v s' => v ≠ .notImplemented ∧ GaveV X pins σ H (Dt.sames ds es) v s') X.xe) a b its.toArray its2.toArray k k2 e e2 (by simp; omega) ⟨(fun x => nomatch x), ?_, H, I, Ext.rfl'⟩
        rw [sames_len hl]

theorem rc_tup {N : Nat} (T : EqN X CR n N) {A : Around} {ds es : List Dt} {a b : Addr} (hr : Room (n + N + 1) A) (fr : A.frames = X.A.frames) (c : Dt.cmps ds es) (hh : Dt.hts ds ≤ N)
    (I : Inv X pins σ H s) (h1 : Is CR H (.tup ds) (.ref a)) (h2 : Is CR H (.tup es) (.ref b)) :
    wpAny (model X.prog X.w) A (richCompare .Eq (.ref a) (.ref b)) (GaveV X pins σ H (Dt.sames ds es)) X.xe s := by
  cases h1 with
  | tup ea r1 =>
    cases h2 with
    | tup eb r2 =>
      rename_i xs ys
      obtain ⟨_, its, rv, ⟨cls, dd, data, sl⟩, ho, hc, k, hd⟩ := (show ObjOk X.prog X.w H s.heap a (.tup xs) from I.hok a _ ea)
      obtain ⟨_, its2, rv2, ⟨cls2, dd2, data2, sl2⟩, ho2, hc2, k2, hd2⟩ := (show ObjOk X.prog X.w H s.heap b (.tup ys) from I.hok b _ eb)
      simp only at hc hd hc2 hd2
      subst hc hd hc2 hd2
      have n1 := r1.length
      have n2 := r2.length
      have m1 := rv.length
      have m2 := rv2.length
      refine wpAny_richCompare_same_room (op := .Eq) ⟨_, ho, rfl⟩ ⟨_, ho2, rfl⟩ F.slot_tuple_eq (GQ.call_here F.slot_tuple_eq ⟨_, ho, rfl⟩ F.entry_tuple_eq (F.args_tuple_eq_2 _ _) ?_) hr.units0
      refine GB.tuple_eqB (R := wants (fun v s' => v ≠ .notImplemented ∧ GaveV X pins σ H (Dt.sames ds es) v s') X.xe) a b its.toArray its2.toArray k k2 dd dd2 sl sl2 (fun i => (ds.getD i .non).same (es.getD i .non))
          (fun _ s' => ∃ H', Inv X pins σ H' s' ∧ Ext H H') (fun i q1 q2 s' q => eq_turn T hr fr c hh r1 r2 rv rv2 i q1 q2 s' q) (fun i s' q al => ?_) (fun i s' hi hi2 q al => ?_) ho ho2 ⟨H, I, Ext.rfl'⟩
      · refine ⟨(fun x => nomatch x), ?_, q⟩
        by_cases hl : ds.length = es.length
        · rw [sames_all hl fun i d e hd he => ?_]
          · have : its.length = its2.length := by omega
            simp [this]
          have hi : i < ds.length := (List.getElem?_eq_some_iff.mp hd).1
          have z := al i (by simp; omega) (by simp; omega)
          simpa [List.getD_eq_getElem?_getD, hd, he] using z
        · rw [sames_len hl]
          have : its.length ≠ its2.length := by omega
          simp [this]
      · refine ⟨(fun x => nomatch x), ?_, q⟩
        simp at hi hi2
        have i1 : i < ds.length := by omega
        have i2 : i < es.length := by omega
        have g1 := List.getElem?_eq_getElem i1
        have g2 := List.getElem?_eq_getElem i2
        rw [sames_at g1 g2 (by simpa [List.getD_eq_getElem?_getD, g1, g2] using al)]

/-- from a rich comparison to == inside a list: the same object is equal to itself -/
theorem eqB_of {A : Around} {d e : Dt} {a b : Addr} (I : Inv X pins σ H s) (h1 : Is CR H d (.ref a)) (h2 : Is CR H e (.ref b))
    (h : wpAny (model X.prog X.w) A (richCompare .Eq (.ref a) (.ref b)) (GaveV X pins σ H (d.same e)) X.xe s) :
    wpAny (model X.prog X.w) A (eqBool (.ref a) (.ref b)) (Gave X pins σ H (d.same e)) X.xe s := by
  by_cases hab : a = b
  · subst hab
    have z := h1.det h2
    subst z
    exact SeqAt.EqAt.same (A := A) (s := s) (.ref a) X.prog X.w X.xe _ ⟨(same_self d).symm, H, I, Ext.rfl'⟩
  · refine GQ.eqBool_refG hab (wpAny_mono h (fun r s' q => ?_) fun _ _ x => x)
    obtain ⟨rfl, q⟩ := q
    exact ⟨_, rfl, rfl, q⟩

theorem eqN (Z : RatEq X CR n) : ∀ N : Nat, EqN X CR n N := by
  intro N
  induction N with
  | zero =>
    intro d e c hd A pins s σ H x y u v hr fr I ru rv h1 h2
    cases id h1 with
    | int i =>
      cases id h2 with
      | int j =>
        obtain ⟨t, rfl⟩ := ru
        obtain ⟨t', rfl⟩ := rv
        have q := eqG_flat (X := X) A pins s σ H (.int i) (.int j) (.int i t) (.int j t')
        refine wpAny_eqBool_int ⟨?_, H, I, Ext.rfl'⟩
        rw [Dt.same]
      | _ => simp [Dt.cmp] at c
    | rat e1 =>
      cases id h2 with
      | rat e2 =>
        obtain rfl := RelV.ref_eq ru
        obtain rfl := RelV.ref_eq rv
        refine eqB_of I h1 h2 ?_
        rw [bool_and_eq]
        exact rc_rat Z hr fr I e1 e2
      | _ => simp [Dt.cmp] at c
    | lst e r => exact absurd hd (by rw [Dt.ht]; omega)
    | tup e r => exact absurd hd (by rw [Dt.ht]; omega)
    | non => cases e <;> simp [Dt.cmp] at c
    | bl b => cases e <;> simp [Dt.cmp] at c
  | succ N ih =>
    intro d e c hd A pins s σ H x y u v hr fr I ru rv h1 h2
    have lower : d.ht ≤ N → wpAny (model X.prog X.w) A (eqBool u v) (Gave X pins σ H (d.same e)) X.xe s := fun hl =>
      ih d e c hl A pins s σ H x y u v (hr.mono (by omega)) fr I ru rv h1 h2
    cases id h1 with
    | lst e1 r1 =>
      cases id h2 with
      | lst e2 r2 =>
        obtain rfl := RelV.ref_eq ru
        obtain rfl := RelV.ref_eq rv
        rw [Dt.cmp] at c
        rw [Dt.ht] at hd
        have z := eqB_of (A := A) I h1 h2
        rw [Dt.same] at z ⊢
        exact z (rc_lst ih hr fr c (by omega) I h1 h2)
      | _ => simp [Dt.cmp] at c
    | tup e1 r1 =>
      cases id h2 with
      | tup e2 r2 =>
        obtain rfl := RelV.ref_eq ru
        obtain rfl := RelV.ref_eq rv
        rw [Dt.cmp] at c
        rw [Dt.ht] at hd
        have z := eqB_of (A := A) I h1 h2
        rw [Dt.same] at z ⊢
        exact z (rc_tup ih hr fr c (by omega) I h1 h2)
      | _ => simp [Dt.cmp] at c
    | non => exact lower (by simp [Dt.ht])
    | bl b => exact lower (by simp [Dt.ht])
    | int i => exact lower (by simp [Dt.ht])
    | rat e => exact lower (by simp [Dt.ht])

/-! ### the rules -/
/-- x == y of two lists (tuples) of data -/
def rEqDt (CR : Addr) (N : Nat) : R2 := fun x y H Q => ∃ ds es, ((Is CR H (.lst ds) x ∧ Is CR H (.lst es) y) ∨ (Is CR H (.tup ds) x ∧ Is CR H (.tup es) y)) ∧ Dt.cmps ds es ∧ Dt.hts ds ≤ N ∧
  ∀ H', Ext H H' → Q (.bl (Dt.sames ds es)) H'
theorem op_eqDt (Z : RatEq X CR n) (N : Nat) (hr : Room (n + N + 1) X.A) : OpR X (compareOp .Eq) (rEqDt CR N) := by
  intro pins s σ H x y v u Q I rx ry hq
  obtain ⟨ds, es, h, c, hh, q⟩ := hq
  show wpAny (model X.prog X.w) X.A (richCompare .Eq v u) (EP X pins σ Q) X.xe s
  have back : ∀ (r : Value) (s' : Shared), GaveV X pins σ H (Dt.sames ds es) r s' → EP X pins σ Q r s' := fun r s' z => by
    obtain ⟨rfl, H', I', e⟩ := z
    exact ⟨.bl _, H', I', rfl, q H' e⟩
  rcases h with ⟨h1, h2⟩ | ⟨h1, h2⟩
  · cases id h1 with
    | lst e1 r1 =>
      cases id h2 with
      | lst e2 r2 =>
        obtain rfl := RelV.ref_eq rx
        obtain rfl := RelV.ref_eq ry
        exact wpAny_mono (rc_lst (eqN Z N) hr rfl c hh I h1 h2) back fun _ _ z => z
  · cases id h1 with
    | tup e1 r1 =>
      cases id h2 with
      | tup e2 r2 =>
        obtain rfl := RelV.ref_eq rx
        obtain rfl := RelV.ref_eq ry
        exact wpAny_mono (rc_tup (eqN Z N) hr rfl c hh I h1 h2) back fun _ _ z => z

/-- xs != ys of two lists, one of which is empty -/
def rNeL : R2 := fun x y H Q => ∃ a b xs, x = .ref a ∧ y = .ref b ∧ H a = some (.lst xs) ∧ H b = some (.lst []) ∧ Q (.bl (decide (xs ≠ []))) H
theorem op_neL (hu : X.A.units < cLine) : OpR X (compareOp .NotEq) rNeL := by
  intro pins s σ H x y v u Q I rx ry hq
  obtain ⟨a, b, xs, rfl, rfl, ea, eb, q⟩ := hq
  obtain rfl := RelV.ref_eq rx
  obtain rfl := RelV.ref_eq ry
  obtain ⟨_, its, k, rv, e⟩ := (show ObjOk X.prog X.w H s.heap a (.lst xs) from I.hok a _ ea)
  obtain ⟨_, its2, k2, rv2, e2⟩ := (show ObjOk X.prog X.w H s.heap b (.lst []) from I.hok b _ eb)
  cases rv2
  show wpAny (model X.prog X.w) X.A (richCompare .NotEq (.ref a) (.ref b)) (EP X pins σ Q) X.xe s
  refine wpAny_richCompare_same_room (op := .NotEq) ⟨_, e, rfl⟩ ⟨_, e2, rfl⟩ F.slot_list_ne (GQ.call_here F.slot_list_ne ⟨_, e, rfl⟩ F.entry_list_ne (F.args_list_ne_2 _ _) ?_) hu
  cases rv with
  | nil =>
    refine GB.list_ne0 (R := wants (fun v s' => v ≠ .notImplemented ∧ EP X pins σ Q v s') X.xe) a b k k2 e e2 ⟨(fun x => nomatch x), .bl false, H, I, rfl, ?_⟩
    simpa using q
  | cons r0 r1 =>
    refine GB.list_neL (R := wants (fun v s' => v ≠ .notImplemented ∧ EP X pins σ Q v s') X.xe) a b _ #[] k k2 e e2 (by simp) ⟨(fun x => nomatch x), .bl true, H, I, rfl, ?_⟩
    simpa using q
end
end L2

/-! More rules: own == and != with any right side, own minus, lcm, calls with keywords alone; how heaps grow. -/
namespace L2
open PySem PySem.Spec PyProof.Rows Builtin

section
variable {prog : Program} {w : World} {A : Around} {E : Value → Shared → Prop} {s : Shared} {K : PySem.W.Frag} {x C f : Addr} {ox : Obj} {od : Option Obj} {b tb : Value}

theorem bound_builtin {id : String} {name : Str} {args : List Value} {Q : Option Value → Shared → Prop} (Y : K.In s.heap) (J : PySem.W.InstAt s.heap x ox C od)
    (hs : PySem.W.findIn K (.ref C) name = some (some (.builtin id))) (hb : ∀ self, bindSpecial (.builtin id) self = pure (.builtin id, [self]))
    (h : wpAny (model prog w) A (call (.builtin id) (.ref x :: args)) (fun v => Q (some v)) E s) : wpAny (model prog w) A (callSpecialIfBound? (.ref x) name args) Q E s := by
  simp only [callSpecialIfBound?, bindSpecialIfBound?]
  refine wpAny_holding (wpAny_bind (wpAny_bind (wpAny_bind (J.type.here ((PySem.W.looks_findIn Y hs).here ?_)))))
  refine wpAny_bind (wpAny_askSetting (wpAny_ite ?_))
  have fin : wpAny (model prog w) A (call (.builtin id) ([.ref x] ++ args) >>= fun v => pure (some v)) Q E s := wpAny_bind (wpAny_mono h (fun v s' h' => wpAny_pure h') fun _ _ h' => h')
  split
  · exact wpAny_bind ((PySem.W.Looks.of_pure (hb _)).here (wpAny_pure (by exact fin)))
  · exact wpAny_tryCatch (wpAny_bind ((PySem.W.Looks.of_pure (hb _)).here (wpAny_pure (by exact fin))))

/-- x != b, the class of x having its own == and object's != -/
theorem ne_own {Q : Value → Shared → Prop} (hu : A.in1.units < cLine) (Y : K.In s.heap) (J : PySem.W.InstAt s.heap x ox C od) (hb : PySem.W.Looks (model prog w) s.heap (typeOf b) tb)
    (hn : PySem.W.notFirst K C tb = true) (hne : PySem.W.findIn K (.ref C) "__ne__" = some (some (.builtin "object.__ne__"))) (hs : PySem.W.findIn K (.ref C) "__eq__" = some (some (.ref f)))
    (hf : PySem.W.isFn K (.ref f) = true) (hm : PySem.W.mroIn K C (.type "object") = some true)
    (h : wpAny (model prog w) A.in1 (call (.ref f) [.ref x, b]) (fun v s' => ∃ r, v = .bool r ∧ Q (.bool (!r)) s') E s) : wpAny (model prog w) A (richCompare .NotEq (.ref x) b) Q E s := by
  have hu0 : A.units < cLine := Nat.lt_of_succ_lt hu
  have one : wpAny (model prog w) A (tryCompare (.ref x) (cmpInfo .NotEq).2.1 b) (fun r s' => ∃ v, r = some v ∧ Q v s') E s := by
    unfold tryCompare
    have inner : wpAny (model prog w) A (call (.builtin "object.__ne__") [.ref x, b]) (fun v s' => v ≠ .notImplemented ∧ Q v s') E s := by
      refine wpAny_call (codeAny_call_builtin F.slot_object_ne.plain F.entry_object_ne (PySem.W.check_slot (i := "object.__ne__") (owner := "object") (n := "__ne__") (by decide +kernel) (by decide +kernel)
        (J.type.andThen (PySem.W.looks_mroIn Y hm)) (F.args_object_ne_2 _ _) ?_))
      unfold Builtin.«object.__ne__»
      refine wpAny_bind (m := slotArgs "__ne__" 1 _) (wpAny_pure ?_)
      refine wpAny_bind (m := cRoomFor _ _) (wpAny_cRoomFor hu ?_)
      refine wpAny_bind (m := callSpecialIfBound? (.ref x) (Str.ofString "__eq__") [b]) (PySem.W.ifBound_K Y J hs hf (wpAny_mono h (fun v s' hv => ?_) fun _ _ e => e))
      obtain ⟨r, rfl, hq⟩ := hv
      show wpAny _ _ (do let t ← truthy (.bool r); ret (.bool (!t))) _ _ _
      exact wpAny_bind (wpAny_truthy_bool (wpAny_pure ⟨(fun z => nomatch z), hq⟩))
    refine wpAny_bind (bound_builtin Y J hne F.slot_object_ne.bind (wpAny_mono inner (fun v s' hv => ?_) fun _ _ e => e))
    obtain ⟨hv1, hv2⟩ := hv
    cases v <;> first | exact absurd rfl hv1 | exact wpAny_pure ⟨_, rfl, hv2⟩
  unfold richCompare
  simp only [oneThing_ref]
  refine wpAny_holding (wpAny_bind (wpAny_cRoomFor hu0 ?_))
  refine wpAny_bind (J.type.here (wpAny_bind (hb.here ?_)))
  split
  · rename_i q
    have e : PySem.W.subIn K tb (.ref C) = some false := by
      rcases Bool.or_eq_true_iff.mp hn with e | e
      · rw [beq_iff_eq.mp e] at q; simp at q
      · exact beq_iff_eq.mp e
    refine wpAny_bind ((PySem.W.looks_subIn Y e).here ?_)
    simp only [Bool.false_eq_true, if_false]
    refine wpAny_bind (wpAny_mono one (fun r s' z => ?_) fun _ _ e => e)
    obtain ⟨v, rfl, hq⟩ := z
    exact wpAny_pure hq
  · refine wpAny_bind (wpAny_pure ?_)
    simp only [Bool.false_eq_true, if_false]
    refine wpAny_bind (wpAny_mono one (fun r s' z => ?_) fun _ _ e => e)
    obtain ⟨v, rfl, hq⟩ := z
    exact wpAny_pure hq
end

section
variable {X : Cx} {n : Nat} {C : Addr} {sp : Sp}
/-- the own == (and object's !=) of the class at C, at the level n; its promise sp of the two -/
structure OwnEq (X : Cx) (C : Addr) (n : Nat) (sp : Sp) : Prop where
  ex : ∃ f fd, FnOk X.prog X.w X.K X.mg X.base CX0 n f fd ["self", "other"] sp ∧ PySem.W.findIn X.K (.ref C) "__eq__" = some (some (.ref f)) ∧
    PySem.W.isFn X.K (.ref f) = true ∧ Binds X.K fd ["self", "other"] [] ∧ PySem.W.findIn X.K (.ref C) "__ne__" = some (some (.builtin "object.__ne__")) ∧ PySem.W.mroIn X.K C (.type "object") = some true

/-- x == y (x != y), x an instance, y of a type that does not come first -/
def rOwnC (K : PySem.W.Frag) (C : Addr) (sp : Sp) (neg : Bool) : R2 := fun x y H Q => ∃ a dx fs t, x = .ref a ∧ H a = some (.ins C dx fs) ∧ TyX K H y t ∧ PySem.W.notFirst K C t = true ∧
  sp [x, y] H (fun v H' => ∃ b, v = .bl b ∧ Q (.bl (if neg then !b else b)) H') E0
theorem op_eqOwn (T : OwnEq X C n sp) (hr : Room (n + 1) X.A) : OpR X (compareOp .Eq) (rOwnC X.K C sp false) := by
  intro pins s σ H x y v u Q I rx ry hq
  obtain ⟨a, dx, fs, t, rfl, ea, ty, hn, hsp⟩ := hq
  obtain ⟨f, fd, F, hs, hf, hb, hne, hm⟩ := T.ex
  obtain rfl := RelV.ref_eq rx
  obtain ⟨P, Z, p, _⟩ := kit_of I ry ty
  obtain ⟨mA, J, _⟩ := ins_get I.hok ea
  obtain ⟨od, J, _⟩ := J.look
  obtain ⟨m, hF⟩ := I.fr
  show wpAny (model X.prog X.w) X.A (richCompare .Eq (.ref a) u) (EP X pins σ Q) X.xe s
  refine PySem.W.cmp_K (op := .Eq) (tb := t) hr.units0 hF I.ok.mod.kin J (Z.ty _ _ I.kIn p) hn hs hf ?_
  refine wpAny_mono (run_below (E := X.xe) F (hr.mono (Nat.le_succ _)) rfl hb I (vs := [.ref a, y]) (.cons rfl (.cons ry .nil)) hsp) (fun v s' q => ?_) fun _ _ z => z
  obtain ⟨v', H', I', rv, b, rfl, q⟩ := q
  obtain rfl : v = Value.bool b := rv
  exact ⟨.bl b, H', I', rfl, q⟩
theorem op_neOwn (T : OwnEq X C n sp) (hr : Room (n + 1) X.A) : OpR X (compareOp .NotEq) (rOwnC X.K C sp true) := by
  intro pins s σ H x y v u Q I rx ry hq
  obtain ⟨a, dx, fs, t, rfl, ea, ty, hn, hsp⟩ := hq
  obtain ⟨f, fd, F, hs, hf, hb, hne, hm⟩ := T.ex
  obtain rfl := RelV.ref_eq rx
  obtain ⟨P, Z, p, _⟩ := kit_of I ry ty
  obtain ⟨mA, J, _⟩ := ins_get I.hok ea
  obtain ⟨od, J, _⟩ := J.look
  show wpAny (model X.prog X.w) X.A (richCompare .NotEq (.ref a) u) (EP X pins σ Q) X.xe s
  refine ne_own hr.in1.units0 I.kIn J (Z.ty _ _ I.kIn p) hn hne hs hf hm ?_
  refine wpAny_mono (run_below (E := X.xe) F hr.in1 rfl hb I (vs := [.ref a, y]) (.cons rfl (.cons ry .nil)) hsp) (fun v s' q => ?_) fun _ _ z => z
  obtain ⟨v', H', I', rv, b, rfl, q⟩ := q
  obtain rfl : v = Value.bool b := rv
  exact ⟨b, rfl, .bl (!b), H', I', rfl, q⟩

/-- x - y of two instances with an own __sub__ -/
def rSubC (C : Addr) (sp : Sp) : R2 := fun x y H Q => ∃ a b dx dy fs gs, x = .ref a ∧ y = .ref b ∧ H a = some (.ins C dx fs) ∧ H b = some (.ins C dy gs) ∧ sp [x, y] H Q E0
theorem rel_not {v : V} {u : Value} (r : RelV v u) : u ≠ .notImplemented := by
  intro e
  subst e
  cases v <;> first | (obtain ⟨_, z⟩ := r; cases z; done) | (cases r; done)
theorem op_subC {f : Addr} {fd : FuncData} {ps : List Str} (F : FnOk X.prog X.w X.K X.mg X.base CX0 n f fd ps sp) (hs : PySem.W.findIn X.K (.ref C) "__sub__" = some (some (.ref f)))
    (hf : PySem.W.isFn X.K (.ref f) = true) (hb : Binds X.K fd ps []) (hc : PySem.W.selfFirst X.K C = true) (hr : Room n X.A) : OpR X (binaryOp .Sub) (rSubC C sp) := by
  intro pins s σ H x y v u Q I rx ry hq
  obtain ⟨a, b, dx, dy, fs, gs, rfl, rfl, ea, eb, hsp⟩ := hq
  obtain rfl := RelV.ref_eq rx
  obtain rfl := RelV.ref_eq ry
  obtain ⟨mA, J, _⟩ := ins_get I.hok ea
  obtain ⟨mB, J', _⟩ := ins_get I.hok eb
  obtain ⟨od, J, _⟩ := J.look
  obtain ⟨od', J', _⟩ := J'.look
  obtain ⟨m, hF⟩ := I.fr
  refine PySem.W.binop_K (op := .Sub) hF I.ok.mod.kin J J'.type hc hs hf ?_
  refine wpAny_mono (run_below (E := X.xe) F hr rfl hb I (vs := [.ref a, .ref b]) (.cons rfl (.cons rfl .nil)) hsp) (fun v s' q => ?_) fun _ _ z => z
  obtain ⟨v', H', I', rv, q⟩ := q
  have nn := rel_not rv
  cases v <;> first | exact absurd rfl nn | exact ⟨v', H', I', rv, q⟩

/-- repr(x), x an instance with an own __repr__ that gives a text -/
def rReprC (C : Addr) (sp : Sp) : List V → Hp → VK → Prop := fun vs H Q => ∃ a dx fs, vs = [.ref a] ∧ H a = some (.ins C dx fs) ∧ sp vs H (fun v H' => ∃ t, v = .str t ∧ Q (.str t) H') E0
theorem call_reprC {f : Addr} {fd : FuncData} {ps : List Str} (F : FnG X.prog X.w X.K X.mg X.base n f fd ps sp) (hg : X.A.guards = some []) (hs : PySem.W.findIn X.K (.ref C) "__repr__" = some (some (.ref f)))
    (hf : PySem.W.isFn X.K (.ref f) = true) (hb : Binds X.K fd ps []) (hr : Room (n + 1) X.A) : CallR X (.builtin "repr") (rReprC C sp) := by
  intro pins s σ H vs us Q I r h
  obtain ⟨a, dx, fs, rfl, ea, hsp⟩ := h
  have e1 : us = [.ref a] := by
    cases r with
    | cons r0 r1 => cases r1; rw [RelV.ref_eq r0]
  subst e1
  obtain ⟨mA, J, _⟩ := ins_get I.hok ea
  obtain ⟨od, J, _⟩ := J.look
  obtain ⟨m, hF⟩ := I.fr
  refine PySem.W.repr_K hr.in1.units0 hF I.ok.mod.kin J hs hf ?_
  have e0 := I.env0
  have e1 : Env0 X.prog X.w X.K X.mg X.base X.A.in1 X.stack s H := ⟨e0.frames, e0.mod, e0.bs, e0.bsz, e0.funs, e0.frf, e0.hok, e0.bare⟩
  have hl : ([Value.ref a] ++ []).length = ps.length := by
    rw [List.append_nil, ← r.length]
    exact F.len _ _ _ _ hsp
  have bnd := hb s [.ref a] I.kIn hl
  rw [List.append_nil] at bnd
  refine wpAny_call (codeAny_mono (F.run X.A.in1 X.stack s H ⟨[.ref a], []⟩ [.ref a] [.ref a] _ E0 hg hr.in1 e1 bnd r hsp) fun r s' hq => ?_)
  cases r with
  | error e => exact False.elim hq
  | ok fl =>
    cases fl with
    | ret u =>
      obtain ⟨v, H', I', rv, t, rfl, q⟩ := I.after hq
      obtain ⟨tk, rfl⟩ := rv
      exact ⟨.str t, H', I', ⟨tk, rfl⟩, q⟩
    | next => exact False.elim hq
    | brk => exact False.elim hq
    | cont => exact False.elim hq

def rLcm : List V → Hp → VK → Prop := fun vs H Q => ∃ a b c : Int, vs = [.int a, .int b] ∧ a.natAbs < 2 ^ 64 ∧ b.natAbs < 2 ^ 64 ∧ (((Nat.lcm 1 a.natAbs).lcm b.natAbs : Nat) : Int) = c ∧ c.natAbs.log2 < bitsLine ∧ Q (.int c) H
theorem cr_lcm : CallR X (.builtin "math.lcm") rLcm := by
  intro pins s σ H vs us Q I r h
  obtain ⟨a, b, c, rfl, h1, h2, h3, h4, q⟩ := h
  obtain ⟨t, u, rfl⟩ := Vals.int2 r
  exact PySem.W.mg_lcm_v h1 h2 h3 h4 ⟨.int _, H, I.tok _, ⟨_, rfl⟩, q⟩

variable {f : Addr} {fd : FuncData} {ps ks : List Str} {g : List Value → List Value → List Value} {gV : List V → List V → List V} {x : Str} {p pos : Pos} {kws : List Keyword} {tk : TA}
theorem pe_callK0 (F : FnOk X.prog X.w X.K X.mg X.base CX0 n f fd ps sp) (hr : Room n X.A) (hg : Gl X x) (hm : X.mg x = some (.ref f)) (hk : PySem.W.keepIn X.K (.ref f) = true) (hb : KBinds X.K fd ps ks g gV)
    (hkw : PK X kws tk) (hall : (backToKw pos (keywordEach kws X.env)).all (·.1.isSome) = true := by rfl) (hks : (backToKw pos (keywordEach kws X.env)).filterMap (·.1) = ks := by rfl)
    (hdb : (x == ("__debug__" : Str)) = false := by decide)
    (hpl : ((backTo pos (starEach [] X.env)).any (·.1) || (backToKw pos (keywordEach kws X.env)).any (·.1.isNone)) = false := by rfl) :
    PE X (.Call (.Name x p) [] kws pos) (fun σ H Q => tk σ H fun zs H2 => sp (gV [] zs) H2 Q E0) := by
  refine ⟨fun pins s σ H Q I h => wpAny_Call_Name_kw (ld_glob I hg hm ?_ hdb)⟩
  refine PySem.W.callWith_KW0 (h₀ := X.base) I.ok.mod.kin hk hall ?_ hpl
  refine thn (hkw.run pos pins s σ H _ I h) fun ws s2 ⟨zs, H2, I2, rz, q2⟩ => ⟨I2.kIn, ?_⟩
  rw [hks]
  exact run_fnk (us := []) (vs := []) F hr hb pass0 I2 .nil rz q2
end

/-! ### how heaps grow -/
/-- from the data G in the heap H to the data G' in the heap H': all is kept but what M may change; new data stands at new addresses -/
structure Gr (M : Addr → Prop) (G H G' H' : Hp) : Prop where
  gg : Ext G G'
  gh : Ext G' H'
  hh : ∀ b o, ¬ M b → H b = some o → H' b = some o
  al : ∀ b, H' b = none → H b = none
  fr : ∀ b, G' b ≠ none → G b ≠ none ∨ H b = none
def noM : Addr → Prop := fun _ => False
abbrev Grow (G H G' H' : Hp) : Prop := Gr noM G H G' H'
section
variable {M : Addr → Prop} {G H G1 H1 G2 H2 : Hp} {l p : Addr} {o u : HO}
theorem Gr.refl (e : Ext G H) : Gr M G H G H := ⟨Ext.rfl', e, fun _ _ _ h => h, fun _ h => h, fun _ h => .inl h⟩
theorem Gr.trans (a : Gr M G H G1 H1) (b : Gr M G1 H1 G2 H2) : Gr M G H G2 H2 :=
  ⟨a.gg.trans b.gg, b.gh, fun c o m h => b.hh c o m (a.hh c o m h), fun c h => a.al c (b.al c h), fun c h => by
    rcases b.fr c h with z | z
    · exact a.fr c z
    · exact .inr (a.al c z)⟩
theorem Gr.weak (a : Gr noM G H G1 H1) : Gr M G H G1 H1 := ⟨a.gg, a.gh, fun c o _ h => a.hh c o (fun z => z) h, a.al, a.fr⟩
theorem none_or {H : Hp} {b : Addr} : H b = none ∨ ∃ o, H b = some o := by
  cases H b with
  | none => exact .inl rfl
  | some o => exact .inr ⟨o, rfl⟩
/-- the heap has grown, the data is the same -/
theorem Gr.ext (a : Gr M G H G1 H1) (x : Ext H1 H2) : Gr M G H G1 H2 :=
  ⟨a.gg, a.gh.trans x, fun c o m h => x c o (a.hh c o m h), fun c h => a.al c (by
    rcases none_or (H := H1) (b := c) with z | ⟨o, z⟩
    · exact z
    · rw [x c o z] at h; cases h), a.fr⟩
/-- a new thing that will not be data yet -/
theorem Gr.lay (a : Gr M G H G1 H1) (n : H1 p = none) : Gr M G H G1 (upd H1 p o) := a.ext (Ext.upd n)
/-- a new thing is data -/
theorem Gr.new (a : Gr M G H G1 H1) (n : H1 p = none) : Gr M G H (upd G1 p o) (upd H1 p o) := by
  have np : G1 p = none := by
    rcases none_or (H := G1) (b := p) with z | ⟨o, z⟩
    · exact z
    · rw [a.gh p o z] at n; cases n
  refine ⟨a.gg.trans (Ext.upd np), fun b o' h => ?_, (a.lay n).hh, (a.lay n).al, fun b h => ?_⟩
  · by_cases e : b = p
    · subst e; rw [upd_same] at h ⊢; exact h
    · rw [upd_ne e] at h ⊢; exact a.gh b o' h
  · by_cases e : b = p
    · subst e; exact .inr (a.al b n)
    · rw [upd_ne e] at h; exact a.fr b h
/-- a thing of one's own becomes data -/
theorem Gr.freeze (a : Gr M G H G1 H1) (n : H l = none) (e : H1 l = some o) (g : G1 l = none) : Gr M G H (upd G1 l o) H1 := by
  refine ⟨a.gg.trans (Ext.upd g), fun b o' h => ?_, a.hh, a.al, fun b h => ?_⟩
  · by_cases q : b = l
    · subst q; rw [upd_same] at h; cases h; exact e
    · rw [upd_ne q] at h; exact a.gh b o' h
  · by_cases q : b = l
    · subst q; exact .inr n
    · rw [upd_ne q] at h; exact a.fr b h
/-- a thing of one's own is changed -/
theorem Gr.mut (a : Gr M G H G1 H1) (n : H l = none ∨ M l) (g : G1 l = none) : Gr M G H G1 (upd H1 l u) := by
  refine ⟨a.gg, fun b o' h => ?_, fun b o' m h => ?_, fun b h => ?_, a.fr⟩
  · have q : b ≠ l := fun z => by subst z; rw [g] at h; cases h
    rw [upd_ne q]; exact a.gh b o' h
  · have q : b ≠ l := fun z => by
      subst z
      rcases n with n | n
      · rw [n] at h; cases h
      · exact m n
    rw [upd_ne q]; exact a.hh b o' m h
  · by_cases q : b = l
    · subst q; rw [upd_same] at h; cases h
    · rw [upd_ne q] at h; exact a.al b h
/-- what is no data and stands, is no data afterwards -/
theorem Gr.off (a : Gr M G H G1 H1) (e : H l ≠ none) (g : G l = none) : G1 l = none := by
  rcases none_or (H := G1) (b := l) with z | ⟨o, z⟩
  · exact z
  · rcases a.fr l (by rw [z]; simp) with q | q
    · exact absurd g q
    · exact absurd q e
theorem Gr.toExt (a : Grow G H G1 H1) : Ext H H1 := fun b o h => a.hh b o (fun z => z) h
theorem Gr.get {G H G1 H1 : Hp} (a : Grow G H G1 H1) (e : H l = some o) : H1 l = some o := a.hh l o (fun z => z) e
theorem Gr.has (a : Gr M G H G1 H1) (e : G l = some o) : H1 l = some o := a.gh l o (a.gg l o e)
theorem Ext.none_of (x : Ext G H) (n : H l = none) : G l = none := by
  rcases none_or (H := G) (b := l) with z | ⟨o, z⟩
  · exact z
  · rw [x l o z] at n; cases n
end
end L2

/-! The text by places: printed by gen_scopes.py. -/
namespace K84
open PySem PySem.Spec PyProof.Rows L2
def tops (i : Nat) : Stmt := PySem.Challenge.pw_pairsfree_k84_whole_frames_and_their_tab.main.body.getD i (.Pass ⟨0, 0, 0, 0⟩)
/-- is_integer: 0 value -/
abbrev s_is_integer : Stmt := tops 12
theorem sc_is_integer : FnScope ["value"] ["value"] (defScope s_is_integer) := ⟨rfl, rfl, rfl, by decide +kernel, rfl, by decide +kernel, by decide +kernel⟩
/-- is_count: 0 value -/
abbrev s_is_count : Stmt := tops 13
theorem sc_is_count : FnScope ["value"] ["value"] (defScope s_is_count) := ⟨rfl, rfl, rfl, by decide +kernel, rfl, by decide +kernel, by decide +kernel⟩
/-- is_list: 0 value -/
abbrev s_is_list : Stmt := tops 14
theorem sc_is_list : FnScope ["value"] ["value"] (defScope s_is_list) := ⟨rfl, rfl, rfl, by decide +kernel, rfl, by decide +kernel, by decide +kernel⟩
/-- digits_of: 0 number, 1 left, 2 told, 3 part, 4 sign -/
abbrev s_digits_of : Stmt := tops 17
theorem sc_digits_of : FnScope ["number", "left", "told", "part", "sign"] ["number"] (defScope s_digits_of) := ⟨rfl, rfl, rfl, by decide +kernel, rfl, by decide +kernel, by decide +kernel⟩
/-- common_part: 0 one, 1 other -/
abbrev s_common_part : Stmt := tops 18
theorem sc_common_part : FnScope ["one", "other"] ["one", "other"] (defScope s_common_part) := ⟨rfl, rfl, rfl, by decide +kernel, rfl, by decide +kernel, by decide +kernel⟩
/-- Ratio.__init__: 0 self, 1 top, 2 bottom, 3 common -/
abbrev s_Ratio_init : Stmt := inClass (tops 19) 0
theorem sc_Ratio_init : FnScope ["self", "top", "bottom", "common"] ["self", "top", "bottom"] (defScope s_Ratio_init) := ⟨rfl, rfl, rfl, by decide +kernel, rfl, by decide +kernel, by decide +kernel⟩
/-- Ratio.top: 0 self -/
abbrev s_Ratio_top : Stmt := inClass (tops 19) 1
theorem sc_Ratio_top : FnScope ["self"] ["self"] (defScope s_Ratio_top) := ⟨rfl, rfl, rfl, by decide +kernel, rfl, by decide +kernel, by decide +kernel⟩
/-- Ratio.bottom: 0 self -/
abbrev s_Ratio_bottom : Stmt := inClass (tops 19) 2
theorem sc_Ratio_bottom : FnScope ["self"] ["self"] (defScope s_Ratio_bottom) := ⟨rfl, rfl, rfl, by decide +kernel, rfl, by decide +kernel, by decide +kernel⟩
/-- Ratio.sign: 0 self -/
abbrev s_Ratio_sign : Stmt := inClass (tops 19) 3
theorem sc_Ratio_sign : FnScope ["self"] ["self"] (defScope s_Ratio_sign) := ⟨rfl, rfl, rfl, by decide +kernel, rfl, by decide +kernel, by decide +kernel⟩
/-- Ratio.__add__: 0 self, 1 other, 2 top, 3 bottom -/
abbrev s_Ratio_add : Stmt := inClass (tops 19) 6
theorem sc_Ratio_add : FnScope ["self", "other", "top", "bottom"] ["self", "other"] (defScope s_Ratio_add) := ⟨rfl, rfl, rfl, by decide +kernel, rfl, by decide +kernel, by decide +kernel⟩
/-- Ratio.__radd__: 0 self, 1 other, 2 top, 3 bottom -/
abbrev s_Ratio_radd : Stmt := inClass (tops 19) 7
theorem sc_Ratio_radd : FnScope ["self", "other", "top", "bottom"] ["self", "other"] (defScope s_Ratio_radd) := ⟨rfl, rfl, rfl, by decide +kernel, rfl, by decide +kernel, by decide +kernel⟩
/-- Ratio.__sub__: 0 self, 1 other, 2 top, 3 bottom -/
abbrev s_Ratio_sub : Stmt := inClass (tops 19) 8
theorem sc_Ratio_sub : FnScope ["self", "other", "top", "bottom"] ["self", "other"] (defScope s_Ratio_sub) := ⟨rfl, rfl, rfl, by decide +kernel, rfl, by decide +kernel, by decide +kernel⟩
/-- Ratio.__rsub__: 0 self, 1 other, 2 top, 3 bottom -/
abbrev s_Ratio_rsub : Stmt := inClass (tops 19) 9
theorem sc_Ratio_rsub : FnScope ["self", "other", "top", "bottom"] ["self", "other"] (defScope s_Ratio_rsub) := ⟨rfl, rfl, rfl, by decide +kernel, rfl, by decide +kernel, by decide +kernel⟩
/-- Ratio.__mul__: 0 self, 1 other, 2 top, 3 bottom -/
abbrev s_Ratio_mul : Stmt := inClass (tops 19) 10
theorem sc_Ratio_mul : FnScope ["self", "other", "top", "bottom"] ["self", "other"] (defScope s_Ratio_mul) := ⟨rfl, rfl, rfl, by decide +kernel, rfl, by decide +kernel, by decide +kernel⟩
/-- Ratio.__rmul__: 0 self, 1 other, 2 top, 3 bottom -/
abbrev s_Ratio_rmul : Stmt := inClass (tops 19) 11
theorem sc_Ratio_rmul : FnScope ["self", "other", "top", "bottom"] ["self", "other"] (defScope s_Ratio_rmul) := ⟨rfl, rfl, rfl, by decide +kernel, rfl, by decide +kernel, by decide +kernel⟩
/-- Ratio.__neg__: 0 self -/
abbrev s_Ratio_neg : Stmt := inClass (tops 19) 12
theorem sc_Ratio_neg : FnScope ["self"] ["self"] (defScope s_Ratio_neg) := ⟨rfl, rfl, rfl, by decide +kernel, rfl, by decide +kernel, by decide +kernel⟩
/-- Ratio.__eq__: 0 self, 1 other -/
abbrev s_Ratio_eq : Stmt := inClass (tops 19) 17
theorem sc_Ratio_eq : FnScope ["self", "other"] ["self", "other"] (defScope s_Ratio_eq) := ⟨rfl, rfl, rfl, by decide +kernel, rfl, by decide +kernel, by decide +kernel⟩
/-- Ratio.__str__: 0 self -/
abbrev s_Ratio_str : Stmt := inClass (tops 19) 18
theorem sc_Ratio_str : FnScope ["self"] ["self"] (defScope s_Ratio_str) := ⟨rfl, rfl, rfl, by decide +kernel, rfl, by decide +kernel, by decide +kernel⟩
/-- Ratio.__repr__: 0 self -/
abbrev s_Ratio_repr : Stmt := inClass (tops 19) 19
theorem sc_Ratio_repr : FnScope ["self"] ["self"] (defScope s_Ratio_repr) := ⟨rfl, rfl, rfl, by decide +kernel, rfl, by decide +kernel, by decide +kernel⟩
/-- told_pair: 0 value -/
abbrev s_told_pair : Stmt := tops 20
theorem sc_told_pair : FnScope ["value"] ["value"] (defScope s_told_pair) := ⟨rfl, rfl, rfl, by decide +kernel, rfl, by decide +kernel, by decide +kernel⟩
/-- is_number: 0 value -/
abbrev s_is_number : Stmt := tops 21
theorem sc_is_number : FnScope ["value"] ["value"] (defScope s_is_number) := ⟨rfl, rfl, rfl, by decide +kernel, rfl, by decide +kernel, by decide +kernel⟩
/-- ratio_of: 0 number -/
abbrev s_ratio_of : Stmt := tops 22
theorem sc_ratio_of : FnScope ["number"] ["number"] (defScope s_ratio_of) := ⟨rfl, rfl, rfl, by decide +kernel, rfl, by decide +kernel, by decide +kernel⟩
/-- wholes: 0 ratios, 1 bottom, 2 ratio; cells bottom -/
abbrev s_wholes : Stmt := tops 23
theorem sc_wholes : FnScope ["ratios", "bottom", "ratio"] ["ratios"] (defScope s_wholes) := ⟨rfl, rfl, rfl, by decide +kernel, rfl, by decide +kernel, by decide +kernel⟩
/-- are_numbers: 0 value, 1 wide, 2 number -/
abbrev s_are_numbers : Stmt := tops 25
theorem sc_are_numbers : FnScope ["value", "wide", "number"] ["value", "wide"] (defScope s_are_numbers) := ⟨rfl, rfl, rfl, by decide +kernel, rfl, by decide +kernel, by decide +kernel⟩
/-- ratios_of: 0 row, 1 number -/
abbrev s_ratios_of : Stmt := tops 26
theorem sc_ratios_of : FnScope ["row", "number"] ["row"] (defScope s_ratios_of) := ⟨rfl, rfl, rfl, by decide +kernel, rfl, by decide +kernel, by decide +kernel⟩
/-- ints_of: 0 rows, 1 row -/
abbrev s_ints_of : Stmt := tops 27
theorem sc_ints_of : FnScope ["rows", "row"] ["rows"] (defScope s_ints_of) := ⟨rfl, rfl, rfl, by decide +kernel, rfl, by decide +kernel, by decide +kernel⟩
/-- is_pair: 0 value, 1 size, 2 row; cells size -/
abbrev s_is_pair : Stmt := tops 31
theorem sc_is_pair : FnScope ["value", "size", "row"] ["value", "size"] (defScope s_is_pair) := ⟨rfl, rfl, rfl, by decide +kernel, rfl, by decide +kernel, by decide +kernel⟩
/-- right_pairs: 0 size, 1 value, 2 pair; cells size -/
abbrev s_right_pairs : Stmt := tops 32
theorem sc_right_pairs : FnScope ["size", "value", "pair"] ["size", "value"] (defScope s_right_pairs) := ⟨rfl, rfl, rfl, by decide +kernel, rfl, by decide +kernel, by decide +kernel⟩
/-- Known.__init__: 0 self, 1 size, 2 rows -/
abbrev s_Known_init : Stmt := inClass (tops 33) 0
theorem sc_Known_init : FnScope ["self", "size", "rows"] ["self", "size", "rows"] (defScope s_Known_init) := ⟨rfl, rfl, rfl, by decide +kernel, rfl, by decide +kernel, by decide +kernel⟩
/-- Pairs.__init__: 0 self, 1 size, 2 rows, 3 pair -/
abbrev s_Pairs_init : Stmt := inClass (tops 34) 0
theorem sc_Pairs_init : FnScope ["self", "size", "rows", "pair"] ["self", "size", "rows"] (defScope s_Pairs_init) := ⟨rfl, rfl, rfl, by decide +kernel, rfl, by decide +kernel, by decide +kernel⟩
/-- Pairs.size: 0 self -/
abbrev s_Pairs_size : Stmt := inClass (tops 34) 1
theorem sc_Pairs_size : FnScope ["self"] ["self"] (defScope s_Pairs_size) := ⟨rfl, rfl, rfl, by decide +kernel, rfl, by decide +kernel, by decide +kernel⟩
/-- Pairs.many: 0 self -/
abbrev s_Pairs_many : Stmt := inClass (tops 34) 2
theorem sc_Pairs_many : FnScope ["self"] ["self"] (defScope s_Pairs_many) := ⟨rfl, rfl, rfl, by decide +kernel, rfl, by decide +kernel, by decide +kernel⟩
/-- Pairs.pair: 0 self, 1 place -/
abbrev s_Pairs_pair : Stmt := inClass (tops 34) 3
theorem sc_Pairs_pair : FnScope ["self", "place"] ["self", "place"] (defScope s_Pairs_pair) := ⟨rfl, rfl, rfl, by decide +kernel, rfl, by decide +kernel, by decide +kernel⟩
/-- Pairs.told: 0 self, 1 first, 2 second -/
abbrev s_Pairs_told : Stmt := inClass (tops 34) 4
theorem sc_Pairs_told : FnScope ["self", "first", "second"] ["self"] (defScope s_Pairs_told) := ⟨rfl, rfl, rfl, by decide +kernel, rfl, by decide +kernel, by decide +kernel⟩
/-- Pairs.__eq__: 0 self, 1 other -/
abbrev s_Pairs_eq : Stmt := inClass (tops 34) 6
theorem sc_Pairs_eq : FnScope ["self", "other"] ["self", "other"] (defScope s_Pairs_eq) := ⟨rfl, rfl, rfl, by decide +kernel, rfl, by decide +kernel, by decide +kernel⟩
/-- Pairs.__repr__: 0 self -/
abbrev s_Pairs_repr : Stmt := inClass (tops 34) 7
theorem sc_Pairs_repr : FnScope ["self"] ["self"] (defScope s_Pairs_repr) := ⟨rfl, rfl, rfl, by decide +kernel, rfl, by decide +kernel, by decide +kernel⟩
/-- want_place: 0 pairs, 1 value -/
abbrev s_want_place : Stmt := tops 35
theorem sc_want_place : FnScope ["pairs", "value"] ["pairs", "value"] (defScope s_want_place) := ⟨rfl, rfl, rfl, by decide +kernel, rfl, by decide +kernel, by decide +kernel⟩
/-- is_point: 0 value -/
abbrev s_is_point : Stmt := tops 39
theorem sc_is_point : FnScope ["value"] ["value"] (defScope s_is_point) := ⟨rfl, rfl, rfl, by decide +kernel, rfl, by decide +kernel, by decide +kernel⟩
/-- is_bar: 0 many, 1 value, 2 place -/
abbrev s_is_bar : Stmt := tops 40
theorem sc_is_bar : FnScope ["many", "value", "place"] ["many", "value"] (defScope s_is_bar) := ⟨rfl, rfl, rfl, by decide +kernel, rfl, by decide +kernel, by decide +kernel⟩
/-- Frame.__init__: 0 self, 1 points, 2 bars, 3 right, 4 up, 5 point, 6 bar; cells points -/
abbrev s_Frame_init : Stmt := inClass (tops 41) 0
theorem sc_Frame_init : FnScope ["self", "points", "bars", "right", "up", "point", "bar"] ["self", "points", "bars"] (defScope s_Frame_init) := ⟨rfl, rfl, rfl, by decide +kernel, rfl, by decide +kernel, by decide +kernel⟩
/-- Frame.many: 0 self -/
abbrev s_Frame_many : Stmt := inClass (tops 41) 1
theorem sc_Frame_many : FnScope ["self"] ["self"] (defScope s_Frame_many) := ⟨rfl, rfl, rfl, by decide +kernel, rfl, by decide +kernel, by decide +kernel⟩
/-- Frame.points: 0 self -/
abbrev s_Frame_points : Stmt := inClass (tops 41) 2
theorem sc_Frame_points : FnScope ["self"] ["self"] (defScope s_Frame_points) := ⟨rfl, rfl, rfl, by decide +kernel, rfl, by decide +kernel, by decide +kernel⟩
/-- Frame.bars: 0 self -/
abbrev s_Frame_bars : Stmt := inClass (tops 41) 3
theorem sc_Frame_bars : FnScope ["self"] ["self"] (defScope s_Frame_bars) := ⟨rfl, rfl, rfl, by decide +kernel, rfl, by decide +kernel, by decide +kernel⟩
/-- Frame.__eq__: 0 self, 1 other -/
abbrev s_Frame_eq : Stmt := inClass (tops 41) 4
theorem sc_Frame_eq : FnScope ["self", "other"] ["self", "other"] (defScope s_Frame_eq) := ⟨rfl, rfl, rfl, by decide +kernel, rfl, by decide +kernel, by decide +kernel⟩
/-- Frame.__repr__: 0 self -/
abbrev s_Frame_repr : Stmt := inClass (tops 41) 5
theorem sc_Frame_repr : FnScope ["self"] ["self"] (defScope s_Frame_repr) := ⟨rfl, rfl, rfl, by decide +kernel, rfl, by decide +kernel, by decide +kernel⟩
/-- want_frame: 0 value -/
abbrev s_want_frame : Stmt := tops 42
theorem sc_want_frame : FnScope ["value"] ["value"] (defScope s_want_frame) := ⟨rfl, rfl, rfl, by decide +kernel, rfl, by decide +kernel, by decide +kernel⟩
/-- bar_row: 0 frame, 1 bar, 2 first, 3 second, 4 near, 5 far, 6 row, 7 side -/
abbrev s_bar_row : Stmt := tops 43
theorem sc_bar_row : FnScope ["frame", "bar", "first", "second", "near", "far", "row", "side"] ["frame", "bar"] (defScope s_bar_row) := ⟨rfl, rfl, rfl, by decide +kernel, rfl, by decide +kernel, by decide +kernel⟩
/-- table_of: 0 frame, 1 bar; cells frame -/
abbrev s_table_of : Stmt := tops 44
theorem sc_table_of : FnScope ["frame", "bar"] ["frame"] (defScope s_table_of) := ⟨rfl, rfl, rfl, by decide +kernel, rfl, by decide +kernel, by decide +kernel⟩
/-- pairs_of_frame: 0 frame, 1 table, 2 found, 3 point, 4 row; cells point -/
abbrev s_pairs_of_frame : Stmt := tops 45
theorem sc_pairs_of_frame : FnScope ["frame", "table", "found", "point", "row"] ["frame"] (defScope s_pairs_of_frame) := ⟨rfl, rfl, rfl, by decide +kernel, rfl, by decide +kernel, by decide +kernel⟩
/-- bar_table: 0 frame -/
abbrev s_bar_table : Stmt := tops 46
theorem sc_bar_table : FnScope ["frame"] ["frame"] (defScope s_bar_table) := ⟨rfl, rfl, rfl, by decide +kernel, rfl, by decide +kernel, by decide +kernel⟩
/-- frame_pairs: 0 frame -/
abbrev s_frame_pairs : Stmt := tops 47
theorem sc_frame_pairs : FnScope ["frame"] ["frame"] (defScope s_frame_pairs) := ⟨rfl, rfl, rfl, by decide +kernel, rfl, by decide +kernel, by decide +kernel⟩
/-- _law_pot: 0 _law_script, 1 _law_k, 2 _law_cell -/
abbrev s_l_pot : Stmt := tops 49
theorem sc_l_pot : FnScope ["_law_script", "_law_k", "_law_cell"] ["_law_script", "_law_k"] (defScope s_l_pot) := ⟨rfl, rfl, rfl, by decide +kernel, rfl, by decide +kernel, by decide +kernel⟩
/-- _law_draw: 0 _law_pot_here, 1 _law_many, 2 _law_digit -/
abbrev s_l_draw : Stmt := tops 50
theorem sc_l_draw : FnScope ["_law_pot_here", "_law_many", "_law_digit"] ["_law_pot_here", "_law_many"] (defScope s_l_draw) := ⟨rfl, rfl, rfl, by decide +kernel, rfl, by decide +kernel, by decide +kernel⟩
/-- _law_pick: 0 _law_pot_here, 1 _law_some -/
abbrev s_l_pick : Stmt := tops 51
theorem sc_l_pick : FnScope ["_law_pot_here", "_law_some"] ["_law_pot_here", "_law_some"] (defScope s_l_pick) := ⟨rfl, rfl, rfl, by decide +kernel, rfl, by decide +kernel, by decide +kernel⟩
/-- _law_frame: 0 _law_pot_here, 1 _law_most, 2 _law_bars, 3 _law_points, 4 _law_lines, 5 _law_turn, 6 _law_near, 7 _law_far, 8 _law_many, 9 _law_every, 10 _law_one, 11 _law_other; cells _law_one -/
abbrev s_l_frame : Stmt := tops 52
theorem sc_l_frame : FnScope ["_law_pot_here", "_law_most", "_law_bars", "_law_points", "_law_lines", "_law_turn", "_law_near", "_law_far", "_law_many", "_law_every", "_law_one", "_law_other"] ["_law_pot_here", "_law_most", "_law_bars"] (defScope s_l_frame) := ⟨rfl, rfl, rfl, by decide +kernel, rfl, by decide +kernel, by decide +kernel⟩
/-- _law_made: 0 _law_pot_here, 1 _law_points, 2 _law_bars, 3 _law_told, 4 _law_near, 5 _law_far; cells _law_pot_here -/
abbrev s_l_made : Stmt := tops 53
theorem sc_l_made : FnScope ["_law_pot_here", "_law_points", "_law_bars", "_law_told", "_law_near", "_law_far"] ["_law_pot_here", "_law_points", "_law_bars"] (defScope s_l_made) := ⟨rfl, rfl, rfl, by decide +kernel, rfl, by decide +kernel, by decide +kernel⟩
/-- _law_table: 0 _law_points, 1 _law_bars, 2 _law_found, 3 _law_one, 4 _law_other, 5 _law_row, 6 _law_side -/
abbrev s_l_table : Stmt := tops 54
theorem sc_l_table : FnScope ["_law_points", "_law_bars", "_law_found", "_law_one", "_law_other", "_law_row", "_law_side"] ["_law_points", "_law_bars"] (defScope s_l_table) := ⟨rfl, rfl, rfl, by decide +kernel, rfl, by decide +kernel, by decide +kernel⟩
/-- _law_halves: 0 _law_number -/
abbrev s_l_halves : Stmt := tops 55
theorem sc_l_halves : FnScope ["_law_number"] ["_law_number"] (defScope s_l_halves) := ⟨rfl, rfl, rfl, by decide +kernel, rfl, by decide +kernel, by decide +kernel⟩
/-- _law_told_right: 0 _law_frame_here, 1 _law_points, 2 _law_bars, 3 _law_due, 4 _law_rows, 5 _law_pairs, 6 _law_at, 7 _law_near, 8 _law_far, 9 _law_row, 10 _law_number, 11 _law_bar; cells _law_at -/
abbrev s_l_told_right : Stmt := tops 56
theorem sc_l_told_right : FnScope ["_law_frame_here", "_law_points", "_law_bars", "_law_due", "_law_rows", "_law_pairs", "_law_at", "_law_near", "_law_far", "_law_row", "_law_number", "_law_bar"] ["_law_frame_here", "_law_points", "_law_bars"] (defScope s_l_told_right) := ⟨rfl, rfl, rfl, by decide +kernel, rfl, by decide +kernel, by decide +kernel⟩
/-- _law_new_right: 0 _law_frame_here, 1 _law_points, 2 _law_bars, 3 _law_some, 4 _law_at -/
abbrev s_l_new_right : Stmt := tops 57
theorem sc_l_new_right : FnScope ["_law_frame_here", "_law_points", "_law_bars", "_law_some", "_law_at"] ["_law_frame_here", "_law_points", "_law_bars"] (defScope s_l_new_right) := ⟨rfl, rfl, rfl, by decide +kernel, rfl, by decide +kernel, by decide +kernel⟩
/-- _law_right: 0 _law_pot_here, 1 _law_points, 2 _law_bars, 3 _law_frame_here, 4 _law_again, 5 _law_others, 6 _law_lines, 7 _law_value -/
abbrev s_l_right : Stmt := tops 58
theorem sc_l_right : FnScope ["_law_pot_here", "_law_points", "_law_bars", "_law_frame_here", "_law_again", "_law_others", "_law_lines", "_law_value"] ["_law_pot_here"] (defScope s_l_right) := ⟨rfl, rfl, rfl, by decide +kernel, rfl, by decide +kernel, by decide +kernel⟩
/-- law: 0 _law_script -/
abbrev s_law : Stmt := tops 59
theorem sc_law : FnScope ["_law_script"] ["_law_script"] (defScope s_law) := ⟨rfl, rfl, rfl, by decide +kernel, rfl, by decide +kernel, by decide +kernel⟩
end K84

/-! What of the text stands behind the top: printed by gen_head.py. -/
namespace K84
open PySem PySem.Spec PyProof.Rows L2
/-- a def of the module -/
structure Dn (K : PySem.W.Frag) (mg : Str → Option Value) (name : Str) (st : Stmt) (ps : List Str) where
  f : Addr
  fd : FuncData
  F : Fun K name name st f fd
  g : mg name = some (.ref f)
  b : Binds K fd ps []
/-- a method without defaults -/
structure Mn (K : PySem.W.Frag) (C : Addr) (name qual : Str) (st : Stmt) (ps : List Str) where
  f : Addr
  fd : FuncData
  F : Fun K name qual st f fd
  m : Meth K C name f
  b : Binds K fd ps []
/-- a property -/
structure Pn (K : PySem.W.Frag) (C : Addr) (name qual : Str) (st : Stmt) where
  p : Addr
  f : Addr
  fd : FuncData
  F : Fun K name qual st f fd
  pr : PropOf K C name p f
  b : Binds K fd ["self"] []
/-- a class of the module -/
structure Cn (K : PySem.W.Frag) (mg : Str → Option Value) (name : Str) (C : Addr) : Prop where
  g : mg name = some (.ref C)
  cl : Cls K C
  mks : PySem.W.makesIn K C = true
  kp : PySem.W.keepIn K (.ref C) = true
  ca : PySem.W.findIn K (.ref C) "__class__" = some (some (.builtin "object.__class__"))
  cm : PySem.W.mroIn K C (.type "object") = some true
  ne : PySem.W.findIn K (.ref C) "__ne__" = some (some (.builtin "object.__ne__"))
/-- an __init__ with one default -/
structure In1 (K : PySem.W.Frag) (C : Addr) (qual : Str) (st : Stmt) (ps : List Str) (v : V) where
  f : Addr
  fd : FuncData
  F : FunD K "__init__" qual (defArgs st) (defBody st) (defScope st) [v] [] f fd
  at_ : PySem.W.findIn K (.ref C) "__init__" = some (some (.ref f))
  fn : PySem.W.isFn K (.ref f) = true
structure Tx (K : PySem.W.Frag) (mg : Str → Option Value) where
  CR : Addr
  CP : Addr
  CF : Addr
  CK : Addr
  Ratio : Cn K mg "Ratio" CR
  Pairs : Cn K mg "Pairs" CP
  Frame : Cn K mg "Frame" CF
  gK : mg "Known" = some (.ref CK)
  is_integer : Dn K mg "is_integer" s_is_integer ["value"]
  is_count : Dn K mg "is_count" s_is_count ["value"]
  is_list : Dn K mg "is_list" s_is_list ["value"]
  digits_of : Dn K mg "digits_of" s_digits_of ["number"]
  common_part : Dn K mg "common_part" s_common_part ["one", "other"]
  told_pair : Dn K mg "told_pair" s_told_pair ["value"]
  is_number : Dn K mg "is_number" s_is_number ["value"]
  ratio_of : Dn K mg "ratio_of" s_ratio_of ["number"]
  wholes : Dn K mg "wholes" s_wholes ["ratios"]
  are_numbers : Dn K mg "are_numbers" s_are_numbers ["value", "wide"]
  ratios_of : Dn K mg "ratios_of" s_ratios_of ["row"]
  ints_of : Dn K mg "ints_of" s_ints_of ["rows"]
  is_pair : Dn K mg "is_pair" s_is_pair ["value", "size"]
  right_pairs : Dn K mg "right_pairs" s_right_pairs ["size", "value"]
  is_point : Dn K mg "is_point" s_is_point ["value"]
  is_bar : Dn K mg "is_bar" s_is_bar ["many", "value"]
  want_frame : Dn K mg "want_frame" s_want_frame ["value"]
  bar_row : Dn K mg "bar_row" s_bar_row ["frame", "bar"]
  table_of : Dn K mg "table_of" s_table_of ["frame"]
  pairs_of_frame : Dn K mg "pairs_of_frame" s_pairs_of_frame ["frame"]
  bar_table : Dn K mg "bar_table" s_bar_table ["frame"]
  frame_pairs : Dn K mg "frame_pairs" s_frame_pairs ["frame"]
  l_pot : Dn K mg "_law_pot" s_l_pot ["_law_script", "_law_k"]
  l_draw : Dn K mg "_law_draw" s_l_draw ["_law_pot_here", "_law_many"]
  l_pick : Dn K mg "_law_pick" s_l_pick ["_law_pot_here", "_law_some"]
  l_frame : Dn K mg "_law_frame" s_l_frame ["_law_pot_here", "_law_most", "_law_bars"]
  l_made : Dn K mg "_law_made" s_l_made ["_law_pot_here", "_law_points", "_law_bars"]
  l_table : Dn K mg "_law_table" s_l_table ["_law_points", "_law_bars"]
  l_halves : Dn K mg "_law_halves" s_l_halves ["_law_number"]
  l_told_right : Dn K mg "_law_told_right" s_l_told_right ["_law_frame_here", "_law_points", "_law_bars"]
  l_new_right : Dn K mg "_law_new_right" s_l_new_right ["_law_frame_here", "_law_points", "_law_bars"]
  l_right : Dn K mg "_law_right" s_l_right ["_law_pot_here"]
  law : Dn K mg "law" s_law ["_law_script"]
  Ratio_init : In1 K CR "Ratio.__init__" s_Ratio_init ["self", "top", "bottom"] (.int 1)
  Ratio_sub : Mn K CR "__sub__" "Ratio.__sub__" s_Ratio_sub ["self", "other"]
  Ratio_eq : Mn K CR "__eq__" "Ratio.__eq__" s_Ratio_eq ["self", "other"]
  Ratio_repr : Mn K CR "__repr__" "Ratio.__repr__" s_Ratio_repr ["self"]
  dA : Addr
  Pairs_init : In1 K CP "Pairs.__init__" s_Pairs_init ["self", "size", "rows"] (.ref dA)
  Pairs_eq : Mn K CP "__eq__" "Pairs.__eq__" s_Pairs_eq ["self", "other"]
  Frame_init : Mn K CF "__init__" "Frame.__init__" s_Frame_init ["self", "points", "bars"]
  Frame_points : Mn K CF "points" "Frame.points" s_Frame_points ["self"]
  Frame_bars : Mn K CF "bars" "Frame.bars" s_Frame_bars ["self"]
  Frame_eq : Mn K CF "__eq__" "Frame.__eq__" s_Frame_eq ["self", "other"]
  Frame_repr : Mn K CF "__repr__" "Frame.__repr__" s_Frame_repr ["self"]
  Pairs_size : Pn K CP "size" "Pairs.size" s_Pairs_size
  Frame_many : Pn K CF "many" "Frame.many" s_Frame_many
  nf_own_top : NoAttr K CR "own_top"
  nf_own_bottom : NoAttr K CR "own_bottom"
  nf_own_size : NoAttr K CP "own_size"
  nf_own_rows : NoAttr K CP "own_rows"
  nf_own_ints : NoAttr K CP "own_ints"
  nf_own_points : NoAttr K CF "own_points"
  nf_own_bars : NoAttr K CF "own_bars"
  z_isinstance : mg "isinstance" = none
  z_len : mg "len" = none
  z_all : mg "all" = none
  z_tuple : mg "tuple" = none
  z_list : mg "list" = none
  z_repr : mg "repr" = none
  z_range : mg "range" = none
  z_abs : mg "abs" = none
  z_max : mg "max" = none
  z_int : mg "int" = none
  z_divmod : mg "divmod" = none
  z_bool : mg "bool" = none
  m_gcd : mg "gcd" = some (.builtin "math.gcd")
  m_lcm : mg "lcm" = some (.builtin "math.lcm")
  tk_MOST_POINTS : Tok
  m_MOST_POINTS : mg "MOST_POINTS" = some (.int 5 tk_MOST_POINTS)
  tk_MOST_BARS : Tok
  m_MOST_BARS : mg "MOST_BARS" = some (.int 8 tk_MOST_BARS)
  tk_MOST_SIZE : Tok
  m_MOST_SIZE : mg "MOST_SIZE" = some (.int 8 tk_MOST_SIZE)
  tk_MOST_PAIRS : Tok
  m_MOST_PAIRS : mg "MOST_PAIRS" = some (.int 8 tk_MOST_PAIRS)
  tk_PART : Tok
  m_PART : mg "PART" = some (.int 1000000000000000000000000000000000000000000000000000000000000 tk_PART)
  sfR : PySem.W.selfFirst K CR = true
  cn : PySem.W.specialIn K (.builtin "object.__class__") "__get__" = some (some (.builtin "getset_descriptor.__get__"))
  ct : PySem.W.takesIn K (.builtin "object.__class__") = some true
  kit_rI : PySem.W.kitOne K (.ref CR) (.type "int") = some false
  kit_rB : PySem.W.kitOne K (.ref CR) (.type "bool") = some false
  kit_rR : PySem.W.kitOne K (.ref CR) (.ref CR) = some true
  kit_iR : PySem.W.kitOne K (.type "int") (.ref CR) = some false
  kit_fF : PySem.W.kitOne K (.ref CF) (.ref CF) = some true
  kit_pP : PySem.W.kitOne K (.ref CP) (.ref CP) = some true
  kit_iK : PySem.W.kitOne K (.type "int") (.ref CK) = some false
  kit_v0 : PySem.W.kitOne K (.type "NoneType") (.ref CF) = some false
  kit_v1 : PySem.W.kitOne K (.type "int") (.ref CF) = some false
  kit_v2 : PySem.W.kitOne K (.type "bool") (.ref CF) = some false
  kit_v3 : PySem.W.kitOne K (.type "str") (.ref CF) = some false
  kit_v4 : PySem.W.kitOne K (.type "list") (.ref CF) = some false
  kit_v5 : PySem.W.kitOne K (.type "tuple") (.ref CF) = some false
  nof_n0 : PySem.W.notFirst K CF (.type "NoneType") = true
  nof_n1 : PySem.W.notFirst K CF (.type "int") = true
  nof_n2 : PySem.W.notFirst K CF (.type "bool") = true
  nof_n3 : PySem.W.notFirst K CF (.type "str") = true
  nof_n4 : PySem.W.notFirst K CF (.type "list") = true
  nof_n5 : PySem.W.notFirst K CF (.type "tuple") = true
set_option maxHeartbeats 4000000 in
def mkTx {K : PySem.W.Frag} {h : Heap} {mg : Str → Option Value} (Y : K.In h) (G : h.Ns mainGlobals mg)
    {f_is_integer : Addr}
    {oc_is_integer : Value}
    {od_is_integer : Option Addr}
    {kV_is_integer : Value}
    {dc_is_integer : Value}
    {pm_is_integer : Value}
    {an_is_integer : Option Addr}
    {cd_is_integer : Value}
    {ct_is_integer : Value}
    {sl_is_integer : Array (Option Value)}
    (a_is_integer : PySem.W.nsIn K mainGlobals "is_integer" = some (some (.ref f_is_integer)))
    (l_is_integer : K.lookup f_is_integer = some ⟨oc_is_integer, od_is_integer, .func (PySem.W.fnOf "is_integer" "is_integer" (defArgs s_is_integer) (defBody s_is_integer) (defScope s_is_integer) .none kV_is_integer dc_is_integer pm_is_integer an_is_integer cd_is_integer ct_is_integer), sl_is_integer⟩)
    (c_is_integer : PySem.W.codeIn K cd_is_integer "is_integer" = true)
    (k_is_integer : PySem.W.keepIn K (.ref f_is_integer) = true)
    {f_is_count : Addr}
    {oc_is_count : Value}
    {od_is_count : Option Addr}
    {kV_is_count : Value}
    {dc_is_count : Value}
    {pm_is_count : Value}
    {an_is_count : Option Addr}
    {cd_is_count : Value}
    {ct_is_count : Value}
    {sl_is_count : Array (Option Value)}
    (a_is_count : PySem.W.nsIn K mainGlobals "is_count" = some (some (.ref f_is_count)))
    (l_is_count : K.lookup f_is_count = some ⟨oc_is_count, od_is_count, .func (PySem.W.fnOf "is_count" "is_count" (defArgs s_is_count) (defBody s_is_count) (defScope s_is_count) .none kV_is_count dc_is_count pm_is_count an_is_count cd_is_count ct_is_count), sl_is_count⟩)
    (c_is_count : PySem.W.codeIn K cd_is_count "is_count" = true)
    (k_is_count : PySem.W.keepIn K (.ref f_is_count) = true)
    {f_is_list : Addr}
    {oc_is_list : Value}
    {od_is_list : Option Addr}
    {kV_is_list : Value}
    {dc_is_list : Value}
    {pm_is_list : Value}
    {an_is_list : Option Addr}
    {cd_is_list : Value}
    {ct_is_list : Value}
    {sl_is_list : Array (Option Value)}
    (a_is_list : PySem.W.nsIn K mainGlobals "is_list" = some (some (.ref f_is_list)))
    (l_is_list : K.lookup f_is_list = some ⟨oc_is_list, od_is_list, .func (PySem.W.fnOf "is_list" "is_list" (defArgs s_is_list) (defBody s_is_list) (defScope s_is_list) .none kV_is_list dc_is_list pm_is_list an_is_list cd_is_list ct_is_list), sl_is_list⟩)
    (c_is_list : PySem.W.codeIn K cd_is_list "is_list" = true)
    (k_is_list : PySem.W.keepIn K (.ref f_is_list) = true)
    {f_digits_of : Addr}
    {oc_digits_of : Value}
    {od_digits_of : Option Addr}
    {kV_digits_of : Value}
    {dc_digits_of : Value}
    {pm_digits_of : Value}
    {an_digits_of : Option Addr}
    {cd_digits_of : Value}
    {ct_digits_of : Value}
    {sl_digits_of : Array (Option Value)}
    (a_digits_of : PySem.W.nsIn K mainGlobals "digits_of" = some (some (.ref f_digits_of)))
    (l_digits_of : K.lookup f_digits_of = some ⟨oc_digits_of, od_digits_of, .func (PySem.W.fnOf "digits_of" "digits_of" (defArgs s_digits_of) (defBody s_digits_of) (defScope s_digits_of) .none kV_digits_of dc_digits_of pm_digits_of an_digits_of cd_digits_of ct_digits_of), sl_digits_of⟩)
    (c_digits_of : PySem.W.codeIn K cd_digits_of "digits_of" = true)
    (k_digits_of : PySem.W.keepIn K (.ref f_digits_of) = true)
    {f_common_part : Addr}
    {oc_common_part : Value}
    {od_common_part : Option Addr}
    {kV_common_part : Value}
    {dc_common_part : Value}
    {pm_common_part : Value}
    {an_common_part : Option Addr}
    {cd_common_part : Value}
    {ct_common_part : Value}
    {sl_common_part : Array (Option Value)}
    (a_common_part : PySem.W.nsIn K mainGlobals "common_part" = some (some (.ref f_common_part)))
    (l_common_part : K.lookup f_common_part = some ⟨oc_common_part, od_common_part, .func (PySem.W.fnOf "common_part" "common_part" (defArgs s_common_part) (defBody s_common_part) (defScope s_common_part) .none kV_common_part dc_common_part pm_common_part an_common_part cd_common_part ct_common_part), sl_common_part⟩)
    (c_common_part : PySem.W.codeIn K cd_common_part "common_part" = true)
    (k_common_part : PySem.W.keepIn K (.ref f_common_part) = true)
    {f_told_pair : Addr}
    {oc_told_pair : Value}
    {od_told_pair : Option Addr}
    {kV_told_pair : Value}
    {dc_told_pair : Value}
    {pm_told_pair : Value}
    {an_told_pair : Option Addr}
    {cd_told_pair : Value}
    {ct_told_pair : Value}
    {sl_told_pair : Array (Option Value)}
    (a_told_pair : PySem.W.nsIn K mainGlobals "told_pair" = some (some (.ref f_told_pair)))
    (l_told_pair : K.lookup f_told_pair = some ⟨oc_told_pair, od_told_pair, .func (PySem.W.fnOf "told_pair" "told_pair" (defArgs s_told_pair) (defBody s_told_pair) (defScope s_told_pair) .none kV_told_pair dc_told_pair pm_told_pair an_told_pair cd_told_pair ct_told_pair), sl_told_pair⟩)
    (c_told_pair : PySem.W.codeIn K cd_told_pair "told_pair" = true)
    (k_told_pair : PySem.W.keepIn K (.ref f_told_pair) = true)
    {f_is_number : Addr}
    {oc_is_number : Value}
    {od_is_number : Option Addr}
    {kV_is_number : Value}
    {dc_is_number : Value}
    {pm_is_number : Value}
    {an_is_number : Option Addr}
    {cd_is_number : Value}
    {ct_is_number : Value}
    {sl_is_number : Array (Option Value)}
    (a_is_number : PySem.W.nsIn K mainGlobals "is_number" = some (some (.ref f_is_number)))
    (l_is_number : K.lookup f_is_number = some ⟨oc_is_number, od_is_number, .func (PySem.W.fnOf "is_number" "is_number" (defArgs s_is_number) (defBody s_is_number) (defScope s_is_number) .none kV_is_number dc_is_number pm_is_number an_is_number cd_is_number ct_is_number), sl_is_number⟩)
    (c_is_number : PySem.W.codeIn K cd_is_number "is_number" = true)
    (k_is_number : PySem.W.keepIn K (.ref f_is_number) = true)
    {f_ratio_of : Addr}
    {oc_ratio_of : Value}
    {od_ratio_of : Option Addr}
    {kV_ratio_of : Value}
    {dc_ratio_of : Value}
    {pm_ratio_of : Value}
    {an_ratio_of : Option Addr}
    {cd_ratio_of : Value}
    {ct_ratio_of : Value}
    {sl_ratio_of : Array (Option Value)}
    (a_ratio_of : PySem.W.nsIn K mainGlobals "ratio_of" = some (some (.ref f_ratio_of)))
    (l_ratio_of : K.lookup f_ratio_of = some ⟨oc_ratio_of, od_ratio_of, .func (PySem.W.fnOf "ratio_of" "ratio_of" (defArgs s_ratio_of) (defBody s_ratio_of) (defScope s_ratio_of) .none kV_ratio_of dc_ratio_of pm_ratio_of an_ratio_of cd_ratio_of ct_ratio_of), sl_ratio_of⟩)
    (c_ratio_of : PySem.W.codeIn K cd_ratio_of "ratio_of" = true)
    (k_ratio_of : PySem.W.keepIn K (.ref f_ratio_of) = true)
    {f_wholes : Addr}
    {oc_wholes : Value}
    {od_wholes : Option Addr}
    {kV_wholes : Value}
    {dc_wholes : Value}
    {pm_wholes : Value}
    {an_wholes : Option Addr}
    {cd_wholes : Value}
    {ct_wholes : Value}
    {sl_wholes : Array (Option Value)}
    (a_wholes : PySem.W.nsIn K mainGlobals "wholes" = some (some (.ref f_wholes)))
    (l_wholes : K.lookup f_wholes = some ⟨oc_wholes, od_wholes, .func (PySem.W.fnOf "wholes" "wholes" (defArgs s_wholes) (defBody s_wholes) (defScope s_wholes) .none kV_wholes dc_wholes pm_wholes an_wholes cd_wholes ct_wholes), sl_wholes⟩)
    (c_wholes : PySem.W.codeIn K cd_wholes "wholes" = true)
    (k_wholes : PySem.W.keepIn K (.ref f_wholes) = true)
    {f_are_numbers : Addr}
    {oc_are_numbers : Value}
    {od_are_numbers : Option Addr}
    {kV_are_numbers : Value}
    {dc_are_numbers : Value}
    {pm_are_numbers : Value}
    {an_are_numbers : Option Addr}
    {cd_are_numbers : Value}
    {ct_are_numbers : Value}
    {sl_are_numbers : Array (Option Value)}
    (a_are_numbers : PySem.W.nsIn K mainGlobals "are_numbers" = some (some (.ref f_are_numbers)))
    (l_are_numbers : K.lookup f_are_numbers = some ⟨oc_are_numbers, od_are_numbers, .func (PySem.W.fnOf "are_numbers" "are_numbers" (defArgs s_are_numbers) (defBody s_are_numbers) (defScope s_are_numbers) .none kV_are_numbers dc_are_numbers pm_are_numbers an_are_numbers cd_are_numbers ct_are_numbers), sl_are_numbers⟩)
    (c_are_numbers : PySem.W.codeIn K cd_are_numbers "are_numbers" = true)
    (k_are_numbers : PySem.W.keepIn K (.ref f_are_numbers) = true)
    {f_ratios_of : Addr}
    {oc_ratios_of : Value}
    {od_ratios_of : Option Addr}
    {kV_ratios_of : Value}
    {dc_ratios_of : Value}
    {pm_ratios_of : Value}
    {an_ratios_of : Option Addr}
    {cd_ratios_of : Value}
    {ct_ratios_of : Value}
    {sl_ratios_of : Array (Option Value)}
    (a_ratios_of : PySem.W.nsIn K mainGlobals "ratios_of" = some (some (.ref f_ratios_of)))
    (l_ratios_of : K.lookup f_ratios_of = some ⟨oc_ratios_of, od_ratios_of, .func (PySem.W.fnOf "ratios_of" "ratios_of" (defArgs s_ratios_of) (defBody s_ratios_of) (defScope s_ratios_of) .none kV_ratios_of dc_ratios_of pm_ratios_of an_ratios_of cd_ratios_of ct_ratios_of), sl_ratios_of⟩)
    (c_ratios_of : PySem.W.codeIn K cd_ratios_of "ratios_of" = true)
    (k_ratios_of : PySem.W.keepIn K (.ref f_ratios_of) = true)
    {f_ints_of : Addr}
    {oc_ints_of : Value}
    {od_ints_of : Option Addr}
    {kV_ints_of : Value}
    {dc_ints_of : Value}
    {pm_ints_of : Value}
    {an_ints_of : Option Addr}
    {cd_ints_of : Value}
    {ct_ints_of : Value}
    {sl_ints_of : Array (Option Value)}
    (a_ints_of : PySem.W.nsIn K mainGlobals "ints_of" = some (some (.ref f_ints_of)))
    (l_ints_of : K.lookup f_ints_of = some ⟨oc_ints_of, od_ints_of, .func (PySem.W.fnOf "ints_of" "ints_of" (defArgs s_ints_of) (defBody s_ints_of) (defScope s_ints_of) .none kV_ints_of dc_ints_of pm_ints_of an_ints_of cd_ints_of ct_ints_of), sl_ints_of⟩)
    (c_ints_of : PySem.W.codeIn K cd_ints_of "ints_of" = true)
    (k_ints_of : PySem.W.keepIn K (.ref f_ints_of) = true)
    {f_is_pair : Addr}
    {oc_is_pair : Value}
    {od_is_pair : Option Addr}
    {kV_is_pair : Value}
    {dc_is_pair : Value}
    {pm_is_pair : Value}
    {an_is_pair : Option Addr}
    {cd_is_pair : Value}
    {ct_is_pair : Value}
    {sl_is_pair : Array (Option Value)}
    (a_is_pair : PySem.W.nsIn K mainGlobals "is_pair" = some (some (.ref f_is_pair)))
    (l_is_pair : K.lookup f_is_pair = some ⟨oc_is_pair, od_is_pair, .func (PySem.W.fnOf "is_pair" "is_pair" (defArgs s_is_pair) (defBody s_is_pair) (defScope s_is_pair) .none kV_is_pair dc_is_pair pm_is_pair an_is_pair cd_is_pair ct_is_pair), sl_is_pair⟩)
    (c_is_pair : PySem.W.codeIn K cd_is_pair "is_pair" = true)
    (k_is_pair : PySem.W.keepIn K (.ref f_is_pair) = true)
    {f_right_pairs : Addr}
    {oc_right_pairs : Value}
    {od_right_pairs : Option Addr}
    {kV_right_pairs : Value}
    {dc_right_pairs : Value}
    {pm_right_pairs : Value}
    {an_right_pairs : Option Addr}
    {cd_right_pairs : Value}
    {ct_right_pairs : Value}
    {sl_right_pairs : Array (Option Value)}
    (a_right_pairs : PySem.W.nsIn K mainGlobals "right_pairs" = some (some (.ref f_right_pairs)))
    (l_right_pairs : K.lookup f_right_pairs = some ⟨oc_right_pairs, od_right_pairs, .func (PySem.W.fnOf "right_pairs" "right_pairs" (defArgs s_right_pairs) (defBody s_right_pairs) (defScope s_right_pairs) .none kV_right_pairs dc_right_pairs pm_right_pairs an_right_pairs cd_right_pairs ct_right_pairs), sl_right_pairs⟩)
    (c_right_pairs : PySem.W.codeIn K cd_right_pairs "right_pairs" = true)
    (k_right_pairs : PySem.W.keepIn K (.ref f_right_pairs) = true)
    {f_is_point : Addr}
    {oc_is_point : Value}
    {od_is_point : Option Addr}
    {kV_is_point : Value}
    {dc_is_point : Value}
    {pm_is_point : Value}
    {an_is_point : Option Addr}
    {cd_is_point : Value}
    {ct_is_point : Value}
    {sl_is_point : Array (Option Value)}
    (a_is_point : PySem.W.nsIn K mainGlobals "is_point" = some (some (.ref f_is_point)))
    (l_is_point : K.lookup f_is_point = some ⟨oc_is_point, od_is_point, .func (PySem.W.fnOf "is_point" "is_point" (defArgs s_is_point) (defBody s_is_point) (defScope s_is_point) .none kV_is_point dc_is_point pm_is_point an_is_point cd_is_point ct_is_point), sl_is_point⟩)
    (c_is_point : PySem.W.codeIn K cd_is_point "is_point" = true)
    (k_is_point : PySem.W.keepIn K (.ref f_is_point) = true)
    {f_is_bar : Addr}
    {oc_is_bar : Value}
    {od_is_bar : Option Addr}
    {kV_is_bar : Value}
    {dc_is_bar : Value}
    {pm_is_bar : Value}
    {an_is_bar : Option Addr}
    {cd_is_bar : Value}
    {ct_is_bar : Value}
    {sl_is_bar : Array (Option Value)}
    (a_is_bar : PySem.W.nsIn K mainGlobals "is_bar" = some (some (.ref f_is_bar)))
    (l_is_bar : K.lookup f_is_bar = some ⟨oc_is_bar, od_is_bar, .func (PySem.W.fnOf "is_bar" "is_bar" (defArgs s_is_bar) (defBody s_is_bar) (defScope s_is_bar) .none kV_is_bar dc_is_bar pm_is_bar an_is_bar cd_is_bar ct_is_bar), sl_is_bar⟩)
    (c_is_bar : PySem.W.codeIn K cd_is_bar "is_bar" = true)
    (k_is_bar : PySem.W.keepIn K (.ref f_is_bar) = true)
    {f_want_frame : Addr}
    {oc_want_frame : Value}
    {od_want_frame : Option Addr}
    {kV_want_frame : Value}
    {dc_want_frame : Value}
    {pm_want_frame : Value}
    {an_want_frame : Option Addr}
    {cd_want_frame : Value}
    {ct_want_frame : Value}
    {sl_want_frame : Array (Option Value)}
    (a_want_frame : PySem.W.nsIn K mainGlobals "want_frame" = some (some (.ref f_want_frame)))
    (l_want_frame : K.lookup f_want_frame = some ⟨oc_want_frame, od_want_frame, .func (PySem.W.fnOf "want_frame" "want_frame" (defArgs s_want_frame) (defBody s_want_frame) (defScope s_want_frame) .none kV_want_frame dc_want_frame pm_want_frame an_want_frame cd_want_frame ct_want_frame), sl_want_frame⟩)
    (c_want_frame : PySem.W.codeIn K cd_want_frame "want_frame" = true)
    (k_want_frame : PySem.W.keepIn K (.ref f_want_frame) = true)
    {f_bar_row : Addr}
    {oc_bar_row : Value}
    {od_bar_row : Option Addr}
    {kV_bar_row : Value}
    {dc_bar_row : Value}
    {pm_bar_row : Value}
    {an_bar_row : Option Addr}
    {cd_bar_row : Value}
    {ct_bar_row : Value}
    {sl_bar_row : Array (Option Value)}
    (a_bar_row : PySem.W.nsIn K mainGlobals "bar_row" = some (some (.ref f_bar_row)))
    (l_bar_row : K.lookup f_bar_row = some ⟨oc_bar_row, od_bar_row, .func (PySem.W.fnOf "bar_row" "bar_row" (defArgs s_bar_row) (defBody s_bar_row) (defScope s_bar_row) .none kV_bar_row dc_bar_row pm_bar_row an_bar_row cd_bar_row ct_bar_row), sl_bar_row⟩)
    (c_bar_row : PySem.W.codeIn K cd_bar_row "bar_row" = true)
    (k_bar_row : PySem.W.keepIn K (.ref f_bar_row) = true)
    {f_table_of : Addr}
    {oc_table_of : Value}
    {od_table_of : Option Addr}
    {kV_table_of : Value}
    {dc_table_of : Value}
    {pm_table_of : Value}
    {an_table_of : Option Addr}
    {cd_table_of : Value}
    {ct_table_of : Value}
    {sl_table_of : Array (Option Value)}
    (a_table_of : PySem.W.nsIn K mainGlobals "table_of" = some (some (.ref f_table_of)))
    (l_table_of : K.lookup f_table_of = some ⟨oc_table_of, od_table_of, .func (PySem.W.fnOf "table_of" "table_of" (defArgs s_table_of) (defBody s_table_of) (defScope s_table_of) .none kV_table_of dc_table_of pm_table_of an_table_of cd_table_of ct_table_of), sl_table_of⟩)
    (c_table_of : PySem.W.codeIn K cd_table_of "table_of" = true)
    (k_table_of : PySem.W.keepIn K (.ref f_table_of) = true)
    {f_pairs_of_frame : Addr}
    {oc_pairs_of_frame : Value}
    {od_pairs_of_frame : Option Addr}
    {kV_pairs_of_frame : Value}
    {dc_pairs_of_frame : Value}
    {pm_pairs_of_frame : Value}
    {an_pairs_of_frame : Option Addr}
    {cd_pairs_of_frame : Value}
    {ct_pairs_of_frame : Value}
    {sl_pairs_of_frame : Array (Option Value)}
    (a_pairs_of_frame : PySem.W.nsIn K mainGlobals "pairs_of_frame" = some (some (.ref f_pairs_of_frame)))
    (l_pairs_of_frame : K.lookup f_pairs_of_frame = some ⟨oc_pairs_of_frame, od_pairs_of_frame, .func (PySem.W.fnOf "pairs_of_frame" "pairs_of_frame" (defArgs s_pairs_of_frame) (defBody s_pairs_of_frame) (defScope s_pairs_of_frame) .none kV_pairs_of_frame dc_pairs_of_frame pm_pairs_of_frame an_pairs_of_frame cd_pairs_of_frame ct_pairs_of_frame), sl_pairs_of_frame⟩)
    (c_pairs_of_frame : PySem.W.codeIn K cd_pairs_of_frame "pairs_of_frame" = true)
    (k_pairs_of_frame : PySem.W.keepIn K (.ref f_pairs_of_frame) = true)
    {f_bar_table : Addr}
    {oc_bar_table : Value}
    {od_bar_table : Option Addr}
    {kV_bar_table : Value}
    {dc_bar_table : Value}
    {pm_bar_table : Value}
    {an_bar_table : Option Addr}
    {cd_bar_table : Value}
    {ct_bar_table : Value}
    {sl_bar_table : Array (Option Value)}
    (a_bar_table : PySem.W.nsIn K mainGlobals "bar_table" = some (some (.ref f_bar_table)))
    (l_bar_table : K.lookup f_bar_table = some ⟨oc_bar_table, od_bar_table, .func (PySem.W.fnOf "bar_table" "bar_table" (defArgs s_bar_table) (defBody s_bar_table) (defScope s_bar_table) .none kV_bar_table dc_bar_table pm_bar_table an_bar_table cd_bar_table ct_bar_table), sl_bar_table⟩)
    (c_bar_table : PySem.W.codeIn K cd_bar_table "bar_table" = true)
    (k_bar_table : PySem.W.keepIn K (.ref f_bar_table) = true)
    {f_frame_pairs : Addr}
    {oc_frame_pairs : Value}
    {od_frame_pairs : Option Addr}
    {kV_frame_pairs : Value}
    {dc_frame_pairs : Value}
    {pm_frame_pairs : Value}
    {an_frame_pairs : Option Addr}
    {cd_frame_pairs : Value}
    {ct_frame_pairs : Value}
    {sl_frame_pairs : Array (Option Value)}
    (a_frame_pairs : PySem.W.nsIn K mainGlobals "frame_pairs" = some (some (.ref f_frame_pairs)))
    (l_frame_pairs : K.lookup f_frame_pairs = some ⟨oc_frame_pairs, od_frame_pairs, .func (PySem.W.fnOf "frame_pairs" "frame_pairs" (defArgs s_frame_pairs) (defBody s_frame_pairs) (defScope s_frame_pairs) .none kV_frame_pairs dc_frame_pairs pm_frame_pairs an_frame_pairs cd_frame_pairs ct_frame_pairs), sl_frame_pairs⟩)
    (c_frame_pairs : PySem.W.codeIn K cd_frame_pairs "frame_pairs" = true)
    (k_frame_pairs : PySem.W.keepIn K (.ref f_frame_pairs) = true)
    {f_l_pot : Addr}
    {oc_l_pot : Value}
    {od_l_pot : Option Addr}
    {kV_l_pot : Value}
    {dc_l_pot : Value}
    {pm_l_pot : Value}
    {an_l_pot : Option Addr}
    {cd_l_pot : Value}
    {ct_l_pot : Value}
    {sl_l_pot : Array (Option Value)}
    (a_l_pot : PySem.W.nsIn K mainGlobals "_law_pot" = some (some (.ref f_l_pot)))
    (l_l_pot : K.lookup f_l_pot = some ⟨oc_l_pot, od_l_pot, .func (PySem.W.fnOf "_law_pot" "_law_pot" (defArgs s_l_pot) (defBody s_l_pot) (defScope s_l_pot) .none kV_l_pot dc_l_pot pm_l_pot an_l_pot cd_l_pot ct_l_pot), sl_l_pot⟩)
    (c_l_pot : PySem.W.codeIn K cd_l_pot "_law_pot" = true)
    (k_l_pot : PySem.W.keepIn K (.ref f_l_pot) = true)
    {f_l_draw : Addr}
    {oc_l_draw : Value}
    {od_l_draw : Option Addr}
    {kV_l_draw : Value}
    {dc_l_draw : Value}
    {pm_l_draw : Value}
    {an_l_draw : Option Addr}
    {cd_l_draw : Value}
    {ct_l_draw : Value}
    {sl_l_draw : Array (Option Value)}
    (a_l_draw : PySem.W.nsIn K mainGlobals "_law_draw" = some (some (.ref f_l_draw)))
    (l_l_draw : K.lookup f_l_draw = some ⟨oc_l_draw, od_l_draw, .func (PySem.W.fnOf "_law_draw" "_law_draw" (defArgs s_l_draw) (defBody s_l_draw) (defScope s_l_draw) .none kV_l_draw dc_l_draw pm_l_draw an_l_draw cd_l_draw ct_l_draw), sl_l_draw⟩)
    (c_l_draw : PySem.W.codeIn K cd_l_draw "_law_draw" = true)
    (k_l_draw : PySem.W.keepIn K (.ref f_l_draw) = true)
    {f_l_pick : Addr}
    {oc_l_pick : Value}
    {od_l_pick : Option Addr}
    {kV_l_pick : Value}
    {dc_l_pick : Value}
    {pm_l_pick : Value}
    {an_l_pick : Option Addr}
    {cd_l_pick : Value}
    {ct_l_pick : Value}
    {sl_l_pick : Array (Option Value)}
    (a_l_pick : PySem.W.nsIn K mainGlobals "_law_pick" = some (some (.ref f_l_pick)))
    (l_l_pick : K.lookup f_l_pick = some ⟨oc_l_pick, od_l_pick, .func (PySem.W.fnOf "_law_pick" "_law_pick" (defArgs s_l_pick) (defBody s_l_pick) (defScope s_l_pick) .none kV_l_pick dc_l_pick pm_l_pick an_l_pick cd_l_pick ct_l_pick), sl_l_pick⟩)
    (c_l_pick : PySem.W.codeIn K cd_l_pick "_law_pick" = true)
    (k_l_pick : PySem.W.keepIn K (.ref f_l_pick) = true)
    {f_l_frame : Addr}
    {oc_l_frame : Value}
    {od_l_frame : Option Addr}
    {kV_l_frame : Value}
    {dc_l_frame : Value}
    {pm_l_frame : Value}
    {an_l_frame : Option Addr}
    {cd_l_frame : Value}
    {ct_l_frame : Value}
    {sl_l_frame : Array (Option Value)}
    (a_l_frame : PySem.W.nsIn K mainGlobals "_law_frame" = some (some (.ref f_l_frame)))
    (l_l_frame : K.lookup f_l_frame = some ⟨oc_l_frame, od_l_frame, .func (PySem.W.fnOf "_law_frame" "_law_frame" (defArgs s_l_frame) (defBody s_l_frame) (defScope s_l_frame) .none kV_l_frame dc_l_frame pm_l_frame an_l_frame cd_l_frame ct_l_frame), sl_l_frame⟩)
    (c_l_frame : PySem.W.codeIn K cd_l_frame "_law_frame" = true)
    (k_l_frame : PySem.W.keepIn K (.ref f_l_frame) = true)
    {f_l_made : Addr}
    {oc_l_made : Value}
    {od_l_made : Option Addr}
    {kV_l_made : Value}
    {dc_l_made : Value}
    {pm_l_made : Value}
    {an_l_made : Option Addr}
    {cd_l_made : Value}
    {ct_l_made : Value}
    {sl_l_made : Array (Option Value)}
    (a_l_made : PySem.W.nsIn K mainGlobals "_law_made" = some (some (.ref f_l_made)))
    (l_l_made : K.lookup f_l_made = some ⟨oc_l_made, od_l_made, .func (PySem.W.fnOf "_law_made" "_law_made" (defArgs s_l_made) (defBody s_l_made) (defScope s_l_made) .none kV_l_made dc_l_made pm_l_made an_l_made cd_l_made ct_l_made), sl_l_made⟩)
    (c_l_made : PySem.W.codeIn K cd_l_made "_law_made" = true)
    (k_l_made : PySem.W.keepIn K (.ref f_l_made) = true)
    {f_l_table : Addr}
    {oc_l_table : Value}
    {od_l_table : Option Addr}
    {kV_l_table : Value}
    {dc_l_table : Value}
    {pm_l_table : Value}
    {an_l_table : Option Addr}
    {cd_l_table : Value}
    {ct_l_table : Value}
    {sl_l_table : Array (Option Value)}
    (a_l_table : PySem.W.nsIn K mainGlobals "_law_table" = some (some (.ref f_l_table)))
    (l_l_table : K.lookup f_l_table = some ⟨oc_l_table, od_l_table, .func (PySem.W.fnOf "_law_table" "_law_table" (defArgs s_l_table) (defBody s_l_table) (defScope s_l_table) .none kV_l_table dc_l_table pm_l_table an_l_table cd_l_table ct_l_table), sl_l_table⟩)
    (c_l_table : PySem.W.codeIn K cd_l_table "_law_table" = true)
    (k_l_table : PySem.W.keepIn K (.ref f_l_table) = true)
    {f_l_halves : Addr}
    {oc_l_halves : Value}
    {od_l_halves : Option Addr}
    {kV_l_halves : Value}
    {dc_l_halves : Value}
    {pm_l_halves : Value}
    {an_l_halves : Option Addr}
    {cd_l_halves : Value}
    {ct_l_halves : Value}
    {sl_l_halves : Array (Option Value)}
    (a_l_halves : PySem.W.nsIn K mainGlobals "_law_halves" = some (some (.ref f_l_halves)))
    (l_l_halves : K.lookup f_l_halves = some ⟨oc_l_halves, od_l_halves, .func (PySem.W.fnOf "_law_halves" "_law_halves" (defArgs s_l_halves) (defBody s_l_halves) (defScope s_l_halves) .none kV_l_halves dc_l_halves pm_l_halves an_l_halves cd_l_halves ct_l_halves), sl_l_halves⟩)
    (c_l_halves : PySem.W.codeIn K cd_l_halves "_law_halves" = true)
    (k_l_halves : PySem.W.keepIn K (.ref f_l_halves) = true)
    {f_l_told_right : Addr}
    {oc_l_told_right : Value}
    {od_l_told_right : Option Addr}
    {kV_l_told_right : Value}
    {dc_l_told_right : Value}
    {pm_l_told_right : Value}
    {an_l_told_right : Option Addr}
    {cd_l_told_right : Value}
    {ct_l_told_right : Value}
    {sl_l_told_right : Array (Option Value)}
    (a_l_told_right : PySem.W.nsIn K mainGlobals "_law_told_right" = some (some (.ref f_l_told_right)))
    (l_l_told_right : K.lookup f_l_told_right = some ⟨oc_l_told_right, od_l_told_right, .func (PySem.W.fnOf "_law_told_right" "_law_told_right" (defArgs s_l_told_right) (defBody s_l_told_right) (defScope s_l_told_right) .none kV_l_told_right dc_l_told_right pm_l_told_right an_l_told_right cd_l_told_right ct_l_told_right), sl_l_told_right⟩)
    (c_l_told_right : PySem.W.codeIn K cd_l_told_right "_law_told_right" = true)
    (k_l_told_right : PySem.W.keepIn K (.ref f_l_told_right) = true)
    {f_l_new_right : Addr}
    {oc_l_new_right : Value}
    {od_l_new_right : Option Addr}
    {kV_l_new_right : Value}
    {dc_l_new_right : Value}
    {pm_l_new_right : Value}
    {an_l_new_right : Option Addr}
    {cd_l_new_right : Value}
    {ct_l_new_right : Value}
    {sl_l_new_right : Array (Option Value)}
    (a_l_new_right : PySem.W.nsIn K mainGlobals "_law_new_right" = some (some (.ref f_l_new_right)))
    (l_l_new_right : K.lookup f_l_new_right = some ⟨oc_l_new_right, od_l_new_right, .func (PySem.W.fnOf "_law_new_right" "_law_new_right" (defArgs s_l_new_right) (defBody s_l_new_right) (defScope s_l_new_right) .none kV_l_new_right dc_l_new_right pm_l_new_right an_l_new_right cd_l_new_right ct_l_new_right), sl_l_new_right⟩)
    (c_l_new_right : PySem.W.codeIn K cd_l_new_right "_law_new_right" = true)
    (k_l_new_right : PySem.W.keepIn K (.ref f_l_new_right) = true)
    {f_l_right : Addr}
    {oc_l_right : Value}
    {od_l_right : Option Addr}
    {kV_l_right : Value}
    {dc_l_right : Value}
    {pm_l_right : Value}
    {an_l_right : Option Addr}
    {cd_l_right : Value}
    {ct_l_right : Value}
    {sl_l_right : Array (Option Value)}
    (a_l_right : PySem.W.nsIn K mainGlobals "_law_right" = some (some (.ref f_l_right)))
    (l_l_right : K.lookup f_l_right = some ⟨oc_l_right, od_l_right, .func (PySem.W.fnOf "_law_right" "_law_right" (defArgs s_l_right) (defBody s_l_right) (defScope s_l_right) .none kV_l_right dc_l_right pm_l_right an_l_right cd_l_right ct_l_right), sl_l_right⟩)
    (c_l_right : PySem.W.codeIn K cd_l_right "_law_right" = true)
    (k_l_right : PySem.W.keepIn K (.ref f_l_right) = true)
    {f_law : Addr}
    {oc_law : Value}
    {od_law : Option Addr}
    {kV_law : Value}
    {dc_law : Value}
    {pm_law : Value}
    {an_law : Option Addr}
    {cd_law : Value}
    {ct_law : Value}
    {sl_law : Array (Option Value)}
    (a_law : PySem.W.nsIn K mainGlobals "law" = some (some (.ref f_law)))
    (l_law : K.lookup f_law = some ⟨oc_law, od_law, .func (PySem.W.fnOf "law" "law" (defArgs s_law) (defBody s_law) (defScope s_law) .none kV_law dc_law pm_law an_law cd_law ct_law), sl_law⟩)
    (c_law : PySem.W.codeIn K cd_law "law" = true)
    (k_law : PySem.W.keepIn K (.ref f_law) = true)
    {CR : Addr}
    (aCR : PySem.W.nsIn K mainGlobals "Ratio" = some (some (.ref CR)))
    (pgCR : PySem.W.plainGet K CR Str.empty = true)
    (hdCR : PySem.W.hasDictIn K CR = true)
    (poCR : PySem.W.plainOver K CR = true)
    (saCR : PySem.W.findIn K (.ref CR) "__setattr__" = some (some (.builtin "object.__setattr__")))
    (mkCR : PySem.W.makesIn K CR = true)
    (kcCR : PySem.W.keepIn K (.ref CR) = true)
    (caCR : PySem.W.findIn K (.ref CR) "__class__" = some (some (.builtin "object.__class__")))
    (cmCR : PySem.W.mroIn K CR (.type "object") = some true)
    (neCR : PySem.W.findIn K (.ref CR) "__ne__" = some (some (.builtin "object.__ne__")))
    {CP : Addr}
    (aCP : PySem.W.nsIn K mainGlobals "Pairs" = some (some (.ref CP)))
    (pgCP : PySem.W.plainGet K CP Str.empty = true)
    (hdCP : PySem.W.hasDictIn K CP = true)
    (poCP : PySem.W.plainOver K CP = true)
    (saCP : PySem.W.findIn K (.ref CP) "__setattr__" = some (some (.builtin "object.__setattr__")))
    (mkCP : PySem.W.makesIn K CP = true)
    (kcCP : PySem.W.keepIn K (.ref CP) = true)
    (caCP : PySem.W.findIn K (.ref CP) "__class__" = some (some (.builtin "object.__class__")))
    (cmCP : PySem.W.mroIn K CP (.type "object") = some true)
    (neCP : PySem.W.findIn K (.ref CP) "__ne__" = some (some (.builtin "object.__ne__")))
    {CF : Addr}
    (aCF : PySem.W.nsIn K mainGlobals "Frame" = some (some (.ref CF)))
    (pgCF : PySem.W.plainGet K CF Str.empty = true)
    (hdCF : PySem.W.hasDictIn K CF = true)
    (poCF : PySem.W.plainOver K CF = true)
    (saCF : PySem.W.findIn K (.ref CF) "__setattr__" = some (some (.builtin "object.__setattr__")))
    (mkCF : PySem.W.makesIn K CF = true)
    (kcCF : PySem.W.keepIn K (.ref CF) = true)
    (caCF : PySem.W.findIn K (.ref CF) "__class__" = some (some (.builtin "object.__class__")))
    (cmCF : PySem.W.mroIn K CF (.type "object") = some true)
    (neCF : PySem.W.findIn K (.ref CF) "__ne__" = some (some (.builtin "object.__ne__")))
    {CK : Addr}
    (aCK : PySem.W.nsIn K mainGlobals "Known" = some (some (.ref CK)))
    (sfR : PySem.W.selfFirst K CR = true)
    (cn : PySem.W.specialIn K (.builtin "object.__class__") "__get__" = some (some (.builtin "getset_descriptor.__get__")))
    (ct : PySem.W.takesIn K (.builtin "object.__class__") = some true)
    {f_Ratio_init : Addr}
    {oc_Ratio_init : Value}
    {od_Ratio_init : Option Addr}
    {kV_Ratio_init : Value}
    {dc_Ratio_init : Value}
    {pm_Ratio_init : Value}
    {an_Ratio_init : Option Addr}
    {cd_Ratio_init : Value}
    {ct_Ratio_init : Value}
    {sl_Ratio_init : Array (Option Value)}
    {dT_Ratio_init : Addr}
    {do_Ratio_init : Obj}
    {di_Ratio_init : Value}
    {dn_Ratio_init : Nat}
    (a_Ratio_init : PySem.W.findIn K (.ref CR) "__init__" = some (some (.ref f_Ratio_init)))
    (i_Ratio_init : PySem.W.isFn K (.ref f_Ratio_init) = true)
    (l_Ratio_init : K.lookup f_Ratio_init = some ⟨oc_Ratio_init, od_Ratio_init, .func (PySem.W.fnOf "__init__" "Ratio.__init__" (defArgs s_Ratio_init) (defBody s_Ratio_init) (defScope s_Ratio_init) (.ref dT_Ratio_init) kV_Ratio_init dc_Ratio_init pm_Ratio_init an_Ratio_init cd_Ratio_init ct_Ratio_init), sl_Ratio_init⟩)
    (c_Ratio_init : PySem.W.codeIn K cd_Ratio_init "Ratio.__init__" = true)
    (k_Ratio_init : PySem.W.keepIn K (.ref f_Ratio_init) = true)
    (d_Ratio_init : K.lookup dT_Ratio_init = some do_Ratio_init)
    (e_Ratio_init : do_Ratio_init.data = .seq [di_Ratio_init].toArray dn_Ratio_init)
    (r_Ratio_init : RelV (.int 1) di_Ratio_init)
    {f_Ratio_sub : Addr}
    {oc_Ratio_sub : Value}
    {od_Ratio_sub : Option Addr}
    {kV_Ratio_sub : Value}
    {dc_Ratio_sub : Value}
    {pm_Ratio_sub : Value}
    {an_Ratio_sub : Option Addr}
    {cd_Ratio_sub : Value}
    {ct_Ratio_sub : Value}
    {sl_Ratio_sub : Array (Option Value)}
    (a_Ratio_sub : PySem.W.findIn K (.ref CR) "__sub__" = some (some (.ref f_Ratio_sub)))
    (i_Ratio_sub : PySem.W.isFn K (.ref f_Ratio_sub) = true)
    (l_Ratio_sub : K.lookup f_Ratio_sub = some ⟨oc_Ratio_sub, od_Ratio_sub, .func (PySem.W.fnOf "__sub__" "Ratio.__sub__" (defArgs s_Ratio_sub) (defBody s_Ratio_sub) (defScope s_Ratio_sub) .none kV_Ratio_sub dc_Ratio_sub pm_Ratio_sub an_Ratio_sub cd_Ratio_sub ct_Ratio_sub), sl_Ratio_sub⟩)
    (c_Ratio_sub : PySem.W.codeIn K cd_Ratio_sub "Ratio.__sub__" = true)
    (k_Ratio_sub : PySem.W.keepIn K (.ref f_Ratio_sub) = true)
    {f_Ratio_eq : Addr}
    {oc_Ratio_eq : Value}
    {od_Ratio_eq : Option Addr}
    {kV_Ratio_eq : Value}
    {dc_Ratio_eq : Value}
    {pm_Ratio_eq : Value}
    {an_Ratio_eq : Option Addr}
    {cd_Ratio_eq : Value}
    {ct_Ratio_eq : Value}
    {sl_Ratio_eq : Array (Option Value)}
    (a_Ratio_eq : PySem.W.findIn K (.ref CR) "__eq__" = some (some (.ref f_Ratio_eq)))
    (i_Ratio_eq : PySem.W.isFn K (.ref f_Ratio_eq) = true)
    (l_Ratio_eq : K.lookup f_Ratio_eq = some ⟨oc_Ratio_eq, od_Ratio_eq, .func (PySem.W.fnOf "__eq__" "Ratio.__eq__" (defArgs s_Ratio_eq) (defBody s_Ratio_eq) (defScope s_Ratio_eq) .none kV_Ratio_eq dc_Ratio_eq pm_Ratio_eq an_Ratio_eq cd_Ratio_eq ct_Ratio_eq), sl_Ratio_eq⟩)
    (c_Ratio_eq : PySem.W.codeIn K cd_Ratio_eq "Ratio.__eq__" = true)
    (k_Ratio_eq : PySem.W.keepIn K (.ref f_Ratio_eq) = true)
    {f_Ratio_repr : Addr}
    {oc_Ratio_repr : Value}
    {od_Ratio_repr : Option Addr}
    {kV_Ratio_repr : Value}
    {dc_Ratio_repr : Value}
    {pm_Ratio_repr : Value}
    {an_Ratio_repr : Option Addr}
    {cd_Ratio_repr : Value}
    {ct_Ratio_repr : Value}
    {sl_Ratio_repr : Array (Option Value)}
    (a_Ratio_repr : PySem.W.findIn K (.ref CR) "__repr__" = some (some (.ref f_Ratio_repr)))
    (i_Ratio_repr : PySem.W.isFn K (.ref f_Ratio_repr) = true)
    (l_Ratio_repr : K.lookup f_Ratio_repr = some ⟨oc_Ratio_repr, od_Ratio_repr, .func (PySem.W.fnOf "__repr__" "Ratio.__repr__" (defArgs s_Ratio_repr) (defBody s_Ratio_repr) (defScope s_Ratio_repr) .none kV_Ratio_repr dc_Ratio_repr pm_Ratio_repr an_Ratio_repr cd_Ratio_repr ct_Ratio_repr), sl_Ratio_repr⟩)
    (c_Ratio_repr : PySem.W.codeIn K cd_Ratio_repr "Ratio.__repr__" = true)
    (k_Ratio_repr : PySem.W.keepIn K (.ref f_Ratio_repr) = true)
    {f_Pairs_init : Addr}
    {oc_Pairs_init : Value}
    {od_Pairs_init : Option Addr}
    {kV_Pairs_init : Value}
    {dc_Pairs_init : Value}
    {pm_Pairs_init : Value}
    {an_Pairs_init : Option Addr}
    {cd_Pairs_init : Value}
    {ct_Pairs_init : Value}
    {sl_Pairs_init : Array (Option Value)}
    {dT_Pairs_init : Addr}
    {do_Pairs_init : Obj}
    {di_Pairs_init : Value}
    {dn_Pairs_init : Nat}
    (a_Pairs_init : PySem.W.findIn K (.ref CP) "__init__" = some (some (.ref f_Pairs_init)))
    (i_Pairs_init : PySem.W.isFn K (.ref f_Pairs_init) = true)
    (l_Pairs_init : K.lookup f_Pairs_init = some ⟨oc_Pairs_init, od_Pairs_init, .func (PySem.W.fnOf "__init__" "Pairs.__init__" (defArgs s_Pairs_init) (defBody s_Pairs_init) (defScope s_Pairs_init) (.ref dT_Pairs_init) kV_Pairs_init dc_Pairs_init pm_Pairs_init an_Pairs_init cd_Pairs_init ct_Pairs_init), sl_Pairs_init⟩)
    (c_Pairs_init : PySem.W.codeIn K cd_Pairs_init "Pairs.__init__" = true)
    (k_Pairs_init : PySem.W.keepIn K (.ref f_Pairs_init) = true)
    (d_Pairs_init : K.lookup dT_Pairs_init = some do_Pairs_init)
    (e_Pairs_init : do_Pairs_init.data = .seq [di_Pairs_init].toArray dn_Pairs_init)
    {dA_Pairs_init : Addr}
    (r_Pairs_init : RelV (.ref dA_Pairs_init) di_Pairs_init)
    {f_Pairs_eq : Addr}
    {oc_Pairs_eq : Value}
    {od_Pairs_eq : Option Addr}
    {kV_Pairs_eq : Value}
    {dc_Pairs_eq : Value}
    {pm_Pairs_eq : Value}
    {an_Pairs_eq : Option Addr}
    {cd_Pairs_eq : Value}
    {ct_Pairs_eq : Value}
    {sl_Pairs_eq : Array (Option Value)}
    (a_Pairs_eq : PySem.W.findIn K (.ref CP) "__eq__" = some (some (.ref f_Pairs_eq)))
    (i_Pairs_eq : PySem.W.isFn K (.ref f_Pairs_eq) = true)
    (l_Pairs_eq : K.lookup f_Pairs_eq = some ⟨oc_Pairs_eq, od_Pairs_eq, .func (PySem.W.fnOf "__eq__" "Pairs.__eq__" (defArgs s_Pairs_eq) (defBody s_Pairs_eq) (defScope s_Pairs_eq) .none kV_Pairs_eq dc_Pairs_eq pm_Pairs_eq an_Pairs_eq cd_Pairs_eq ct_Pairs_eq), sl_Pairs_eq⟩)
    (c_Pairs_eq : PySem.W.codeIn K cd_Pairs_eq "Pairs.__eq__" = true)
    (k_Pairs_eq : PySem.W.keepIn K (.ref f_Pairs_eq) = true)
    {f_Frame_init : Addr}
    {oc_Frame_init : Value}
    {od_Frame_init : Option Addr}
    {kV_Frame_init : Value}
    {dc_Frame_init : Value}
    {pm_Frame_init : Value}
    {an_Frame_init : Option Addr}
    {cd_Frame_init : Value}
    {ct_Frame_init : Value}
    {sl_Frame_init : Array (Option Value)}
    (a_Frame_init : PySem.W.findIn K (.ref CF) "__init__" = some (some (.ref f_Frame_init)))
    (i_Frame_init : PySem.W.isFn K (.ref f_Frame_init) = true)
    (l_Frame_init : K.lookup f_Frame_init = some ⟨oc_Frame_init, od_Frame_init, .func (PySem.W.fnOf "__init__" "Frame.__init__" (defArgs s_Frame_init) (defBody s_Frame_init) (defScope s_Frame_init) .none kV_Frame_init dc_Frame_init pm_Frame_init an_Frame_init cd_Frame_init ct_Frame_init), sl_Frame_init⟩)
    (c_Frame_init : PySem.W.codeIn K cd_Frame_init "Frame.__init__" = true)
    (k_Frame_init : PySem.W.keepIn K (.ref f_Frame_init) = true)
    {f_Frame_points : Addr}
    {oc_Frame_points : Value}
    {od_Frame_points : Option Addr}
    {kV_Frame_points : Value}
    {dc_Frame_points : Value}
    {pm_Frame_points : Value}
    {an_Frame_points : Option Addr}
    {cd_Frame_points : Value}
    {ct_Frame_points : Value}
    {sl_Frame_points : Array (Option Value)}
    (a_Frame_points : PySem.W.findIn K (.ref CF) "points" = some (some (.ref f_Frame_points)))
    (i_Frame_points : PySem.W.isFn K (.ref f_Frame_points) = true)
    (l_Frame_points : K.lookup f_Frame_points = some ⟨oc_Frame_points, od_Frame_points, .func (PySem.W.fnOf "points" "Frame.points" (defArgs s_Frame_points) (defBody s_Frame_points) (defScope s_Frame_points) .none kV_Frame_points dc_Frame_points pm_Frame_points an_Frame_points cd_Frame_points ct_Frame_points), sl_Frame_points⟩)
    (c_Frame_points : PySem.W.codeIn K cd_Frame_points "Frame.points" = true)
    (k_Frame_points : PySem.W.keepIn K (.ref f_Frame_points) = true)
    {f_Frame_bars : Addr}
    {oc_Frame_bars : Value}
    {od_Frame_bars : Option Addr}
    {kV_Frame_bars : Value}
    {dc_Frame_bars : Value}
    {pm_Frame_bars : Value}
    {an_Frame_bars : Option Addr}
    {cd_Frame_bars : Value}
    {ct_Frame_bars : Value}
    {sl_Frame_bars : Array (Option Value)}
    (a_Frame_bars : PySem.W.findIn K (.ref CF) "bars" = some (some (.ref f_Frame_bars)))
    (i_Frame_bars : PySem.W.isFn K (.ref f_Frame_bars) = true)
    (l_Frame_bars : K.lookup f_Frame_bars = some ⟨oc_Frame_bars, od_Frame_bars, .func (PySem.W.fnOf "bars" "Frame.bars" (defArgs s_Frame_bars) (defBody s_Frame_bars) (defScope s_Frame_bars) .none kV_Frame_bars dc_Frame_bars pm_Frame_bars an_Frame_bars cd_Frame_bars ct_Frame_bars), sl_Frame_bars⟩)
    (c_Frame_bars : PySem.W.codeIn K cd_Frame_bars "Frame.bars" = true)
    (k_Frame_bars : PySem.W.keepIn K (.ref f_Frame_bars) = true)
    {f_Frame_eq : Addr}
    {oc_Frame_eq : Value}
    {od_Frame_eq : Option Addr}
    {kV_Frame_eq : Value}
    {dc_Frame_eq : Value}
    {pm_Frame_eq : Value}
    {an_Frame_eq : Option Addr}
    {cd_Frame_eq : Value}
    {ct_Frame_eq : Value}
    {sl_Frame_eq : Array (Option Value)}
    (a_Frame_eq : PySem.W.findIn K (.ref CF) "__eq__" = some (some (.ref f_Frame_eq)))
    (i_Frame_eq : PySem.W.isFn K (.ref f_Frame_eq) = true)
    (l_Frame_eq : K.lookup f_Frame_eq = some ⟨oc_Frame_eq, od_Frame_eq, .func (PySem.W.fnOf "__eq__" "Frame.__eq__" (defArgs s_Frame_eq) (defBody s_Frame_eq) (defScope s_Frame_eq) .none kV_Frame_eq dc_Frame_eq pm_Frame_eq an_Frame_eq cd_Frame_eq ct_Frame_eq), sl_Frame_eq⟩)
    (c_Frame_eq : PySem.W.codeIn K cd_Frame_eq "Frame.__eq__" = true)
    (k_Frame_eq : PySem.W.keepIn K (.ref f_Frame_eq) = true)
    {f_Frame_repr : Addr}
    {oc_Frame_repr : Value}
    {od_Frame_repr : Option Addr}
    {kV_Frame_repr : Value}
    {dc_Frame_repr : Value}
    {pm_Frame_repr : Value}
    {an_Frame_repr : Option Addr}
    {cd_Frame_repr : Value}
    {ct_Frame_repr : Value}
    {sl_Frame_repr : Array (Option Value)}
    (a_Frame_repr : PySem.W.findIn K (.ref CF) "__repr__" = some (some (.ref f_Frame_repr)))
    (i_Frame_repr : PySem.W.isFn K (.ref f_Frame_repr) = true)
    (l_Frame_repr : K.lookup f_Frame_repr = some ⟨oc_Frame_repr, od_Frame_repr, .func (PySem.W.fnOf "__repr__" "Frame.__repr__" (defArgs s_Frame_repr) (defBody s_Frame_repr) (defScope s_Frame_repr) .none kV_Frame_repr dc_Frame_repr pm_Frame_repr an_Frame_repr cd_Frame_repr ct_Frame_repr), sl_Frame_repr⟩)
    (c_Frame_repr : PySem.W.codeIn K cd_Frame_repr "Frame.__repr__" = true)
    (k_Frame_repr : PySem.W.keepIn K (.ref f_Frame_repr) = true)
    {p_Pairs_size : Addr}
    {f_Pairs_size : Addr}
    {oc_Pairs_size : Value}
    {od_Pairs_size : Option Addr}
    {kV_Pairs_size : Value}
    {dc_Pairs_size : Value}
    {pm_Pairs_size : Value}
    {an_Pairs_size : Option Addr}
    {cd_Pairs_size : Value}
    {ct_Pairs_size : Value}
    {sl_Pairs_size : Array (Option Value)}
    {rs_Pairs_size : List Value}
    (a_Pairs_size : PySem.W.findIn K (.ref CP) "size" = some (some (.ref p_Pairs_size)))
    (g_Pairs_size : PySem.W.specialIn K (.ref p_Pairs_size) "__get__" = some (some (.builtin "property.__get__")))
    (t_Pairs_size : PySem.W.takesIn K (.ref p_Pairs_size) = some true)
    (r_Pairs_size : PySem.W.recIn K p_Pairs_size "property" = some (.ref f_Pairs_size :: rs_Pairs_size))
    (l_Pairs_size : K.lookup f_Pairs_size = some ⟨oc_Pairs_size, od_Pairs_size, .func (PySem.W.fnOf "size" "Pairs.size" (defArgs s_Pairs_size) (defBody s_Pairs_size) (defScope s_Pairs_size) .none kV_Pairs_size dc_Pairs_size pm_Pairs_size an_Pairs_size cd_Pairs_size ct_Pairs_size), sl_Pairs_size⟩)
    (c_Pairs_size : PySem.W.codeIn K cd_Pairs_size "Pairs.size" = true)
    (k_Pairs_size : PySem.W.keepIn K (.ref f_Pairs_size) = true)
    {p_Frame_many : Addr}
    {f_Frame_many : Addr}
    {oc_Frame_many : Value}
    {od_Frame_many : Option Addr}
    {kV_Frame_many : Value}
    {dc_Frame_many : Value}
    {pm_Frame_many : Value}
    {an_Frame_many : Option Addr}
    {cd_Frame_many : Value}
    {ct_Frame_many : Value}
    {sl_Frame_many : Array (Option Value)}
    {rs_Frame_many : List Value}
    (a_Frame_many : PySem.W.findIn K (.ref CF) "many" = some (some (.ref p_Frame_many)))
    (g_Frame_many : PySem.W.specialIn K (.ref p_Frame_many) "__get__" = some (some (.builtin "property.__get__")))
    (t_Frame_many : PySem.W.takesIn K (.ref p_Frame_many) = some true)
    (r_Frame_many : PySem.W.recIn K p_Frame_many "property" = some (.ref f_Frame_many :: rs_Frame_many))
    (l_Frame_many : K.lookup f_Frame_many = some ⟨oc_Frame_many, od_Frame_many, .func (PySem.W.fnOf "many" "Frame.many" (defArgs s_Frame_many) (defBody s_Frame_many) (defScope s_Frame_many) .none kV_Frame_many dc_Frame_many pm_Frame_many an_Frame_many cd_Frame_many ct_Frame_many), sl_Frame_many⟩)
    (c_Frame_many : PySem.W.codeIn K cd_Frame_many "Frame.many" = true)
    (k_Frame_many : PySem.W.keepIn K (.ref f_Frame_many) = true)
    (nf_own_top : PySem.W.findIn K (.ref CR) "own_top" = some none)
    (nf_own_bottom : PySem.W.findIn K (.ref CR) "own_bottom" = some none)
    (nf_own_size : PySem.W.findIn K (.ref CP) "own_size" = some none)
    (nf_own_rows : PySem.W.findIn K (.ref CP) "own_rows" = some none)
    (nf_own_ints : PySem.W.findIn K (.ref CP) "own_ints" = some none)
    (nf_own_points : PySem.W.findIn K (.ref CF) "own_points" = some none)
    (nf_own_bars : PySem.W.findIn K (.ref CF) "own_bars" = some none)
    (z_isinstance : PySem.W.nsIn K mainGlobals "isinstance" = some none)
    (z_len : PySem.W.nsIn K mainGlobals "len" = some none)
    (z_all : PySem.W.nsIn K mainGlobals "all" = some none)
    (z_tuple : PySem.W.nsIn K mainGlobals "tuple" = some none)
    (z_list : PySem.W.nsIn K mainGlobals "list" = some none)
    (z_repr : PySem.W.nsIn K mainGlobals "repr" = some none)
    (z_range : PySem.W.nsIn K mainGlobals "range" = some none)
    (z_abs : PySem.W.nsIn K mainGlobals "abs" = some none)
    (z_max : PySem.W.nsIn K mainGlobals "max" = some none)
    (z_int : PySem.W.nsIn K mainGlobals "int" = some none)
    (z_divmod : PySem.W.nsIn K mainGlobals "divmod" = some none)
    (z_bool : PySem.W.nsIn K mainGlobals "bool" = some none)
    (m_gcd : PySem.W.nsIn K mainGlobals "gcd" = some (some (.builtin "math.gcd")))
    (m_lcm : PySem.W.nsIn K mainGlobals "lcm" = some (some (.builtin "math.lcm")))
    {tk_MOST_POINTS : Tok}
    (m_MOST_POINTS : PySem.W.nsIn K mainGlobals "MOST_POINTS" = some (some (.int 5 tk_MOST_POINTS)))
    {tk_MOST_BARS : Tok}
    (m_MOST_BARS : PySem.W.nsIn K mainGlobals "MOST_BARS" = some (some (.int 8 tk_MOST_BARS)))
    {tk_MOST_SIZE : Tok}
    (m_MOST_SIZE : PySem.W.nsIn K mainGlobals "MOST_SIZE" = some (some (.int 8 tk_MOST_SIZE)))
    {tk_MOST_PAIRS : Tok}
    (m_MOST_PAIRS : PySem.W.nsIn K mainGlobals "MOST_PAIRS" = some (some (.int 8 tk_MOST_PAIRS)))
    {tk_PART : Tok}
    (m_PART : PySem.W.nsIn K mainGlobals "PART" = some (some (.int 1000000000000000000000000000000000000000000000000000000000000 tk_PART)))
    (kit_rI : PySem.W.kitOne K (.ref CR) (.type "int") = some false)
    (kit_rB : PySem.W.kitOne K (.ref CR) (.type "bool") = some false)
    (kit_rR : PySem.W.kitOne K (.ref CR) (.ref CR) = some true)
    (kit_iR : PySem.W.kitOne K (.type "int") (.ref CR) = some false)
    (kit_fF : PySem.W.kitOne K (.ref CF) (.ref CF) = some true)
    (kit_pP : PySem.W.kitOne K (.ref CP) (.ref CP) = some true)
    (kit_iK : PySem.W.kitOne K (.type "int") (.ref CK) = some false)
    (kit_v0 : PySem.W.kitOne K (.type "NoneType") (.ref CF) = some false)
    (kit_v1 : PySem.W.kitOne K (.type "int") (.ref CF) = some false)
    (kit_v2 : PySem.W.kitOne K (.type "bool") (.ref CF) = some false)
    (kit_v3 : PySem.W.kitOne K (.type "str") (.ref CF) = some false)
    (kit_v4 : PySem.W.kitOne K (.type "list") (.ref CF) = some false)
    (kit_v5 : PySem.W.kitOne K (.type "tuple") (.ref CF) = some false)
    (nof_n0 : PySem.W.notFirst K CF (.type "NoneType") = true)
    (nof_n1 : PySem.W.notFirst K CF (.type "int") = true)
    (nof_n2 : PySem.W.notFirst K CF (.type "bool") = true)
    (nof_n3 : PySem.W.notFirst K CF (.type "str") = true)
    (nof_n4 : PySem.W.notFirst K CF (.type "list") = true)
    (nof_n5 : PySem.W.notFirst K CF (.type "tuple") = true)
    : Tx K mg :=
  { CR := CR
    CP := CP
    CF := CF
    CK := CK
    Ratio := ⟨PySem.W.mg_of Y G aCR, ⟨pgCR, hdCR, poCR, saCR⟩, mkCR, kcCR, caCR, cmCR, neCR⟩
    Pairs := ⟨PySem.W.mg_of Y G aCP, ⟨pgCP, hdCP, poCP, saCP⟩, mkCP, kcCP, caCP, cmCP, neCP⟩
    Frame := ⟨PySem.W.mg_of Y G aCF, ⟨pgCF, hdCF, poCF, saCF⟩, mkCF, kcCF, caCF, cmCF, neCF⟩
    gK := PySem.W.mg_of Y G aCK
    is_integer := ⟨f_is_integer, _, fun_mk (st := s_is_integer) l_is_integer c_is_integer k_is_integer, PySem.W.mg_of Y G a_is_integer, (fun_mk (st := s_is_integer) l_is_integer c_is_integer k_is_integer).binds (ps := ["value"]) fun _ _ _ _ _ _ us hl => match us, hl with | [_], _ => rfl⟩
    is_count := ⟨f_is_count, _, fun_mk (st := s_is_count) l_is_count c_is_count k_is_count, PySem.W.mg_of Y G a_is_count, (fun_mk (st := s_is_count) l_is_count c_is_count k_is_count).binds (ps := ["value"]) fun _ _ _ _ _ _ us hl => match us, hl with | [_], _ => rfl⟩
    is_list := ⟨f_is_list, _, fun_mk (st := s_is_list) l_is_list c_is_list k_is_list, PySem.W.mg_of Y G a_is_list, (fun_mk (st := s_is_list) l_is_list c_is_list k_is_list).binds (ps := ["value"]) fun _ _ _ _ _ _ us hl => match us, hl with | [_], _ => rfl⟩
    digits_of := ⟨f_digits_of, _, fun_mk (st := s_digits_of) l_digits_of c_digits_of k_digits_of, PySem.W.mg_of Y G a_digits_of, (fun_mk (st := s_digits_of) l_digits_of c_digits_of k_digits_of).binds (ps := ["number"]) fun _ _ _ _ _ _ us hl => match us, hl with | [_], _ => rfl⟩
    common_part := ⟨f_common_part, _, fun_mk (st := s_common_part) l_common_part c_common_part k_common_part, PySem.W.mg_of Y G a_common_part, (fun_mk (st := s_common_part) l_common_part c_common_part k_common_part).binds (ps := ["one", "other"]) fun _ _ _ _ _ _ us hl => match us, hl with | [_, _], _ => rfl⟩
    told_pair := ⟨f_told_pair, _, fun_mk (st := s_told_pair) l_told_pair c_told_pair k_told_pair, PySem.W.mg_of Y G a_told_pair, (fun_mk (st := s_told_pair) l_told_pair c_told_pair k_told_pair).binds (ps := ["value"]) fun _ _ _ _ _ _ us hl => match us, hl with | [_], _ => rfl⟩
    is_number := ⟨f_is_number, _, fun_mk (st := s_is_number) l_is_number c_is_number k_is_number, PySem.W.mg_of Y G a_is_number, (fun_mk (st := s_is_number) l_is_number c_is_number k_is_number).binds (ps := ["value"]) fun _ _ _ _ _ _ us hl => match us, hl with | [_], _ => rfl⟩
    ratio_of := ⟨f_ratio_of, _, fun_mk (st := s_ratio_of) l_ratio_of c_ratio_of k_ratio_of, PySem.W.mg_of Y G a_ratio_of, (fun_mk (st := s_ratio_of) l_ratio_of c_ratio_of k_ratio_of).binds (ps := ["number"]) fun _ _ _ _ _ _ us hl => match us, hl with | [_], _ => rfl⟩
    wholes := ⟨f_wholes, _, fun_mk (st := s_wholes) l_wholes c_wholes k_wholes, PySem.W.mg_of Y G a_wholes, (fun_mk (st := s_wholes) l_wholes c_wholes k_wholes).binds (ps := ["ratios"]) fun _ _ _ _ _ _ us hl => match us, hl with | [_], _ => rfl⟩
    are_numbers := ⟨f_are_numbers, _, fun_mk (st := s_are_numbers) l_are_numbers c_are_numbers k_are_numbers, PySem.W.mg_of Y G a_are_numbers, (fun_mk (st := s_are_numbers) l_are_numbers c_are_numbers k_are_numbers).binds (ps := ["value", "wide"]) fun _ _ _ _ _ _ us hl => match us, hl with | [_, _], _ => rfl⟩
    ratios_of := ⟨f_ratios_of, _, fun_mk (st := s_ratios_of) l_ratios_of c_ratios_of k_ratios_of, PySem.W.mg_of Y G a_ratios_of, (fun_mk (st := s_ratios_of) l_ratios_of c_ratios_of k_ratios_of).binds (ps := ["row"]) fun _ _ _ _ _ _ us hl => match us, hl with | [_], _ => rfl⟩
    ints_of := ⟨f_ints_of, _, fun_mk (st := s_ints_of) l_ints_of c_ints_of k_ints_of, PySem.W.mg_of Y G a_ints_of, (fun_mk (st := s_ints_of) l_ints_of c_ints_of k_ints_of).binds (ps := ["rows"]) fun _ _ _ _ _ _ us hl => match us, hl with | [_], _ => rfl⟩
    is_pair := ⟨f_is_pair, _, fun_mk (st := s_is_pair) l_is_pair c_is_pair k_is_pair, PySem.W.mg_of Y G a_is_pair, (fun_mk (st := s_is_pair) l_is_pair c_is_pair k_is_pair).binds (ps := ["value", "size"]) fun _ _ _ _ _ _ us hl => match us, hl with | [_, _], _ => rfl⟩
    right_pairs := ⟨f_right_pairs, _, fun_mk (st := s_right_pairs) l_right_pairs c_right_pairs k_right_pairs, PySem.W.mg_of Y G a_right_pairs, (fun_mk (st := s_right_pairs) l_right_pairs c_right_pairs k_right_pairs).binds (ps := ["size", "value"]) fun _ _ _ _ _ _ us hl => match us, hl with | [_, _], _ => rfl⟩
    is_point := ⟨f_is_point, _, fun_mk (st := s_is_point) l_is_point c_is_point k_is_point, PySem.W.mg_of Y G a_is_point, (fun_mk (st := s_is_point) l_is_point c_is_point k_is_point).binds (ps := ["value"]) fun _ _ _ _ _ _ us hl => match us, hl with | [_], _ => rfl⟩
    is_bar := ⟨f_is_bar, _, fun_mk (st := s_is_bar) l_is_bar c_is_bar k_is_bar, PySem.W.mg_of Y G a_is_bar, (fun_mk (st := s_is_bar) l_is_bar c_is_bar k_is_bar).binds (ps := ["many", "value"]) fun _ _ _ _ _ _ us hl => match us, hl with | [_, _], _ => rfl⟩
    want_frame := ⟨f_want_frame, _, fun_mk (st := s_want_frame) l_want_frame c_want_frame k_want_frame, PySem.W.mg_of Y G a_want_frame, (fun_mk (st := s_want_frame) l_want_frame c_want_frame k_want_frame).binds (ps := ["value"]) fun _ _ _ _ _ _ us hl => match us, hl with | [_], _ => rfl⟩
    bar_row := ⟨f_bar_row, _, fun_mk (st := s_bar_row) l_bar_row c_bar_row k_bar_row, PySem.W.mg_of Y G a_bar_row, (fun_mk (st := s_bar_row) l_bar_row c_bar_row k_bar_row).binds (ps := ["frame", "bar"]) fun _ _ _ _ _ _ us hl => match us, hl with | [_, _], _ => rfl⟩
    table_of := ⟨f_table_of, _, fun_mk (st := s_table_of) l_table_of c_table_of k_table_of, PySem.W.mg_of Y G a_table_of, (fun_mk (st := s_table_of) l_table_of c_table_of k_table_of).binds (ps := ["frame"]) fun _ _ _ _ _ _ us hl => match us, hl with | [_], _ => rfl⟩
    pairs_of_frame := ⟨f_pairs_of_frame, _, fun_mk (st := s_pairs_of_frame) l_pairs_of_frame c_pairs_of_frame k_pairs_of_frame, PySem.W.mg_of Y G a_pairs_of_frame, (fun_mk (st := s_pairs_of_frame) l_pairs_of_frame c_pairs_of_frame k_pairs_of_frame).binds (ps := ["frame"]) fun _ _ _ _ _ _ us hl => match us, hl with | [_], _ => rfl⟩
    bar_table := ⟨f_bar_table, _, fun_mk (st := s_bar_table) l_bar_table c_bar_table k_bar_table, PySem.W.mg_of Y G a_bar_table, (fun_mk (st := s_bar_table) l_bar_table c_bar_table k_bar_table).binds (ps := ["frame"]) fun _ _ _ _ _ _ us hl => match us, hl with | [_], _ => rfl⟩
    frame_pairs := ⟨f_frame_pairs, _, fun_mk (st := s_frame_pairs) l_frame_pairs c_frame_pairs k_frame_pairs, PySem.W.mg_of Y G a_frame_pairs, (fun_mk (st := s_frame_pairs) l_frame_pairs c_frame_pairs k_frame_pairs).binds (ps := ["frame"]) fun _ _ _ _ _ _ us hl => match us, hl with | [_], _ => rfl⟩
    l_pot := ⟨f_l_pot, _, fun_mk (st := s_l_pot) l_l_pot c_l_pot k_l_pot, PySem.W.mg_of Y G a_l_pot, (fun_mk (st := s_l_pot) l_l_pot c_l_pot k_l_pot).binds (ps := ["_law_script", "_law_k"]) fun _ _ _ _ _ _ us hl => match us, hl with | [_, _], _ => rfl⟩
    l_draw := ⟨f_l_draw, _, fun_mk (st := s_l_draw) l_l_draw c_l_draw k_l_draw, PySem.W.mg_of Y G a_l_draw, (fun_mk (st := s_l_draw) l_l_draw c_l_draw k_l_draw).binds (ps := ["_law_pot_here", "_law_many"]) fun _ _ _ _ _ _ us hl => match us, hl with | [_, _], _ => rfl⟩
    l_pick := ⟨f_l_pick, _, fun_mk (st := s_l_pick) l_l_pick c_l_pick k_l_pick, PySem.W.mg_of Y G a_l_pick, (fun_mk (st := s_l_pick) l_l_pick c_l_pick k_l_pick).binds (ps := ["_law_pot_here", "_law_some"]) fun _ _ _ _ _ _ us hl => match us, hl with | [_, _], _ => rfl⟩
    l_frame := ⟨f_l_frame, _, fun_mk (st := s_l_frame) l_l_frame c_l_frame k_l_frame, PySem.W.mg_of Y G a_l_frame, (fun_mk (st := s_l_frame) l_l_frame c_l_frame k_l_frame).binds (ps := ["_law_pot_here", "_law_most", "_law_bars"]) fun _ _ _ _ _ _ us hl => match us, hl with | [_, _, _], _ => rfl⟩
    l_made := ⟨f_l_made, _, fun_mk (st := s_l_made) l_l_made c_l_made k_l_made, PySem.W.mg_of Y G a_l_made, (fun_mk (st := s_l_made) l_l_made c_l_made k_l_made).binds (ps := ["_law_pot_here", "_law_points", "_law_bars"]) fun _ _ _ _ _ _ us hl => match us, hl with | [_, _, _], _ => rfl⟩
    l_table := ⟨f_l_table, _, fun_mk (st := s_l_table) l_l_table c_l_table k_l_table, PySem.W.mg_of Y G a_l_table, (fun_mk (st := s_l_table) l_l_table c_l_table k_l_table).binds (ps := ["_law_points", "_law_bars"]) fun _ _ _ _ _ _ us hl => match us, hl with | [_, _], _ => rfl⟩
    l_halves := ⟨f_l_halves, _, fun_mk (st := s_l_halves) l_l_halves c_l_halves k_l_halves, PySem.W.mg_of Y G a_l_halves, (fun_mk (st := s_l_halves) l_l_halves c_l_halves k_l_halves).binds (ps := ["_law_number"]) fun _ _ _ _ _ _ us hl => match us, hl with | [_], _ => rfl⟩
    l_told_right := ⟨f_l_told_right, _, fun_mk (st := s_l_told_right) l_l_told_right c_l_told_right k_l_told_right, PySem.W.mg_of Y G a_l_told_right, (fun_mk (st := s_l_told_right) l_l_told_right c_l_told_right k_l_told_right).binds (ps := ["_law_frame_here", "_law_points", "_law_bars"]) fun _ _ _ _ _ _ us hl => match us, hl with | [_, _, _], _ => rfl⟩
    l_new_right := ⟨f_l_new_right, _, fun_mk (st := s_l_new_right) l_l_new_right c_l_new_right k_l_new_right, PySem.W.mg_of Y G a_l_new_right, (fun_mk (st := s_l_new_right) l_l_new_right c_l_new_right k_l_new_right).binds (ps := ["_law_frame_here", "_law_points", "_law_bars"]) fun _ _ _ _ _ _ us hl => match us, hl with | [_, _, _], _ => rfl⟩
    l_right := ⟨f_l_right, _, fun_mk (st := s_l_right) l_l_right c_l_right k_l_right, PySem.W.mg_of Y G a_l_right, (fun_mk (st := s_l_right) l_l_right c_l_right k_l_right).binds (ps := ["_law_pot_here"]) fun _ _ _ _ _ _ us hl => match us, hl with | [_], _ => rfl⟩
    law := ⟨f_law, _, fun_mk (st := s_law) l_law c_law k_law, PySem.W.mg_of Y G a_law, (fun_mk (st := s_law) l_law c_law k_law).binds (ps := ["_law_script"]) fun _ _ _ _ _ _ us hl => match us, hl with | [_], _ => rfl⟩
    Ratio_init := ⟨f_Ratio_init, _, ⟨⟨oc_Ratio_init, od_Ratio_init, .ref dT_Ratio_init, kV_Ratio_init, dc_Ratio_init, pm_Ratio_init, an_Ratio_init, cd_Ratio_init, ct_Ratio_init, sl_Ratio_init, rfl, l_Ratio_init, c_Ratio_init, .inr ⟨by simp, dT_Ratio_init, do_Ratio_init, [di_Ratio_init], dn_Ratio_init, rfl, d_Ratio_init, e_Ratio_init, .cons r_Ratio_init .nil⟩, .inl rfl⟩, k_Ratio_init⟩, a_Ratio_init, i_Ratio_init⟩
    Ratio_sub := ⟨f_Ratio_sub, _, fun_mk (st := s_Ratio_sub) l_Ratio_sub c_Ratio_sub k_Ratio_sub, ⟨a_Ratio_sub, i_Ratio_sub, k_Ratio_sub⟩, (fun_mk (st := s_Ratio_sub) l_Ratio_sub c_Ratio_sub k_Ratio_sub).binds (ps := ["self", "other"]) fun _ _ _ _ _ _ us hl => match us, hl with | [_, _], _ => rfl⟩
    Ratio_eq := ⟨f_Ratio_eq, _, fun_mk (st := s_Ratio_eq) l_Ratio_eq c_Ratio_eq k_Ratio_eq, ⟨a_Ratio_eq, i_Ratio_eq, k_Ratio_eq⟩, (fun_mk (st := s_Ratio_eq) l_Ratio_eq c_Ratio_eq k_Ratio_eq).binds (ps := ["self", "other"]) fun _ _ _ _ _ _ us hl => match us, hl with | [_, _], _ => rfl⟩
    Ratio_repr := ⟨f_Ratio_repr, _, fun_mk (st := s_Ratio_repr) l_Ratio_repr c_Ratio_repr k_Ratio_repr, ⟨a_Ratio_repr, i_Ratio_repr, k_Ratio_repr⟩, (fun_mk (st := s_Ratio_repr) l_Ratio_repr c_Ratio_repr k_Ratio_repr).binds (ps := ["self"]) fun _ _ _ _ _ _ us hl => match us, hl with | [_], _ => rfl⟩
    dA := dA_Pairs_init
    Pairs_init := ⟨f_Pairs_init, _, ⟨⟨oc_Pairs_init, od_Pairs_init, .ref dT_Pairs_init, kV_Pairs_init, dc_Pairs_init, pm_Pairs_init, an_Pairs_init, cd_Pairs_init, ct_Pairs_init, sl_Pairs_init, rfl, l_Pairs_init, c_Pairs_init, .inr ⟨by simp, dT_Pairs_init, do_Pairs_init, [di_Pairs_init], dn_Pairs_init, rfl, d_Pairs_init, e_Pairs_init, .cons r_Pairs_init .nil⟩, .inl rfl⟩, k_Pairs_init⟩, a_Pairs_init, i_Pairs_init⟩
    Pairs_eq := ⟨f_Pairs_eq, _, fun_mk (st := s_Pairs_eq) l_Pairs_eq c_Pairs_eq k_Pairs_eq, ⟨a_Pairs_eq, i_Pairs_eq, k_Pairs_eq⟩, (fun_mk (st := s_Pairs_eq) l_Pairs_eq c_Pairs_eq k_Pairs_eq).binds (ps := ["self", "other"]) fun _ _ _ _ _ _ us hl => match us, hl with | [_, _], _ => rfl⟩
    Frame_init := ⟨f_Frame_init, _, fun_mk (st := s_Frame_init) l_Frame_init c_Frame_init k_Frame_init, ⟨a_Frame_init, i_Frame_init, k_Frame_init⟩, (fun_mk (st := s_Frame_init) l_Frame_init c_Frame_init k_Frame_init).binds (ps := ["self", "points", "bars"]) fun _ _ _ _ _ _ us hl => match us, hl with | [_, _, _], _ => rfl⟩
    Frame_points := ⟨f_Frame_points, _, fun_mk (st := s_Frame_points) l_Frame_points c_Frame_points k_Frame_points, ⟨a_Frame_points, i_Frame_points, k_Frame_points⟩, (fun_mk (st := s_Frame_points) l_Frame_points c_Frame_points k_Frame_points).binds (ps := ["self"]) fun _ _ _ _ _ _ us hl => match us, hl with | [_], _ => rfl⟩
    Frame_bars := ⟨f_Frame_bars, _, fun_mk (st := s_Frame_bars) l_Frame_bars c_Frame_bars k_Frame_bars, ⟨a_Frame_bars, i_Frame_bars, k_Frame_bars⟩, (fun_mk (st := s_Frame_bars) l_Frame_bars c_Frame_bars k_Frame_bars).binds (ps := ["self"]) fun _ _ _ _ _ _ us hl => match us, hl with | [_], _ => rfl⟩
    Frame_eq := ⟨f_Frame_eq, _, fun_mk (st := s_Frame_eq) l_Frame_eq c_Frame_eq k_Frame_eq, ⟨a_Frame_eq, i_Frame_eq, k_Frame_eq⟩, (fun_mk (st := s_Frame_eq) l_Frame_eq c_Frame_eq k_Frame_eq).binds (ps := ["self", "other"]) fun _ _ _ _ _ _ us hl => match us, hl with | [_, _], _ => rfl⟩
    Frame_repr := ⟨f_Frame_repr, _, fun_mk (st := s_Frame_repr) l_Frame_repr c_Frame_repr k_Frame_repr, ⟨a_Frame_repr, i_Frame_repr, k_Frame_repr⟩, (fun_mk (st := s_Frame_repr) l_Frame_repr c_Frame_repr k_Frame_repr).binds (ps := ["self"]) fun _ _ _ _ _ _ us hl => match us, hl with | [_], _ => rfl⟩
    Pairs_size := ⟨p_Pairs_size, f_Pairs_size, _, fun_mk (st := s_Pairs_size) l_Pairs_size c_Pairs_size k_Pairs_size, ⟨a_Pairs_size, g_Pairs_size, t_Pairs_size, rs_Pairs_size, r_Pairs_size⟩, (fun_mk (st := s_Pairs_size) l_Pairs_size c_Pairs_size k_Pairs_size).binds (ps := ["self"]) fun _ _ _ _ _ _ us hl => match us, hl with | [_], _ => rfl⟩
    Frame_many := ⟨p_Frame_many, f_Frame_many, _, fun_mk (st := s_Frame_many) l_Frame_many c_Frame_many k_Frame_many, ⟨a_Frame_many, g_Frame_many, t_Frame_many, rs_Frame_many, r_Frame_many⟩, (fun_mk (st := s_Frame_many) l_Frame_many c_Frame_many k_Frame_many).binds (ps := ["self"]) fun _ _ _ _ _ _ us hl => match us, hl with | [_], _ => rfl⟩
    nf_own_top := nf_own_top
    nf_own_bottom := nf_own_bottom
    nf_own_size := nf_own_size
    nf_own_rows := nf_own_rows
    nf_own_ints := nf_own_ints
    nf_own_points := nf_own_points
    nf_own_bars := nf_own_bars
    z_isinstance := PySem.W.mg_none_of Y G z_isinstance
    z_len := PySem.W.mg_none_of Y G z_len
    z_all := PySem.W.mg_none_of Y G z_all
    z_tuple := PySem.W.mg_none_of Y G z_tuple
    z_list := PySem.W.mg_none_of Y G z_list
    z_repr := PySem.W.mg_none_of Y G z_repr
    z_range := PySem.W.mg_none_of Y G z_range
    z_abs := PySem.W.mg_none_of Y G z_abs
    z_max := PySem.W.mg_none_of Y G z_max
    z_int := PySem.W.mg_none_of Y G z_int
    z_divmod := PySem.W.mg_none_of Y G z_divmod
    z_bool := PySem.W.mg_none_of Y G z_bool
    m_gcd := PySem.W.mg_of Y G m_gcd
    m_lcm := PySem.W.mg_of Y G m_lcm
    tk_MOST_POINTS := tk_MOST_POINTS
    m_MOST_POINTS := PySem.W.mg_of Y G m_MOST_POINTS
    tk_MOST_BARS := tk_MOST_BARS
    m_MOST_BARS := PySem.W.mg_of Y G m_MOST_BARS
    tk_MOST_SIZE := tk_MOST_SIZE
    m_MOST_SIZE := PySem.W.mg_of Y G m_MOST_SIZE
    tk_MOST_PAIRS := tk_MOST_PAIRS
    m_MOST_PAIRS := PySem.W.mg_of Y G m_MOST_PAIRS
    tk_PART := tk_PART
    m_PART := PySem.W.mg_of Y G m_PART
    sfR := sfR
    cn := cn
    ct := ct
    kit_rI := kit_rI
    kit_rB := kit_rB
    kit_rR := kit_rR
    kit_iR := kit_iR
    kit_fF := kit_fF
    kit_pP := kit_pP
    kit_iK := kit_iK
    kit_v0 := kit_v0
    kit_v1 := kit_v1
    kit_v2 := kit_v2
    kit_v3 := kit_v3
    kit_v4 := kit_v4
    kit_v5 := kit_v5
    nof_n0 := nof_n0
    nof_n1 := nof_n1
    nof_n2 := nof_n2
    nof_n3 := nof_n3
    nof_n4 := nof_n4
    nof_n5 := nof_n5 }
end K84

/-! The end of the row where the law's def is known to run under no guard. -/
namespace K84
open PySem PySem.Spec PyProof.Rows L2
/-- the law: from the script True -/
def spLaw (K : PySem.W.Frag) : Sp := fun vs H Q _ => ∃ (a : Addr) (ns : List Int), vs = [.ref a] ∧ SqL K H a (ns.map V.int) ∧ ns.length ≤ 63 ∧ ∀ H', Q (.bl true) H'

section
variable {P : Program} {w : World} {K : PySem.W.Frag} {mg mb : Str → Option Value} {k : Nat} {fa a : Addr} {fd : FuncData} {x : Str} {s1 : Shared} {vs : List Value} {ns : List Int}
/-- the call of the law, the abstract heap tracking the script at most -/
theorem call_from (hns : s1.heap.Ns mainGlobals mg) (hb : s1.heap.Ns builtinsNs mb) (hbb : ∀ x : Str, x ≠ "__name__" → mb x = bootBuiltins x) (hlim : s1.heap.NoLimit) (hg : s1.gens = #[])
    (KX : K.In s1.heap) (ha : s1.heap.get? a = some { cls := .type "list", data := .seq vs.toArray }) (hl : ns.length ≤ 63) (hr : Room k callerA)
    (F : ∀ base : Heap, K.In base → base.Ns mainGlobals mg → FnG P w K mg base k fa fd [x] (spLaw K)) (hbind : ∀ (s : Shared) (u : Value), BindsTo s fd ⟨[u], []⟩ [(x, u)])
    (H : Hp) (hO : Only H) (hS : SqL K H a (ns.map V.int)) (hok : HOk P w H s1.heap) (hA : ∀ b, H b ≠ none → b = a) (hK : H a ≠ none → K.lookup a = none) :
    codeAny (model P w) callerA (.call (.ref fa) ⟨[.ref a], []⟩) (fun r s' => r = .ok (.ret (.bool true)) ∧ OldK s1.heap s'.heap ∧ s'.os = s1.os ∧ AllBare s'.gens) s1 := by
  have off : ∀ {b : Addr} {o : Obj} {es : Array DictEntry} {ep : Nat}, s1.heap.get? b = some o → o.data = .dict es ep → H b = none := by
    intro b o es ep e d
    rcases none_or (H := H) (b := b) with q | ⟨u, q⟩
    · exact q
    · have e' : b = a := hA b (by rw [q]; simp)
      rw [e', ha] at e
      cases e
      have d' : Data.seq vs.toArray _ = Data.dict es ep := d
      cases d'
  have nsT : ∀ {b : Addr} {m : Str → Option Value}, s1.heap.Ns b m → (hidT s1.heap H).Ns b m := by
    rintro b m ⟨o, es, ep, e, d, r⟩
    exact ⟨o, es, ep, hidT_get e (off e d), d, r⟩
  have kb : K.In (hidT s1.heap H) := by
    intro b o e
    refine hidT_get (KX b o e) ?_
    rcases none_or (H := H) (b := b) with q | ⟨u, q⟩
    · exact q
    · have e' : b = a := hA b (by rw [q]; simp)
      rw [e', hK (by rw [← e', q]; simp)] at e
      cases e
  have lim2 : (hidT s1.heap H).NoLimit := by
    obtain ⟨mc, h1, h2⟩ := hlim
    exact ⟨mc, nsT h1, h2⟩
  have M : Mod K mg (hidT s1.heap H) := ⟨kb, nsT hns, ⟨mb, nsT hb, hbb⟩, lim2⟩
  have noIn : ∀ b : Addr, b ∈ frs [] → False := fun b hb => absurd (show b ∈ ([] : List Addr) from hb) (by simp)
  have e0 : Env0 P w K mg (hidT s1.heap H) callerA [] s1 H := ⟨rfl, M, fun b o e => of_hidT e, Nat.le_of_eq (hidT_size _ _), trivial, fun b hb => (noIn b hb).elim, hok, .of_eq hg⟩
  have hsp : spLaw K [.ref a] H (fun v _ => v = .bl true) E0 := ⟨a, ns, rfl, hS, hl, fun _ => rfl⟩
  refine codeAny_mono ((F _ kb (nsT hns)).run callerA [] s1 H ⟨[.ref a], []⟩ [.ref a] [.ref a] _ E0 rfl hr e0 (hbind s1 (.ref a)) (.cons rfl .nil) hsp) fun r s' h => ?_
  cases r with
  | error e => exact h.elim
  | ok fl =>
    cases fl with
    | next => exact h.elim
    | brk => exact h.elim
    | cont => exact h.elim
    | ret u =>
      obtain ⟨v, H', os, bare, un, hok', r', rfl⟩ := h
      obtain rfl : u = Value.bool true := r'
      refine ⟨rfl, OldK.of_keep fun b o e => ?_, os, bare⟩
      rcases hO b with q | ⟨ob, xs, z⟩
      · exact un.keep b o e q (fun z => noIn b z) (by simp)
      · have z2 := un.frzs b ob _ z
        obtain ⟨e1, _⟩ := hok b _ z
        obtain ⟨e2, _⟩ := hok' b _ z2
        rw [e] at e1
        cases e1
        exact e2

theorem call_law (hns : s1.heap.Ns mainGlobals mg) (hb : s1.heap.Ns builtinsNs mb) (hbb : ∀ x : Str, x ≠ "__name__" → mb x = bootBuiltins x) (hlim : s1.heap.NoLimit) (hg : s1.gens = #[])
    (KX : K.In s1.heap) (ha : s1.heap.get? a = some { cls := .type "list", data := .seq vs.toArray }) (hi : IntsAre vs ns) (hl : ns.length ≤ 63) (hr : Room k callerA)
    (F : ∀ base : Heap, K.In base → base.Ns mainGlobals mg → FnG P w K mg base k fa fd [x] (spLaw K)) (hbind : ∀ (s : Shared) (u : Value), BindsTo s fd ⟨[u], []⟩ [(x, u)]) :
    codeAny (model P w) callerA (.call (.ref fa) ⟨[.ref a], []⟩) (fun r s' => r = .ok (.ret (.bool true)) ∧ OldK s1.heap s'.heap ∧ s'.os = s1.os ∧ AllBare s'.gens) s1 := by
  have rv := vals_ints hi
  have n1 := hi.length
  have n2 : (63 : Nat) ≤ sizeLine := by decide
  cases hk : K.lookup a with
  | some o =>
    have e := KX a o hk
    rw [ha] at e
    cases e
    refine call_from hns hb hbb hlim hg KX ha hl hr F hbind (fun _ => none) (fun _ => .inl rfl) (.inr ⟨_, vs.toArray, _, hk, rfl, rfl, rfl, ?_, by simpa using rv⟩) (fun b u z => nomatch (show (none : Option HO) = some u from z)) (fun b z => absurd rfl z) fun z => absurd rfl z
    rw [List.size_toArray, n1]
    omega
  | none =>
    have one : ∀ {b : Addr} {u : HO}, (fun b => if b = a then some (HO.frz { cls := .type "list", data := .seq vs.toArray } (.lst (ns.map V.int))) else none : Hp) b = some u → b = a ∧ u = HO.frz { cls := .type "list", data := .seq vs.toArray } (.lst (ns.map V.int)) := by
      intro b u z
      by_cases hb : b = a
      · have z' := (if_pos hb).symm.trans z
        exact ⟨hb, (Option.some.inj z').symm⟩
      · have z' := (if_neg hb).symm.trans z
        cases z'
    refine call_from hns hb hbb hlim hg KX ha hl hr F hbind (fun b => if b = a then some (HO.frz { cls := .type "list", data := .seq vs.toArray } (.lst (ns.map V.int))) else none) (fun b => ?_) (.inl (.inr ⟨{ cls := .type "list", data := .seq vs.toArray }, if_pos rfl⟩)) (fun b u z => ?_) (fun b z => ?_) fun _ => hk
    · by_cases hb : b = a
      · exact .inr ⟨_, _, if_pos hb⟩
      · exact .inl (if_neg hb)
    · obtain ⟨rfl, rfl⟩ := one z
      exact ⟨ha, by rw [List.length_map]; omega, vs, _, rv, ha⟩
    · by_cases hb : b = a
      · exact hb
      · exact absurd (if_neg hb) z
end

theorem walkG {l : PySem.W.OpenLaw} {q : Program} {loose : List Str} {XP : (Str → Option Value) → Heap → Prop} {YP : World → Heap → Prop} {d : DefRec} {K : Params → PySem.W.Frag} (hn : l.most = some 63) (hdf : d.params.defaults = [])
    (hY : ∀ (w : World) (h : Heap), YP w h → (K w.params).In h)
    (F : ∀ (w : World) (mg : Str → Option Value) (fa : Addr) (h : Heap), (K w.params).In h → h.Ns mainGlobals mg → mg d.name = some (.ref fa) →
      ∃ fd : FuncData, (∀ (s : Shared) (u : Value), BindsTo s fd ⟨[u], []⟩ [("_law_script", u)]) ∧
        ∀ base : Heap, (K w.params).In base → base.Ns mainGlobals mg → FnG l.prog w (K w.params) mg base 18 fa fd ["_law_script"] (spLaw (K w.params))) :
    PySem.W.WalkO q loose XP YP l.row.toRowW d [] (fun f vs => PySem.call f vs) := by
  refine Att.attach_call hn hdf fun w s0 s1 mg mb fa o pm cd doc a vs ns G Y ho hd hcd hmg hobj hints hlen hg => ?_
  have KX := hY w _ Y
  obtain ⟨fd, hb, hF⟩ := F w mg fa _ KX G.T.g hmg
  exact call_law G.T.g G.T.b G.T.builtins G.T.nolimit hg KX hobj hints hlen ⟨rfl, by decide, by decide⟩ hF hb
end K84

/-! The small defs: numbers, fractions. -/
namespace K84
open PySem PySem.Spec PyProof.Rows L2

/-- the type of a piece of data -/
def tyD (CR : Addr) : Dt → Value
  | .non => .type "NoneType"
  | .bl _ => .type "bool"
  | .int _ => .type "int"
  | .rat _ _ => .ref CR
  | .lst _ => .type "list"
  | .tup _ => .type "tuple"
/-- an int or a fraction -/
def Num : Dt → Prop
  | .int _ => True
  | .rat _ _ => True
  | _ => False
def isI : Dt → Bool
  | .int _ => true
  | _ => false

section
variable {K : PySem.W.Frag} {mg : Str → Option Value}
theorem tyx (T : Tx K mg) {H : Hp} {d : Dt} {x : V} (h : Is T.CR H d x) : TyX K H x (tyD T.CR d) := by
  cases h with
  | non => exact .base .non
  | bl b => exact .base (.bl b)
  | int i => exact .base (.int i)
  | rat e => exact .base (.ins e T.Ratio.cl T.Ratio.ca T.cn T.ct T.Ratio.cm)
  | lst e r => exact .base (.lst e)
  | tup e r => exact .base (.tup e)
theorem kit_int (T : Tx K mg) {d : Dt} (h : Num d) : PySem.W.kitOne K (tyD T.CR d) (.type "int") = some (isI d) := by
  cases d with
  | int i =>
    show PySem.W.kitOne K (.type "int") (.type "int") = some true
    exact kit_ty (by decide +kernel)
  | rat a b => exact T.kit_rI
  | _ => exact h.elim
theorem kit_bool (T : Tx K mg) {d : Dt} (h : Num d) : PySem.W.kitOne K (tyD T.CR d) (.type "bool") = some false := by
  cases d with
  | int i =>
    show PySem.W.kitOne K (.type "int") (.type "bool") = some false
    exact kit_ty (by decide +kernel)
  | rat a b => exact T.kit_rB
  | _ => exact h.elim
theorem kit_rat (T : Tx K mg) {d : Dt} (h : Num d) : PySem.W.kitOne K (tyD T.CR d) (.ref T.CR) = some (!isI d) := by
  cases d with
  | int i => exact T.kit_iR
  | rat a b => exact T.kit_rR
  | _ => exact h.elim
theorem kit_seq (CR : Addr) {d : Dt} (h : (∃ ds, d = .lst ds) ∨ ∃ ds, d = .tup ds) : PySem.W.kitAny K (tyD CR d) [.type "list", .type "tuple"] = some true := by
  rcases h with ⟨ds, rfl⟩ | ⟨ds, rfl⟩
  · exact kitAny_cons (b := true) (kit_ty (by decide +kernel)) (fun z => nomatch z) fun _ => rfl
  · exact kitAny_cons (b := false) (kit_ty (by decide +kernel)) (fun _ => kitAny_cons (b := true) (kit_ty (by decide +kernel)) (fun z => nomatch z) fun _ => rfl) (fun z => nomatch z)
end

/-! ### promises -/
def spIsInteger (CR : Addr) : Sp := fun vs H Q _ => ∃ d x, vs = [x] ∧ Is CR H d x ∧ Num d ∧ Q (.bl (isI d)) H
def spIsCount : Sp := fun vs H Q _ => ∃ i : Int, vs = [.int i] ∧ Q (.bl (decide (0 ≤ i))) H
def spIsList (CR : Addr) : Sp := fun vs H Q _ => ∃ d x, vs = [x] ∧ Is CR H d x ∧ ((∃ ds, d = .lst ds) ∨ ∃ ds, d = .tup ds) ∧ ∀ H', Ext H H' → Q (.bl true) H'
def spIsNumber (CR : Addr) : Sp := fun vs H Q _ => ∃ d x, vs = [x] ∧ Is CR H d x ∧ Num d ∧ Q (.bl true) H
def spDigits : Sp := fun vs H Q _ => ∃ i : Int, vs = [.int i] ∧ (-1000000 ≤ i ∧ i ≤ 1000000) ∧ Q (.str (dig i)) H
def spGcd : Sp := fun vs H Q _ => ∃ i j : Int, vs = [.int i, .int j] ∧ Q (.int ((Nat.gcd i.natAbs j.natAbs : Nat) : Int)) H

section
variable {P : Program} {w : World} {K : PySem.W.Frag} {mg : Str → Option Value} {base : Heap}

theorem ok_is_integer (T : Tx K mg) : FnOk P w K mg base CX0 1 T.is_integer.f T.is_integer.fd ["value"] (spIsInteger T.CR) := by
  refine T.is_integer.F.ok sc_is_integer (fun vs H Q E h => ?_) (fun cdv A outer s H vs Q E hr h => ?_)
  · obtain ⟨d, x, rfl, _⟩ := h
    rfl
  · obtain ⟨d, x, rfl, hI, hn, q⟩ := h
    refine ⟨_, pss_one (ps_ret (pe_and (pe_callB call_isi (by rfl) T.z_isinstance PyProof.Rows.boot_isinstance (pa_cons (pv 0) (pa_cons (pe_bltn (v := .ty "int") (by rfl) T.z_int PyProof.Rows.boot_int rfl) pa_nil)))
      (pe_one (pe_not (pe_callB call_isi (by rfl) T.z_isinstance PyProof.Rows.boot_isinstance (pa_cons (pv 0) (pa_cons (pe_bltn (v := .ty "bool") (by rfl) T.z_bool PyProof.Rows.boot_bool rfl) pa_nil))))))), ?_⟩
    refine ⟨_, rfl, _, _, _, _, _, rfl, .ty _, tyx T hI, kit_int T hn, _, rfl, ?_⟩
    cases hi : isI d with
    | true =>
      refine iteT ⟨_, rfl, _, _, _, _, _, rfl, .ty _, tyx T hI, kit_bool T hn, _, rfl, ?_⟩
      rw [hi] at q
      exact q
    | false =>
      refine iteF ?_
      rw [hi] at q
      exact q

theorem ok_is_count (T : Tx K mg) : FnOk P w K mg base CX0 2 T.is_count.f T.is_count.fd ["value"] spIsCount := by
  have G := ok_is_integer (P := P) (w := w) (base := base) T
  refine T.is_count.F.ok sc_is_count (fun vs H Q E h => ?_) (fun cdv A outer s H vs Q E hr h => ?_)
  · obtain ⟨i, rfl, _⟩ := h
    rfl
  · obtain ⟨i, rfl, q⟩ := h
    refine ⟨_, pss_one (ps_ret (pe_and (pe_call G hr (by rfl) T.is_integer.g T.is_integer.F.kp T.is_integer.b .nil pass0 (pa_cons (pv 0) pa_nil)) (pe_one (pe_cmpR op_ge (pv 0) pe_int (nomark _))))), ?_⟩
    refine ⟨_, rfl, .int i, _, rfl, .int i, trivial, true, rfl, iteT ⟨_, rfl, _, _, rfl, rfl, q⟩⟩

theorem ok_is_list (T : Tx K mg) : FnOk P w K mg base CX0 1 T.is_list.f T.is_list.fd ["value"] (spIsList T.CR) := by
  refine T.is_list.F.ok sc_is_list (fun vs H Q E h => ?_) (fun cdv A outer s H vs Q E hr h => ?_)
  · obtain ⟨d, x, rfl, _⟩ := h
    rfl
  · obtain ⟨d, x, rfl, hI, hn, q⟩ := h
    refine ⟨_, pss_one (ps_ret (pe_callB call_isiT (by rfl) T.z_isinstance PyProof.Rows.boot_isinstance (pa_cons (pv 0) (pa_cons (pe_tup (pa_cons (pe_bltn (v := .ty "list") (by rfl) T.z_list PyProof.Rows.boot_list rfl)
      (pa_cons (pe_bltn (v := .ty "tuple") (by rfl) T.z_tuple PyProof.Rows.boot_tuple rfl) pa_nil))) pa_nil)))), ?_⟩
    refine ⟨_, rfl, (by show 2 ≤ sizeLine; decide), fun t ht => ?_⟩
    refine ⟨x, t, _, _, _, true, rfl, upd_same, .cons (.ty _) (.cons (.ty _) .nil), tyx T (hI.ext (Ext.upd ht)), kit_seq T.CR hn, q _ (Ext.upd ht)⟩

theorem ok_is_number (T : Tx K mg) : FnOk P w K mg base CX0 2 T.is_number.f T.is_number.fd ["value"] (spIsNumber T.CR) := by
  have G := ok_is_integer (P := P) (w := w) (base := base) T
  refine T.is_number.F.ok sc_is_number (fun vs H Q E h => ?_) (fun cdv A outer s H vs Q E hr h => ?_)
  · obtain ⟨d, x, rfl, _⟩ := h
    rfl
  · obtain ⟨d, x, rfl, hI, hn, q⟩ := h
    refine ⟨_, pss_one (ps_ret (pe_or (pe_call G hr (by rfl) T.is_integer.g T.is_integer.F.kp T.is_integer.b .nil pass0 (pa_cons (pv 0) pa_nil))
      (pe_one (pe_callB call_isi (by rfl) T.z_isinstance PyProof.Rows.boot_isinstance (pa_cons (pv 0) (pa_cons (pe_glob (v := .ref T.CR) (by rfl) T.Ratio.g rfl) pa_nil)))))), ?_⟩
    refine ⟨_, rfl, d, x, rfl, hI, hn, _, rfl, ?_⟩
    cases hi : isI d with
    | true => exact iteT q
    | false =>
      refine iteF ⟨_, rfl, _, _, _, _, _, rfl, .own _, tyx T hI, kit_rat T hn, ?_⟩
      rw [hi]
      exact q

theorem ok_common_part (T : Tx K mg) : FnOk P w K mg base CX0 1 T.common_part.f T.common_part.fd ["one", "other"] spGcd := by
  refine T.common_part.F.ok sc_common_part (fun vs H Q E h => ?_) (fun cdv A outer s H vs Q E hr h => ?_)
  · obtain ⟨i, j, rfl, _⟩ := h
    rfl
  · obtain ⟨i, j, rfl, q⟩ := h
    refine ⟨_, pss_one (ps_ret (pe_callBfun cr_gcd (by rfl) T.m_gcd (pa_cons (pv 0) (pa_cons (pv 1) pa_nil)))), ?_⟩
    exact ⟨_, rfl, _, rfl, _, _, rfl, q⟩
end
end K84

/-! Texts of small numbers, fractions made. -/
namespace K84
open PySem PySem.Spec PyProof.Rows L2

/-! ### lengths -/
theorem len_int {i : Int} (h : i.natAbs.log2 < 1920) : ((toString i : String) : Str).length ≤ 1921 := int_text_len_1921 h
theorem sm_log {i : Int} (h : i.natAbs < 10000000) : i.natAbs.log2 < 1920 := by
  by_cases h0 : i.natAbs = 0
  · rw [h0]; decide
  · have : i.natAbs < 2 ^ 1920 := Nat.lt_of_lt_of_le h (by decide +kernel)
    exact (Nat.log2_lt h0).mpr this
theorem dig_len {i : Int} (h1 : -1000000 ≤ i) (h2 : i ≤ 1000000) : (dig i).length ≤ 1930 := by
  have l1 : ((toString (if 0 ≤ i then i else 0 - i) : String) : Str).length ≤ 1921 := len_int (sm_log (by split <;> omega))
  unfold dig
  rw [strLen_append, strLen_append, strLen_append]
  have l2 : (if i < 0 then ("-" : Str) else ("" : Str)).length ≤ 1 := by split <;> decide
  have l3 : (("" : Str)).length = 0 := by decide
  have l4 : Str.empty.length = 0 := by decide
  omega
theorem rat_len {t b : Int} (h : SmR t b) : (ratText t b).length ≤ 4000 := by
  obtain ⟨⟨h1, h2⟩, h3, h4⟩ := h
  have a := dig_len h1 h2
  have c := dig_len (i := b) (by omega) h4
  unfold ratText
  rw [strLen_append, strLen_append, strLen_append, strLen_append, strLen_append]
  have l1 : (("Ratio(" : Str)).length = 6 := by decide
  have l2 : ((", " : Str)).length = 2 := by decide
  have l3 : ((")" : Str)).length = 1 := by decide
  have l4 : Str.empty.length = 0 := by decide
  omega
mutual
/-- how many pieces a piece of data has -/
def cnt : Dt → Nat
  | .lst ds => cnts ds + 1
  | .tup ds => cnts ds + 1
  | _ => 1
def cnts : List Dt → Nat
  | [] => 0
  | d :: ds => cnt d + cnts ds
end
theorem cnt_pos (d : Dt) : 1 ≤ cnt d := by cases d <;> simp [cnt]
theorem len_cnts : ∀ ds : List Dt, ds.length ≤ cnts ds
  | [] => by simp [cnts]
  | d :: ds => by
    have a := len_cnts ds
    have b := cnt_pos d
    rw [cnts, List.length_cons]
    omega
mutual
theorem text_len : ∀ d : Dt, d.ok → d.text.length + 4 ≤ 4010 * cnt d
  | .non, _ => by simp only [Dt.text, cnt]; decide
  | .bl b, _ => by simp only [Dt.text, cnt]; cases b <;> decide
  | .int i, h => by
    rw [Dt.ok] at h
    simp only [Dt.text, cnt]
    have := len_int h
    omega
  | .rat t b, h => by
    rw [Dt.ok] at h
    simp only [Dt.text, cnt]
    have := rat_len h
    omega
  | .lst ds, h => by
    rw [Dt.ok] at h
    rw [Dt.text, cnt]
    have a := listText_len_le (Dt.texts ds)
    have b := texts_sum ds h
    have c := texts_length ds
    omega
  | .tup ds, h => by
    rw [Dt.ok] at h
    rw [Dt.text, cnt]
    have a := tupleText_len_le (Dt.texts ds)
    have b := texts_sum ds h
    have c := texts_length ds
    omega
theorem texts_sum : ∀ ds : List Dt, Dt.oks ds → ((Dt.texts ds).map (·.length)).sum + 4 * ds.length ≤ 4010 * cnts ds
  | [], _ => by simp [Dt.texts, cnts]
  | d :: ds, h => by
    rw [Dt.oks] at h
    have a := text_len d h.1
    have b := texts_sum ds h.2
    rw [Dt.texts, List.map_cons, List.sum_cons, cnts, List.length_cons]
    omega
end

/-! ### digits_of -/
section
variable {P : Program} {w : World} {K : PySem.W.Frag} {mg : Str → Option Value} {base : Heap}
theorem ok_digits_of (T : Tx K mg) : FnOk P w K mg base CX0 1 T.digits_of.f T.digits_of.fd ["number"] spDigits := by
  refine T.digits_of.F.ok sc_digits_of (fun vs H Q E h => ?_) (fun cdv A outer s H vs Q E hr h => ?_)
  · obtain ⟨i, rfl, _⟩ := h
    rfl
  · obtain ⟨i, rfl, ⟨h1, h2⟩, q⟩ := h
    have nd := sc_digits_of.nd
    refine ⟨_, pss_cons (ps_par (i := 1) (j := 2) rfl nd rfl rfl (by decide) rfl rfl (pa_cons (pe_ifExp (pt_cmpR op_ge (pv 0) pe_int (nomark _)) (pv 0) (pe_op op_sub pe_int (pv 0))) (pa_cons pe_str pa_nil)) (by rfl))
      (pss_cons (ps_while PassesOwn.never (pt_cmpR op_ge (pv 1) (pe_glob (v := .int 1000000000000000000000000000000000000000000000000000000000000) (by rfl) T.m_PART ⟨_, rfl⟩) (nomark _)) pss_never)
      (pss_cons (ps_set (i := 4) nd rfl (.inl rfl) (pe_ifExp (pt_cmpR op_lt (pv 0) pe_int (nomark _)) pe_str pe_str))
      (pss_one (ps_ret (pe_joined (.cons (pe_fmt (pv 4)) (.cons (pe_fmt (pv 1)) (.cons (pe_fmt (pv 2)) .nil)))))))), ?_⟩
    have l0 : Str.empty.length = 0 := by decide
    have l1 : ((("-" : String) : Str)).length = 1 := by decide
    have l2 : ((("" : String) : Str)).length = 0 := by decide
    have lz : (2000 : Nat) ≤ sizeLine := by decide
    refine ⟨_, rfl, _, _, rfl, rfl, _, rfl, ite2 (fun e => ?_) (fun e => ?_)⟩
    · have h0 : 0 ≤ i := of_decide_eq_true e
      have lg : i.natAbs.log2 < 1920 := sm_log (by omega)
      have ln := len_int lg
      refine ⟨_, rfl, _, _, rfl, ?_⟩
      refine ⟨fun _ σ' H' => σ' = [some (V.int i), some (.int i), some (.str ""), none, none] ∧ H' = H, ⟨0, rfl, rfl⟩, fun m σ' H' hw => ?_⟩
      obtain ⟨rfl, rfl⟩ := hw
      refine ⟨_, rfl, _, _, rfl, rfl, _, rfl, ?_⟩
      rw [decide_eq_false (show ¬ (1000000000000000000000000000000000000000000000000000000000000 : Int) ≤ i by omega)]
      refine iteF ?_
      refine ⟨_, rfl, _, _, rfl, rfl, _, rfl, ite2 (fun e2 => ?_) (fun e2 => ?_)⟩
      · have n : i < 0 := of_decide_eq_true e2
        refine ⟨_, rfl, .inl ⟨_, rfl, by omega, _, rfl, by rw [strLen_append]; omega, _, rfl, .inr ⟨_, rfl, lg, _, rfl, by rw [strLen_append, strLen_append]; omega, _, rfl, .inl ⟨_, rfl, by omega, _, rfl, by rw [strLen_append, strLen_append, strLen_append]; omega, ?_⟩⟩⟩⟩
        have ed : dig i = Str.empty ++ ("-" : Str) ++ ((toString (i) : String) : Str) ++ ("" : Str) := by
          unfold dig
          rw [if_pos n, if_pos h0]
        rw [ed] at q
        exact q
      · have n : ¬ i < 0 := fun z => e2 (decide_eq_true z)
        refine ⟨_, rfl, .inl ⟨_, rfl, by omega, _, rfl, by rw [strLen_append]; omega, _, rfl, .inr ⟨_, rfl, lg, _, rfl, by rw [strLen_append, strLen_append]; omega, _, rfl, .inl ⟨_, rfl, by omega, _, rfl, by rw [strLen_append, strLen_append, strLen_append]; omega, ?_⟩⟩⟩⟩
        have ed : dig i = Str.empty ++ ("" : Str) ++ ((toString (i) : String) : Str) ++ ("" : Str) := by
          unfold dig
          rw [if_neg n, if_pos h0]
        rw [ed] at q
        exact q
    · have h0 : ¬ 0 ≤ i := fun z => e (decide_eq_true z)
      have lg : (0 - i).natAbs.log2 < 1920 := sm_log (by omega)
      have ln := len_int lg
      refine ⟨_, rfl, _, _, rfl, rfl, ?_⟩
      refine ⟨_, _, rfl, ?_⟩
      refine ⟨fun _ σ' H' => σ' = [some (V.int i), some (.int (0 - i)), some (.str ""), none, none] ∧ H' = H, ⟨0, rfl, rfl⟩, fun m σ' H' hw => ?_⟩
      obtain ⟨rfl, rfl⟩ := hw
      refine ⟨_, rfl, _, _, rfl, rfl, _, rfl, ?_⟩
      rw [decide_eq_false (show ¬ (1000000000000000000000000000000000000000000000000000000000000 : Int) ≤ 0 - i by omega)]
      refine iteF ?_
      refine ⟨_, rfl, _, _, rfl, rfl, _, rfl, ite2 (fun e2 => ?_) (fun e2 => ?_)⟩
      · have n : i < 0 := of_decide_eq_true e2
        refine ⟨_, rfl, .inl ⟨_, rfl, by omega, _, rfl, by rw [strLen_append]; omega, _, rfl, .inr ⟨_, rfl, lg, _, rfl, by rw [strLen_append, strLen_append]; omega, _, rfl, .inl ⟨_, rfl, by omega, _, rfl, by rw [strLen_append, strLen_append, strLen_append]; omega, ?_⟩⟩⟩⟩
        have ed : dig i = Str.empty ++ ("-" : Str) ++ ((toString (0 - i) : String) : Str) ++ ("" : Str) := by
          unfold dig
          rw [if_pos n, if_neg h0]
        rw [ed] at q
        exact q
      · have n : ¬ i < 0 := fun z => e2 (decide_eq_true z)
        refine ⟨_, rfl, .inl ⟨_, rfl, by omega, _, rfl, by rw [strLen_append]; omega, _, rfl, .inr ⟨_, rfl, lg, _, rfl, by rw [strLen_append, strLen_append]; omega, _, rfl, .inl ⟨_, rfl, by omega, _, rfl, by rw [strLen_append, strLen_append, strLen_append]; omega, ?_⟩⟩⟩⟩
        have ed : dig i = Str.empty ++ ("" : Str) ++ ((toString (0 - i) : String) : Str) ++ ("" : Str) := by
          unfold dig
          rw [if_neg n, if_neg h0]
        rw [ed] at q
        exact q
end
end K84

/-! Fractions: made, taken away, compared, told. -/
namespace K84
open PySem PySem.Spec PyProof.Rows L2

/-- in lowest terms -/
def nT (t b : Int) : Int := t / ((Nat.gcd t.natAbs b.natAbs : Nat) : Int)
def nB (t b : Int) : Int := b / ((Nat.gcd t.natAbs b.natAbs : Nat) : Int)
theorem nT_one (t : Int) : nT t 1 = t := by
  unfold nT
  have e : Nat.gcd t.natAbs (1 : Int).natAbs = 1 := Nat.gcd_one_right _
  rw [e]
  exact Int.ediv_one t
theorem nB_one (t : Int) : nB t 1 = 1 := by
  unfold nB
  have e : Nat.gcd t.natAbs (1 : Int).natAbs = 1 := Nat.gcd_one_right _
  rw [e]
  rfl
theorem gcd_lim {t b : Int} (h1 : 1 ≤ b) (h2 : b ≤ 1000000) : 0 < ((Nat.gcd t.natAbs b.natAbs : Nat) : Int) ∧ ((Nat.gcd t.natAbs b.natAbs : Nat) : Int) < 1073741824 := by
  have a : 0 < Nat.gcd t.natAbs b.natAbs := Nat.gcd_pos_of_pos_right _ (by omega)
  have c : Nat.gcd t.natAbs b.natAbs ≤ b.natAbs := Nat.gcd_le_right _ (by omega)
  omega

theorem top_bot : ¬ (("own_top" : Str) = "own_bottom") := by decide +kernel
theorem ratF_put (t b : Int) : putF "own_bottom" (.int b) (putF "own_top" (.int t) []) = ratF t b := by
  show (if ("own_top" : Str) = "own_bottom" then [(("own_top" : Str), V.int b)] else (("own_top" : Str), V.int t) :: putF "own_bottom" (V.int b) []) = _
  rw [if_neg top_bot]
  rfl
theorem ratF_top (t b : Int) : (ratF t b).lookup ("own_top" : Str) = some (.int t) := by
  rw [← ratF_put, lookup_putF, if_neg top_bot, lookup_putF, if_pos rfl]
theorem ratF_bot (t b : Int) : (ratF t b).lookup ("own_bottom" : Str) = some (.int b) := by
  rw [← ratF_put, lookup_putF, if_pos rfl]

def spRatInit (CR : Addr) : Sp := fun vs H Q _ => ∃ (p dx : Addr) (t b : Int), vs = [.ref p, .int t, .int b] ∧ H p = some (.ins CR dx []) ∧ 1 ≤ b ∧ b ≤ 1000000 ∧ Q .non (upd H p (.ins CR dx (ratF (nT t b) (nB t b))))
def spTold (CR : Addr) : Sp := fun vs H Q _ => ∃ (x : V) (t b : Int), vs = [x] ∧ Is CR H (.rat t b) x ∧ ∀ p, H p = none → Q (.ref p) (upd H p (.tup [.int t, .int b]))
/-- small enough to be reckoned with -/
def Sm (t b : Int) : Prop := (-100000 ≤ t ∧ t ≤ 100000) ∧ 1 ≤ b ∧ b ≤ 1000
def spRatSub (CR : Addr) : Sp := fun vs H Q _ => ∃ (G : Hp) (x y : V) (t1 b1 t2 b2 : Int), vs = [x, y] ∧ Ext G H ∧ Is CR G (.rat t1 b1) x ∧ Is CR G (.rat t2 b2) y ∧ Sm t1 b1 ∧ Sm t2 b2 ∧
  ∀ G' H' v, Grow G H G' H' → Is CR G' (.rat (nT (t1 * b2 - t2 * b1) (b1 * b2)) (nB (t1 * b2 - t2 * b1) (b1 * b2))) v → Q v H'
/-- the fraction of a number -/
def rOf : Dt → Dt
  | .int i => .rat i 1
  | d => d
def spRatioOf (CR : Addr) : Sp := fun vs H Q _ => ∃ (G : Hp) (x : V) (d : Dt), vs = [x] ∧ Ext G H ∧ Is CR G d x ∧ Num d ∧ ∀ G' H' v, Grow G H G' H' → Is CR G' (rOf d) v → Q v H'

/-- a new fraction stands in the data -/
theorem Gr.rat {M : Addr → Prop} {G H G1 H1 : Hp} {CR x dx : Addr} {t b : Int} (a : Gr M G H G1 H1) (nx : H1 x = none) (ndx : H1 dx = none) (ne : dx ≠ x) :
    Gr M G H (upd G1 x (.ins CR dx (ratF t b))) (upd (upd (upd H1 dx (.own x)) x (.ins CR dx [])) x (.ins CR dx (ratF t b))) ∧ Is CR (upd G1 x (.ins CR dx (ratF t b))) (.rat t b) (.ref x) := by
  rw [upd_upd]
  refine ⟨(a.lay ndx).new ?_, .rat upd_same⟩
  rw [upd_ne ne.symm]
  exact nx

section
variable {P : Program} {w : World} {K : PySem.W.Frag} {mg : Str → Option Value} {base : Heap}

theorem ok_ratInit (T : Tx K mg) : FnOk P w K mg base CX0 2 T.Ratio_init.f T.Ratio_init.fd ["self", "top", "bottom"] (spRatInit T.CR) := by
  have G1 := ok_is_integer (P := P) (w := w) (base := base) T
  have G2 := ok_common_part (P := P) (w := w) (base := base) T
  refine T.Ratio_init.F.ok sc_Ratio_init (fun vs H Q E h => ?_) (fun cdv A outer s H vs Q E hr h => ?_)
  · obtain ⟨p, dx, t, b, rfl, _⟩ := h
    rfl
  · obtain ⟨p, dx, t, b, rfl, hp, h1, h2, q⟩ := h
    have nd := sc_Ratio_init.nd
    refine ⟨_, PSs.nox (pss_cons (ps_if (pt_not (pt_val (pe_call G1 hr (by rfl) T.is_integer.g T.is_integer.F.kp T.is_integer.b .nil pass0 (pa_cons (pv 1) pa_nil)))) pss_never pss_nil)
      (pss_cons (ps_if (PW.pt (pw_or (pt_not (pt_val (pe_call G1 hr (by rfl) T.is_integer.g T.is_integer.F.kp T.is_integer.b .nil pass0 (pa_cons (pv 2) pa_nil)))) (pw_or1 (pt_cmpR op_eq (pv 2) pe_int (nomark _))))) pss_never pss_nil)
      (pss_cons (ps_set (i := 3) nd rfl (.inl rfl) (pe_call G2 hr (by rfl) T.common_part.g T.common_part.F.kp T.common_part.b .nil pass0 (pa_cons (pv 1) (pa_cons (pv 2) pa_nil))))
      (pss_cons (ps_if (pt_cmpR op_lt (pv 2) pe_int (nomark _)) pss_never pss_nil)
      (pss_cons (ps_fld (pv 0) (pe_op op_fdiv (pv 1) (pv 3)) rfl)
      (pss_one (ps_fld (pv 0) (pe_op op_fdiv (pv 2) (pv 3)) rfl))))))), ?_⟩
    refine ⟨_, rfl, .int t, _, rfl, .int t, trivial, true, rfl, iteF ?_⟩
    refine ⟨_, rfl, .int b, _, rfl, .int b, trivial, true, rfl, iteF ?_⟩
    refine ⟨_, rfl, rfl, _, rfl, ?_⟩
    have nb : decide (V.int b = V.int 0) = false := decide_eq_false fun z => by
      have z' := V.int.inj z
      omega
    rw [nb]
    refine iteF ?_
    refine ⟨_, rfl, _, rfl, t, b, rfl, ?_⟩
    refine ⟨_, rfl, _, _, rfl, rfl, _, rfl, ?_⟩
    rw [decide_eq_false (show ¬ b < 0 by omega)]
    refine iteF ?_
    have lim := gcd_lim (t := t) h1 h2
    refine ⟨_, rfl, _, rfl, _, _, rfl, rfl, lim, _, rfl, p, T.CR, dx, [], rfl, hp, T.Ratio.cl, T.nf_own_top, (by show 0 < 1000; decide), ?_⟩
    refine ⟨_, rfl, _, rfl, _, _, rfl, rfl, lim, _, rfl, p, T.CR, dx, _, rfl, upd_same, T.Ratio.cl, T.nf_own_bottom, (by show 1 < 1000; decide), ?_⟩
    rw [upd_upd, ratF_put]
    exact q

/-! ### how they are called -/
theorem mkR (T : Tx K mg) : Mk K T.CR T.Ratio_init.f := ⟨T.Ratio.mks, T.Ratio_init.at_, T.Ratio_init.fn, T.Ratio.kp⟩
theorem bR2 (T : Tx K mg) : ∃ ds, Vals [V.int 1] ds ∧ Binds K T.Ratio_init.fd ["self", "top", "bottom"] ds :=
  T.Ratio_init.F.binds1 2 0 (by simp) rfl fun T kV doc pm an cdv ct us its h1 h2 => match us, its, h1, h2 with | [_, _], [_], _, _ => ⟨_, rfl, rfl⟩
theorem bR3 (T : Tx K mg) : Binds K T.Ratio_init.fd ["self", "top", "bottom"] [] := by
  obtain ⟨ds, r, b⟩ := T.Ratio_init.F.binds1 (ps := ["self", "top", "bottom"]) 3 1 (by simp) rfl fun T kV doc pm an cdv ct us its h1 h2 => match us, its, h1, h2 with | [_, _, _], [_], _, _ => ⟨_, rfl, rfl⟩
  cases r
  exact b

theorem ok_told_pair (T : Tx K mg) : FnOk P w K mg base CX0 1 T.told_pair.f T.told_pair.fd ["value"] (spTold T.CR) := by
  refine T.told_pair.F.ok sc_told_pair (fun vs H Q E h => ?_) (fun cdv A outer s H vs Q E hr h => ?_)
  · obtain ⟨x, t, b, rfl, _⟩ := h
    rfl
  · obtain ⟨x, t, b, rfl, hI, q⟩ := h
    refine ⟨_, pss_cons (ps_if (pt_val (pe_callB call_isi (by rfl) T.z_isinstance PyProof.Rows.boot_isinstance (pa_cons (pv 0) (pa_cons (pe_glob (v := .ref T.CR) (by rfl) T.Ratio.g rfl) pa_nil))))
      (pss_one (ps_ret (pe_tup (pa_cons (pe_fld (pv 0) rfl) (pa_cons (pe_fld (pv 0) rfl) pa_nil))))) pss_nil) pss_never, ?_⟩
    refine ⟨_, rfl, _, _, _, _, _, rfl, .own _, tyx T hI, T.kit_rR, true, rfl, iteT ?_⟩
    cases hI with
    | rat e =>
      rename_i a dx
      exact ⟨_, rfl, a, T.CR, dx, _, _, rfl, e, T.Ratio.cl, T.nf_own_top, ratF_top t b, _, rfl, a, T.CR, dx, _, _, rfl, e, T.Ratio.cl, T.nf_own_bottom, ratF_bot t b, (by show 2 ≤ sizeLine; decide), fun p np => q p np⟩

theorem ok_ratSub (T : Tx K mg) : FnOk P w K mg base CX0 4 T.Ratio_sub.f T.Ratio_sub.fd ["self", "other"] (spRatSub T.CR) := by
  have G1 := ok_told_pair (P := P) (w := w) (base := base) T
  have G2 := ok_ratInit (P := P) (w := w) (base := base) T
  refine T.Ratio_sub.F.ok sc_Ratio_sub (fun vs H Q E h => ?_) (fun cdv A outer s H vs Q E hr h => ?_)
  · obtain ⟨G, x, y, t1, b1, t2, b2, rfl, _⟩ := h
    rfl
  · obtain ⟨G, x, y, t1, b1, t2, b2, rfl, eg, hx, hy, s1, s2, q⟩ := h
    have nd := sc_Ratio_sub.nd
    have mulE : ∀ {i j : Int}, (-100000 ≤ i ∧ i ≤ 100000) → (-(2 ^ 64 : Int) < i ∧ i < 2 ^ 64) := fun {i j} h => by omega
    refine ⟨_, pss_cons (ps_asg (pe_call G1 (hr.mono (by decide)) (by rfl) T.told_pair.g T.told_pair.F.kp T.told_pair.b .nil pass0 (pa_cons (pv 1) pa_nil)) (pg_tup rfl (pgs_cons (pg_name (i := 2) nd rfl (.inl rfl)) (pgs_cons (pg_name (i := 3) nd rfl (.inl rfl)) pgs_nil))))
      (pss_one (ps_ret (pe_make (mkR T) G2 hr (by rfl) T.Ratio.g (bR3 T) .nil pass0 (pa_cons (pe_op op_sub (pe_op op_mul (pe_fld (pv 0) rfl) (pv 3)) (pe_op op_mul (pv 2) (pe_fld (pv 0) rfl)))
        (pa_cons (pe_op op_mul (pe_fld (pv 0) rfl) (pv 3)) pa_nil))))), ?_⟩
    refine ⟨_, rfl, y, t2, b2, rfl, hy.ext eg, fun p np => ?_⟩
    refine ⟨p, _, rfl, SqT.of upd_same, rfl, _, _, rfl, _, _, rfl, rfl, ?_⟩
    have x1 : Ext H (upd H p (.tup [.int t2, .int b2])) := Ext.upd np
    cases hx with
    | rat e =>
      rename_i a dx
      have e1 := x1 _ _ (eg _ _ e)
      obtain ⟨⟨u1, u2⟩, u3, u4⟩ := s1
      obtain ⟨⟨v1, v2⟩, v3, v4⟩ := s2
      refine ⟨_, rfl, a, T.CR, dx, _, _, rfl, e1, T.Ratio.cl, T.nf_own_top, ratF_top t1 b1, _, rfl, _, _, rfl, rfl, .inl ⟨by omega, by omega⟩, ?_⟩
      refine ⟨_, rfl, _, rfl, a, T.CR, dx, _, _, rfl, e1, T.Ratio.cl, T.nf_own_bottom, ratF_bot t1 b1, _, _, rfl, rfl, .inl ⟨by omega, by omega⟩, _, _, rfl, rfl, ?_⟩
      refine ⟨_, rfl, a, T.CR, dx, _, _, rfl, e1, T.Ratio.cl, T.nf_own_bottom, ratF_bot t1 b1, _, rfl, _, _, rfl, rfl, .inl ⟨by omega, by omega⟩, ?_⟩
      intro z dz nz ndz nez
      have m1 : 1 ≤ b1 * b2 := Int.le_trans (by decide) (Int.mul_le_mul u3 v3 (by decide) (by omega))
      have m2 : b1 * b2 ≤ 1000000 := Int.le_trans (Int.mul_le_mul u4 v4 (by omega) (by decide)) (by decide)
      refine ⟨z, dz, _, _, rfl, upd_same, m1, m2, rfl, ?_⟩
      have g0 : Grow G H G (upd H p (.tup [.int t2, .int b2])) := (Gr.refl eg).lay np
      obtain ⟨g1, i1⟩ := Gr.rat (CR := T.CR) (t := nT (t1 * b2 - t2 * b1) (b1 * b2)) (b := nB (t1 * b2 - t2 * b1) (b1 * b2)) g0 nz ndz nez
      exact q _ _ _ g1 i1

theorem ok_ratEq (T : Tx K mg) : FnOk P w K mg base CX0 1 T.Ratio_eq.f T.Ratio_eq.fd ["self", "other"] (spRatEq T.CR) := by
  refine T.Ratio_eq.F.ok sc_Ratio_eq (fun vs H Q E h => ?_) (fun cdv A outer s H vs Q E hr h => ?_)
  · obtain ⟨a, b, dx, dy, t1, b1, t2, b2, rfl, _⟩ := h
    rfl
  · obtain ⟨a, b, dx, dy, t1, b1, t2, b2, rfl, ea, eb, q⟩ := h
    refine ⟨_, pss_cons (ps_if (pt_not (pt_val (pe_callB call_isi (by rfl) T.z_isinstance PyProof.Rows.boot_isinstance (pa_cons (pv 1) (pa_cons (pe_glob (v := .ref T.CR) (by rfl) T.Ratio.g rfl) pa_nil))))) pss_never pss_nil)
      (pss_one (ps_ret (pe_and (pe_cmpR op_eq (pe_fld (pv 0) rfl) (pe_fld (pv 1) rfl) (nomark _)) (pe_one (pe_cmpR op_eq (pe_fld (pv 0) rfl) (pe_fld (pv 1) rfl) (nomark _)))))), ?_⟩
    refine ⟨_, rfl, _, _, _, _, _, rfl, .own _, tyx T (.rat eb), T.kit_rR, true, rfl, iteF ?_⟩
    refine ⟨_, rfl, a, T.CR, dx, _, _, rfl, ea, T.Ratio.cl, T.nf_own_top, ratF_top t1 b1, _, rfl, b, T.CR, dy, _, _, rfl, eb, T.Ratio.cl, T.nf_own_top, ratF_top t2 b2, rfl, _, rfl, ?_⟩
    have q0 := q H Ext.rfl'
    refine ite2 (fun e => ?_) (fun e => ?_)
    · refine ⟨_, rfl, a, T.CR, dx, _, _, rfl, ea, T.Ratio.cl, T.nf_own_bottom, ratF_bot t1 b1, _, rfl, b, T.CR, dy, _, _, rfl, eb, T.Ratio.cl, T.nf_own_bottom, ratF_bot t2 b2, rfl, ?_⟩
      have e1 : t1 = t2 := V.int.inj (of_decide_eq_true e)
      have e2 : (t1 == t2 && b1 == b2) = decide (V.int b1 = V.int b2) := by
        rw [e1]
        by_cases hb : b1 = b2 <;> simp [hb]
      rw [e2] at q0
      exact q0
    · have e1 : ¬ t1 = t2 := fun z => e (decide_eq_true (by rw [z]))
      have e2 : (t1 == t2 && b1 == b2) = false := by simp [e1]
      rw [e2] at q0
      exact q0

theorem ok_ratRepr (T : Tx K mg) : FnOk P w K mg base CX0 2 T.Ratio_repr.f T.Ratio_repr.fd ["self"] (spRatRepr T.CR) := by
  have G := ok_digits_of (P := P) (w := w) (base := base) T
  refine T.Ratio_repr.F.ok sc_Ratio_repr (fun vs H Q E h => ?_) (fun cdv A outer s H vs Q E hr h => ?_)
  · obtain ⟨a, dx, t, b, rfl, _⟩ := h
    rfl
  · obtain ⟨a, dx, t, b, rfl, ea, ⟨⟨h1, h2⟩, h3, h4⟩, q⟩ := h
    refine ⟨_, pss_one (ps_ret (pe_joined (.cons pe_str (.cons (pe_fmt (pe_call G hr (by rfl) T.digits_of.g T.digits_of.F.kp T.digits_of.b .nil pass0 (pa_cons (pe_fld (pv 0) rfl) pa_nil)))
      (.cons pe_str (.cons (pe_fmt (pe_call G hr (by rfl) T.digits_of.g T.digits_of.F.kp T.digits_of.b .nil pass0 (pa_cons (pe_fld (pv 0) rfl) pa_nil))) (.cons pe_str .nil))))))), ?_⟩
    have d1 := dig_len h1 h2
    have d2 := dig_len (i := b) (by omega) h4
    have l0 : Str.empty.length = 0 := by decide
    have l1 : (("Ratio(" : Str)).length = 6 := by decide
    have l2 : ((", " : Str)).length = 2 := by decide
    have l3 : ((")" : Str)).length = 1 := by decide
    have lz : (10000 : Nat) ≤ sizeLine := by decide
    refine ⟨_, rfl, by rw [strLen_append]; omega, _, rfl, a, T.CR, dx, _, _, rfl, ea, T.Ratio.cl, T.nf_own_top, ratF_top t b, t, rfl, ⟨h1, h2⟩, .inl ⟨_, rfl, by omega, _, rfl, by rw [strLen_append, strLen_append]; omega, ?_⟩⟩
    refine ⟨_, rfl, by rw [strLen_append, strLen_append, strLen_append]; omega, _, rfl, a, T.CR, dx, _, _, rfl, ea, T.Ratio.cl, T.nf_own_bottom, ratF_bot t b, b, rfl, ⟨by omega, h4⟩, .inl ⟨_, rfl, by omega, _, rfl, by rw [strLen_append, strLen_append, strLen_append, strLen_append]; omega, ?_⟩⟩
    refine ⟨_, rfl, by rw [strLen_append, strLen_append, strLen_append, strLen_append, strLen_append]; omega, ?_⟩
    exact q H Ext.rfl'

theorem ok_ratio_of (T : Tx K mg) : FnOk P w K mg base CX0 4 T.ratio_of.f T.ratio_of.fd ["number"] (spRatioOf T.CR) := by
  have G2 := ok_ratInit (P := P) (w := w) (base := base) T
  obtain ⟨ds, rd, bd⟩ := bR2 T
  refine T.ratio_of.F.ok sc_ratio_of (fun vs H Q E h => ?_) (fun cdv A outer s H vs Q E hr h => ?_)
  · obtain ⟨G, x, d, rfl, _⟩ := h
    rfl
  · obtain ⟨G, x, d, rfl, eg, hx, hn, q⟩ := h
    refine ⟨_, pss_one (ps_ret (pe_ifExp (pt_val (pe_callB call_isi (by rfl) T.z_isinstance PyProof.Rows.boot_isinstance (pa_cons (pv 0) (pa_cons (pe_glob (v := .ref T.CR) (by rfl) T.Ratio.g rfl) pa_nil))))
      (pv 0) (pe_make (mkR T) G2 hr (by rfl) T.Ratio.g bd rd pass0 (pa_cons (pv 0) pa_nil)))), ?_⟩
    refine ⟨_, rfl, _, _, _, _, _, rfl, .own _, tyx T (hx.ext eg), kit_rat T hn, _, rfl, ?_⟩
    cases d with
    | int i =>
      cases hx with
      | int i =>
        refine iteF ⟨_, rfl, fun z dz nz ndz nez => ?_⟩
        refine ⟨z, dz, i, 1, rfl, upd_same, by decide, by decide, rfl, ?_⟩
        rw [nT_one, nB_one]
        obtain ⟨g1, i1⟩ := Gr.rat (CR := T.CR) (t := i) (b := 1) (Gr.refl (M := noM) eg) nz ndz nez
        exact q _ _ _ g1 i1
    | rat t b => exact iteT ⟨_, rfl, q _ _ _ (Gr.refl eg) hx⟩
    | _ => exact hn.elim
end
end K84

/-! Comprehensions over data. -/
namespace K84
open PySem PySem.Spec PyProof.Rows L2

section
variable {K : PySem.W.Frag} {CR a D : Addr} {xs : List V} {es : List Dt} {g : TG} {te : TE} {vs : List Nat} {σ : L2.St} {G1 H1 : Hp} {Qd : Hp → Prop} {M : Addr → Prop}

/-- what stands in the middle of a comprehension that gives data es: the first i of them are made -/
def Mid (CR : Addr) (M : Addr → Prop) (G1 H1 : Hp) (D : Addr) (es : List Dt) (i : Nat) (H2 : Hp) : Prop :=
  ∃ G2 acc, Gr M G1 H1 G2 H2 ∧ G2 D = none ∧ H2 D = some (.lst acc) ∧ Iss CR G2 (es.take i) acc ∧ acc.length = i
theorem mid_start (e : Ext G1 H1) (nD : H1 D = none) : Mid CR M G1 H1 D es 0 (upd H1 D (.lst [])) :=
  ⟨G1, [], (Gr.refl e).lay nD, e.none_of nD, upd_same, .nil, rfl⟩
theorem mid_next {i : Nat} {e : Dt} {y : V} {G2 H2 G4 H4 : Hp} {acc : List V} (nM : ¬ M D) (nD : H1 D = none) (he : es[i]? = some e) (gr : Gr M G1 H1 G2 H2) (g2 : G2 D = none) (h2 : H2 D = some (.lst acc)) (iss : Iss CR G2 (es.take i) acc)
    (hl : acc.length = i) (hz : es.length ≤ 100000) (g4 : Gr M G2 H2 G4 H4) (hy : Is CR G4 e y) :
    ∃ acc', H4 D = some (.lst acc') ∧ acc'.length < sizeLine ∧ Mid CR M G1 H1 D es (i + 1) (upd H4 D (.lst (acc' ++ [y]))) := by
  have d4 : H4 D = some (.lst acc) := g4.hh D _ nM h2
  have n4 : G4 D = none := g4.off (by rw [h2]; simp) g2
  have hi := (List.getElem?_eq_some_iff.mp he).1
  refine ⟨acc, d4, ?_, G4, acc ++ [y], (gr.trans g4).mut (.inl nD) n4, n4, upd_same, ?_, by rw [List.length_append, hl]; rfl⟩
  · have : (100000 : Nat) < sizeLine := by decide
    omega
  · rw [List.take_add_one, he]
    exact (iss.ext g4.gg).append (.cons hy .nil)
theorem mid_end {H2 : Hp} (nD : H1 D = none) (m : Mid CR M G1 H1 D es es.length H2) : ∃ G2, Gr M G1 H1 G2 H2 ∧ Is CR G2 (.lst es) (.ref D) := by
  obtain ⟨G2, acc, gr, n2, h2, iss, hl⟩ := m
  rw [List.take_length] at iss
  exact ⟨upd G2 D (.lst acc), gr.freeze nD h2 n2, .lst upd_same (iss.ext (Ext.upd n2))⟩

/-- [e for x in xs], xs a list: each turn gives the next piece of data -/
theorem lc_dataL (hM : ∀ b, M b → H1 b ≠ none) (e1 : Ext G1 H1) (nD : H1 D = none) (src : ∀ H2, (∀ b o, ¬ M b → H1 b = some o → H2 b = some o) → SqL K H2 a xs) (hl : es.length = xs.length) (hz : es.length ≤ 100000)
    (step : ∀ (i : Nat) (x : V) (e : Dt) (G2 H2 : Hp) (Q : VK), xs[i]? = some x → es[i]? = some e → Gr M G1 H1 G2 H2 → (∀ y G4 H4, Gr M G2 H2 G4 H4 → Is CR G4 e y → Q y H4) →
      g x (wipe σ vs) H2 fun σ2 H3 => wipe σ2 vs = wipe σ vs ∧ te σ2 H3 Q)
    (fin : ∀ G2 H2, Gr M G1 H1 G2 H2 → Is CR G2 (.lst es) (.ref D) → Qd H2) :
    ∃ W : Nat → Nat → Hp → Prop, (∃ m, W 0 m (upd H1 D (.lst []))) ∧ ∀ i m H, W i m H →
    ((Itl K a).stop i H ∧ Qd H) ∨ ((Itl K a).go i H ∧ ∃ Nx : Hp → Prop, (∀ H', Nx H' → ∃ m', m' < m ∧ W (i + 1) m' H') ∧ ∀ x H', (Itl K a).yld i H x H' → g x (wipe σ vs) H' fun σ2 H2 => wipe σ2 vs = wipe σ vs ∧ tYes σ2 H2 fun b H3 =>
      if b = true then te σ2 H3 fun y H4 => ∃ acc, H4 D = some (.lst acc) ∧ acc.length < sizeLine ∧ Nx (upd H4 D (.lst (acc ++ [y]))) else Nx H3) := by
  have nM : ¬ M D := fun m => hM D m nD
  refine lc_list (K := K) (a := a) (xs := xs) (Mid CR M G1 H1 D es) (mid_start e1 nD) (fun i H2 _ m => ?_) (fun i x H2 hx m => ?_) (fun H2 m => ?_)
  · obtain ⟨G2, acc, gr, _⟩ := m
    exact src H2 gr.hh
  · obtain ⟨G2, acc, gr, n2, h2, iss, hacc⟩ := m
    have hi : i < es.length := by
      have := (List.getElem?_eq_some_iff.mp hx).1
      omega
    exact step i x es[i] G2 H2 _ hx (List.getElem?_eq_getElem hi) gr fun y G4 H4 g4 hy => mid_next nM nD (List.getElem?_eq_getElem hi) gr n2 h2 iss hacc hz g4 hy
  · rw [← hl] at m
    obtain ⟨G2, gr, hI⟩ := mid_end nD m
    exact fin G2 H2 gr hI
/-- .. xs a tuple -/
theorem lc_dataT (hM : ∀ b, M b → H1 b ≠ none) (e1 : Ext G1 H1) (nD : H1 D = none) (src : ∀ H2, (∀ b o, ¬ M b → H1 b = some o → H2 b = some o) → SqT K H2 a xs) (hl : es.length = xs.length) (hz : es.length ≤ 100000)
    (step : ∀ (i : Nat) (x : V) (e : Dt) (G2 H2 : Hp) (Q : VK), xs[i]? = some x → es[i]? = some e → Gr M G1 H1 G2 H2 → (∀ y G4 H4, Gr M G2 H2 G4 H4 → Is CR G4 e y → Q y H4) →
      g x (wipe σ vs) H2 fun σ2 H3 => wipe σ2 vs = wipe σ vs ∧ te σ2 H3 Q)
    (fin : ∀ G2 H2, Gr M G1 H1 G2 H2 → Is CR G2 (.lst es) (.ref D) → Qd H2) :
    ∃ W : Nat → Nat → Hp → Prop, (∃ m, W 0 m (upd H1 D (.lst []))) ∧ ∀ i m H, W i m H →
    ((Itt K a).stop i H ∧ Qd H) ∨ ((Itt K a).go i H ∧ ∃ Nx : Hp → Prop, (∀ H', Nx H' → ∃ m', m' < m ∧ W (i + 1) m' H') ∧ ∀ x H', (Itt K a).yld i H x H' → g x (wipe σ vs) H' fun σ2 H2 => wipe σ2 vs = wipe σ vs ∧ tYes σ2 H2 fun b H3 =>
      if b = true then te σ2 H3 fun y H4 => ∃ acc, H4 D = some (.lst acc) ∧ acc.length < sizeLine ∧ Nx (upd H4 D (.lst (acc ++ [y]))) else Nx H3) := by
  have nM : ¬ M D := fun m => hM D m nD
  refine lc_tup (K := K) (a := a) (xs := xs) (Mid CR M G1 H1 D es) (mid_start e1 nD) (fun i H2 _ m => ?_) (fun i x H2 hx m => ?_) (fun H2 m => ?_)
  · obtain ⟨G2, acc, gr, _⟩ := m
    exact src H2 gr.hh
  · obtain ⟨G2, acc, gr, n2, h2, iss, hacc⟩ := m
    have hi : i < es.length := by
      have := (List.getElem?_eq_some_iff.mp hx).1
      omega
    exact step i x es[i] G2 H2 _ hx (List.getElem?_eq_getElem hi) gr fun y G4 H4 g4 hy => mid_next nM nD (List.getElem?_eq_getElem hi) gr n2 h2 iss hacc hz g4 hy
  · rw [← hl] at m
    obtain ⟨G2, gr, hI⟩ := mid_end nD m
    exact fin G2 H2 gr hI
/-- .. over a range -/
theorem lc_dataR {lo : Int} (hM : ∀ b, M b → H1 b ≠ none) (e1 : Ext G1 H1) (nD : H1 D = none) (hz : es.length ≤ 100000)
    (step : ∀ (i : Nat) (e : Dt) (G2 H2 : Hp) (Q : VK), es[i]? = some e → Gr M G1 H1 G2 H2 → (∀ y G4 H4, Gr M G2 H2 G4 H4 → Is CR G4 e y → Q y H4) →
      g (.int (lo + (i : Nat))) (wipe σ vs) H2 fun σ2 H3 => wipe σ2 vs = wipe σ vs ∧ te σ2 H3 Q)
    (fin : ∀ G2 H2, Gr M G1 H1 G2 H2 → Is CR G2 (.lst es) (.ref D) → Qd H2) :
    ∃ W : Nat → Nat → Hp → Prop, (∃ m, W 0 m (upd H1 D (.lst []))) ∧ ∀ i m H, W i m H →
    ((Itr lo es.length).stop i H ∧ Qd H) ∨ ((Itr lo es.length).go i H ∧ ∃ Nx : Hp → Prop, (∀ H', Nx H' → ∃ m', m' < m ∧ W (i + 1) m' H') ∧ ∀ x H', (Itr lo es.length).yld i H x H' → g x (wipe σ vs) H' fun σ2 H2 => wipe σ2 vs = wipe σ vs ∧ tYes σ2 H2 fun b H3 =>
      if b = true then te σ2 H3 fun y H4 => ∃ acc, H4 D = some (.lst acc) ∧ acc.length < sizeLine ∧ Nx (upd H4 D (.lst (acc ++ [y]))) else Nx H3) := by
  have nM : ¬ M D := fun m => hM D m nD
  refine lc_range (lo := lo) (n := es.length) (Mid CR M G1 H1 D es) (mid_start e1 nD) (fun i H2 hi m => ?_) (fun H2 m => ?_)
  · obtain ⟨G2, acc, gr, n2, h2, iss, hacc⟩ := m
    exact step i es[i] G2 H2 _ (List.getElem?_eq_getElem hi) gr fun y G4 H4 g4 hy => mid_next nM nD (List.getElem?_eq_getElem hi) gr n2 h2 iss hacc hz g4 hy
  · obtain ⟨G2, gr, hI⟩ := mid_end nD m
    exact fin G2 H2 gr hI

/-! the rules within a comprehension's block, the written part named -/
theorem pe_fldK {X : Cx} {e : Expr} {f : Str} {pos : Pos} {ta : TE} (hK : X.K = K) (he : PE X e ta) (hb : attributeBase e f X.env (eval e X.env) = eval e X.env) : PE X (.Attribute e f pos) (tFld K ta f) := by
  subst hK
  exact pe_fld he hb
theorem ix_tupK {X : Cx} (hK : X.K = K) : IxR X (rIxT K) := by
  subst hK
  exact ix_tup
theorem ix_listK {X : Cx} (hK : X.K = K) : IxR X (rIxL K) := by
  subst hK
  exact ix_list
theorem call_list_ofK {X : Cx} (hK : X.K = K) : CallR X (.type "list") (fun xs H Q => ∃ p ys, xs = [.ref p] ∧ (SqL K H p ys ∨ SqT K H p ys) ∧ ∀ l, H l = none → Q (.ref l) (upd H l (.lst ys))) := by
  subst hK
  exact call_list_of
theorem call_tuple_ofK {X : Cx} (hK : X.K = K) : CallR X (.type "tuple") (fun xs H Q => ∃ p ys, xs = [.ref p] ∧ ((SqL K H p ys ∧ ∀ l, H l = none → Q (.ref l) (upd H l (.tup ys))) ∨ (SqT K H p ys ∧ Q (.ref p) H))) := by
  subst hK
  exact call_tuple_of
theorem call_len_seqK {X : Cx} (hK : X.K = K) : CallR X (.builtin "len") (fun xs H Q => ∃ p ys, xs = [.ref p] ∧ (SqL K H p ys ∨ SqT K H p ys) ∧ Q (.int ys.length) H) := by
  subst hK
  exact call_len_seq

/-- what is walked: a list or a tuple -/
theorem PI.or {X : Cx} {tg iter : Expr} {w1 w2 : TI} (h1 : PI X tg iter w1) (h2 : PI X tg iter w2) : PI X tg iter (fun σ H Q => w1 σ H Q ∨ w2 σ H Q) :=
  ⟨fun pins s σ H Q I h => h.elim (fun h => h1.run pins s σ H Q I h) fun h => h2.run pins s σ H Q I h⟩

theorem iss_bl {H : Hp} : ∀ {n : Nat} {ys : List V}, Iss CR H (List.replicate n (.bl true)) ys → ys = (List.replicate n true).map V.bl
  | 0, ys, h => by cases h; rfl
  | n + 1, ys, h => by
    rw [List.replicate_succ] at h
    cases h with
    | cons h r =>
      cases h
      rw [iss_bl r]
      rfl
theorem all_true (n : Nat) : (List.replicate n true).all id = true := by simp
end

/-- a source that M may not change stays -/
theorem srcL {K : PySem.W.Frag} {H1 : Hp} {a : Addr} {xs : List V} {M : Addr → Prop} (e : H1 a = some (.lst xs)) (n : ¬ M a) : ∀ H2, (∀ b o, ¬ M b → H1 b = some o → H2 b = some o) → SqL K H2 a xs :=
  fun H2 h => SqL.of (h a _ n e)
theorem srcT {K : PySem.W.Frag} {H1 : Hp} {a : Addr} {xs : List V} {M : Addr → Prop} (e : H1 a = some (.tup xs)) (n : ¬ M a) : ∀ H2, (∀ b o, ¬ M b → H1 b = some o → H2 b = some o) → SqT K H2 a xs :=
  fun H2 h => SqT.of (h a _ n e)
theorem noM_none {H1 : Hp} : ∀ b, noM b → H1 b ≠ none := fun b h => False.elim h

/-! ### promises -/
def AllNum (ds : List Dt) : Prop := ∀ d ∈ ds, Num d
def spAreNumbers (CR : Addr) : Sp := fun vs H Q _ => ∃ (ds : List Dt) (x : V), vs = [x, .int ds.length] ∧ Is CR H (.lst ds) x ∧ AllNum ds ∧ ds.length ≤ 1000 ∧ ∀ H', Ext H H' → Q (.bl true) H'
def spRatiosOf (CR : Addr) : Sp := fun vs H Q _ => ∃ (G : Hp) (ds : List Dt) (x : V), vs = [x] ∧ Ext G H ∧ Is CR G (.lst ds) x ∧ AllNum ds ∧ ds.length ≤ 1000 ∧ ∀ G' H' v, Grow G H G' H' → Is CR G' (.lst (ds.map rOf)) v → Q v H'

section
variable {P : Program} {w : World} {K : PySem.W.Frag} {mg : Str → Option Value} {base : Heap}
theorem ok_are_numbers (T : Tx K mg) : FnOk P w K mg base CX0 3 T.are_numbers.f T.are_numbers.fd ["value", "wide"] (spAreNumbers T.CR) := by
  have G1 := ok_is_list (P := P) (w := w) (base := base) T
  have G2 := ok_is_number (P := P) (w := w) (base := base) T
  refine T.are_numbers.F.ok sc_are_numbers (fun vs H Q E h => ?_) (fun cdv A outer s H vs Q E hr h => ?_)
  · obtain ⟨ds, x, rfl, _⟩ := h
    rfl
  · obtain ⟨ds, x, rfl, hI, hn, hz, q⟩ := h
    have nd := sc_are_numbers.nd
    refine ⟨_, pss_one (ps_ret (pe_and (pe_call G1 (hr.mono (by decide)) (by rfl) T.is_list.g T.is_list.F.kp T.is_list.b .nil pass0 (pa_cons (pv 0) pa_nil))
      (pe_and (pe_cmpR op_eq (pe_callB call_len_seq (by rfl) T.z_len PySem.boot_len (pa_cons (pv 0) pa_nil)) (pv 1) (nomark _))
      (pe_one (pe_callB (cr_all rfl) (by rfl) T.z_all PyProof.Rows.boot_all (pa_cons (pe_lc (own := [("number", 2)]) (g := gName 2) (tt := tYes) rfl nd (pi_list (pv 0))
        (blkOk_by (own := [("number", 2)]) (N := ["value", "wide", "number"]) (sc := defScope s_are_numbers) (by decide +kernel)) (fun _ _ _ _ _ => pg_name (i := 2) nd rfl (.inl rfl)) (fun _ _ _ _ _ => pts_nil)
        (fun _ _ _ _ _ => pe_call G2 hr (by rfl) T.is_number.g T.is_number.F.kp T.is_number.b .nil pass0 (pa_cons (pv 2) pa_nil))) pa_nil)))))), ?_⟩
    refine ⟨_, rfl, .lst ds, x, rfl, hI, .inl ⟨_, rfl⟩, fun H1 x1 => ⟨true, rfl, iteT ?_⟩⟩
    cases hI with
    | lst e r =>
      rename_i a xs
      have hl := r.length
      refine ⟨_, rfl, a, xs, rfl, .inl (SqL.of (x1 _ _ e)), _, rfl, rfl, _, rfl, ?_⟩
      rw [decide_eq_true (by rw [hl])]
      refine iteT ?_
      refine ⟨_, rfl, a, rfl, ⟨_, SqL.of (x1 _ _ e)⟩, fun D nD => ?_⟩
      refine lc_dataL (CR := T.CR) (M := noM) (G1 := H1) (xs := xs) (es := List.replicate ds.length (.bl true)) noM_none Ext.rfl' nD (srcL (x1 _ _ e) (fun z => z)) (by simp [hl]) (by simp; omega) (fun i x e' G2 H2 Q2 hx he gr k => ?_) (fun G2 H2 gr hD => ?_)
      · obtain ⟨d, hd, isd⟩ := r.get hx
        have ee : e' = .bl true := by
          have z := List.getElem?_eq_some_iff.mp he
          obtain ⟨_, z⟩ := z
          simpa using z.symm
        subst ee
        refine ⟨rfl, _, rfl, d, x, rfl, (isd.ext x1).ext gr.toExt, hn d (List.mem_of_getElem? hd), k _ _ _ (Gr.refl gr.gh) (.bl true)⟩
      · have hq := q H2 (x1.trans gr.toExt)
        cases hD with
        | lst e2 r2 =>
          rename_i ys
          have ey := iss_bl r2
          subst ey
          refine ⟨D, _, rfl, SqL.of (gr.gh _ _ e2), ?_⟩
          rw [all_true]
          exact hq

theorem ok_ratios_of (T : Tx K mg) : FnOk P w K mg base CX0 5 T.ratios_of.f T.ratios_of.fd ["row"] (spRatiosOf T.CR) := by
  have G1 := ok_ratio_of (P := P) (w := w) (base := base) T
  refine T.ratios_of.F.ok sc_ratios_of (fun vs H Q E h => ?_) (fun cdv A outer s H vs Q E hr h => ?_)
  · obtain ⟨G, ds, x, rfl, _⟩ := h
    rfl
  · obtain ⟨G, ds, x, rfl, eg, hI, hn, hz, q⟩ := h
    have nd := sc_ratios_of.nd
    refine ⟨_, pss_one (ps_ret (pe_lc (own := [("number", 1)]) (g := gName 1) (tt := tYes) rfl nd (pi_list (pv 0))
        (blkOk_by (own := [("number", 1)]) (N := ["row", "number"]) (sc := defScope s_ratios_of) (by decide +kernel)) (fun _ _ _ _ _ => pg_name (i := 1) nd rfl (.inl rfl)) (fun _ _ _ _ _ => pts_nil)
        (fun _ _ _ _ _ => pe_call G1 hr (by rfl) T.ratio_of.g T.ratio_of.F.kp T.ratio_of.b .nil pass0 (pa_cons (pv 1) pa_nil)))), ?_⟩
    cases hI with
    | lst e r =>
      rename_i a xs
      have hl := r.length
      refine ⟨_, rfl, a, rfl, ⟨_, SqL.of (eg _ _ e)⟩, fun D nD => ?_⟩
      refine lc_dataL (CR := T.CR) (M := noM) (G1 := G) (xs := xs) (es := ds.map rOf) noM_none eg nD (srcL (eg _ _ e) (fun z => z)) (by simp [hl]) (by simp; omega) (fun i x e' G2 H2 Q2 hx he gr k => ?_) (fun G2 H2 gr hD => q _ _ _ gr hD)
      obtain ⟨d, hd, isd⟩ := r.get hx
      have ee : e' = rOf d := by
        rw [List.getElem?_map, hd] at he
        exact (Option.some.inj he).symm
      subst ee
      exact ⟨rfl, _, rfl, G2, x, d, rfl, gr.gh, isd.ext gr.gg, hn d (List.mem_of_getElem? hd), fun G' H' v g' hv => k _ _ _ g' hv⟩
end
end K84

/-! Rows of whole numbers, pairs of rows. -/
namespace K84
open PySem PySem.Spec PyProof.Rows L2

/-! ### the least common bottom -/
def lcmI (x b : Int) : Int := (((Nat.lcm 1 x.natAbs).lcm b.natAbs : Nat) : Int)
def stepL (x : Int) : Dt → Int
  | .rat _ b => lcmI x b
  | _ => x
def bigL (ds : List Dt) : Int := ds.foldl stepL 1
/-- a bottom of halves -/
def Bot (x : Int) : Prop := x = 1 ∨ x = 2
/-- a small fraction of halves -/
def Hf : Dt → Prop
  | .rat t b => (-1000 ≤ t ∧ t ≤ 1000) ∧ Bot b
  | _ => False
def AllHf (ds : List Dt) : Prop := ∀ d ∈ ds, Hf d
def wholeI (L : Int) : Dt → Dt
  | .rat t b => .int (t * (L / b))
  | _ => .non
def rowI : Dt → Dt
  | .lst ds => .lst (ds.map (wholeI (bigL ds)))
  | d => d
theorem bot_lcm {x b : Int} (h : Bot x) (g : Bot b) : Bot (lcmI x b) := by
  rcases h with rfl | rfl <;> rcases g with rfl | rfl <;> first | exact .inl (by decide) | exact .inr (by decide)
theorem bot_step {x : Int} {d : Dt} (h : Bot x) (g : Hf d) : Bot (stepL x d) := by
  cases d with
  | rat t b => exact bot_lcm h g.2
  | _ => exact g.elim
theorem bot_fold : ∀ (ds : List Dt) (x : Int), Bot x → AllHf ds → Bot (ds.foldl stepL x)
  | [], _, h, _ => h
  | d :: ds, x, h, g => bot_fold ds _ (bot_step h (g d (List.mem_cons_self ..))) fun e he => g e (List.mem_cons_of_mem _ he)
theorem hf_num {d : Dt} (h : Hf d) : Num d := by
  cases d with
  | rat t b => trivial
  | _ => exact h.elim
theorem hf_rOf {d : Dt} (h : Hf d) : rOf d = d := by
  cases d with
  | rat t b => rfl
  | _ => exact h.elim
theorem allHf_num {ds : List Dt} (h : AllHf ds) : AllNum ds := fun d hd => hf_num (h d hd)
theorem allHf_rOf : ∀ {ds : List Dt}, AllHf ds → ds.map rOf = ds
  | [], _ => rfl
  | d :: ds, h => by rw [List.map_cons, hf_rOf (h d (List.mem_cons_self ..)), allHf_rOf fun e he => h e (List.mem_cons_of_mem _ he)]
theorem bot_lim {x : Int} (h : Bot x) : 0 < x ∧ x < 1073741824 := by rcases h with rfl | rfl <;> decide

def spWholes (CR : Addr) : Sp := fun vs H Q _ => ∃ (G : Hp) (ds : List Dt) (x : V), vs = [x] ∧ Ext G H ∧ Is CR G (.lst ds) x ∧ AllHf ds ∧ ds.length ≤ 1000 ∧
  ∀ G' H' v, Grow G H G' H' → Is CR G' (.tup [.int (bigL ds), .lst (ds.map (wholeI (bigL ds)))]) v → Q v H'
/-- a list of rows of halves -/
def RowD (d : Dt) : Prop := ∃ ds, d = .lst ds ∧ AllHf ds ∧ ds.length ≤ 1000
def spIntsOf (CR : Addr) : Sp := fun vs H Q _ => ∃ (G : Hp) (rs : List Dt) (x : V), vs = [x] ∧ Ext G H ∧ Is CR G (.lst rs) x ∧ (∀ r ∈ rs, RowD r) ∧ rs.length ≤ 1000 ∧
  ∀ G' H' v, Grow G H G' H' → Is CR G' (.lst (rs.map rowI)) v → Q v H'
/-- a pair of rows of halves of one size -/
def PairD (n : Nat) (d : Dt) : Prop := ∃ r1 r2, d = .tup [.lst r1, .lst r2] ∧ r1.length = n ∧ r2.length = n ∧ AllHf r1 ∧ AllHf r2
def spIsPair (CR : Addr) : Sp := fun vs H Q _ => ∃ (n : Nat) (d : Dt) (x : V), vs = [x, .int n] ∧ Is CR H d x ∧ PairD n d ∧ n ≤ 1000 ∧ ∀ H', Ext H H' → Q (.bl true) H'
def spRightPairs (CR : Addr) : Sp := fun vs H Q _ => ∃ (G : Hp) (n : Nat) (ps : List Dt) (x : V), vs = [.int n, x] ∧ Ext G H ∧ Is CR G (.lst ps) x ∧ (∀ p ∈ ps, PairD n p) ∧ n ≤ 8 ∧ ps.length ≤ 8 ∧
  ∀ G' H' v, Grow G H G' H' → Is CR G' (.lst ps) v → Q v H'

section
variable {P : Program} {w : World} {K : PySem.W.Frag} {mg : Str → Option Value} {base : Heap}

theorem ok_wholes (T : Tx K mg) : FnOk P w K mg base CX0 1 T.wholes.f T.wholes.fd ["ratios"] (spWholes T.CR) := by
  refine T.wholes.F.ok sc_wholes (fun vs H Q E h => ?_) (fun cdv A outer s H vs Q E hr h => ?_)
  · obtain ⟨G, ds, x, rfl, _⟩ := h
    rfl
  · obtain ⟨G, ds, x, rfl, eg, hI, hf, hz, q⟩ := h
    have nd := sc_wholes.nd
    refine ⟨_, pss_cons (ps_set (i := 1) nd rfl (.inr rfl) pe_int)
      (pss_cons (ps_for PassesOwn.never rfl (pi_list (pv 0)) (pg_name (i := 2) nd rfl (.inl rfl)) (pss_one (ps_set (i := 1) nd rfl (.inr rfl) (pe_callBfun cr_lcm (by rfl) T.m_lcm (pa_cons (pv 1) (pa_cons (pe_fld (pv 2) rfl) pa_nil))))))
      (pss_one (ps_ret (pe_tup (pa_cons (pv 1) (pa_cons (pe_lc (own := [("ratio", 2)]) (g := gName 2) (tt := tYes) rfl nd (pi_list (pv 0))
        (blkOk_by (own := [("ratio", 2)]) (N := ["ratios", "bottom", "ratio"]) (sc := defScope s_wholes) (by decide +kernel)) (fun _ _ _ _ _ => pg_name (i := 2) nd rfl (.inl rfl)) (fun _ _ _ _ _ => pts_nil)
        (fun _ _ _ _ _ => pe_op op_mul (pe_fldK (K := K) rfl (pv 2) rfl) (pe_op op_fdiv (pv 1) (pe_fldK (K := K) rfl (pv 2) rfl)))) pa_nil)))))), ?_⟩
    cases hI with
    | lst e r =>
      rename_i a xs
      have hl := r.length
      refine ⟨_, rfl, a, rfl, ⟨_, SqL.of (eg _ _ e)⟩, ?_⟩
      refine for_list (K := K) (a := a) (xs := xs) (fun i σ H' => ∃ y, σ = [some (V.ref a), some (.int ((ds.take i).foldl stepL 1)), y] ∧ H' = H) ⟨_, rfl, rfl⟩ (fun i σ H' _ hw => by
        obtain ⟨y, rfl, rfl⟩ := hw
        exact SqL.of (eg _ _ e)) (fun i x σ H' hx hw => ?_) (fun σ H' hw => ?_)
      · obtain ⟨y, rfl, rfl⟩ := hw
        obtain ⟨d, hd, isd⟩ := r.get hx
        have hfd := hf d (List.mem_of_getElem? hd)
        have bt := bot_fold (ds.take i) 1 (.inl rfl) (fun e he => hf e (List.mem_of_mem_take he))
        cases isd with
        | rat e2 =>
          rename_i b dx t bb
          have b2 := hfd.2
          have l1 := bot_lim bt
          have l2 := bot_lim b2
          have l3 := bot_lim (bot_lcm bt b2)
          refine ⟨_, rfl, _, rfl, b, T.CR, dx, _, _, rfl, eg _ _ e2, T.Ratio.cl, T.nf_own_bottom, ratF_bot t bb, _, _, lcmI ((ds.take i).foldl stepL 1) bb, rfl, by omega, by omega, rfl, ?_, ?_⟩
          · have : (lcmI ((ds.take i).foldl stepL 1) bb).natAbs < 10000000 := by
              rcases bot_lcm bt b2 with z | z <;> rw [z] <;> decide
            have k := sm_log this
            have k2 : (1920 : Nat) ≤ bitsLine := by decide
            omega
          · refine ⟨some (V.ref b), ?_, rfl⟩
            have ef : (ds.take (i + 1)).foldl stepL 1 = lcmI ((ds.take i).foldl stepL 1) bb := by
              rw [List.take_add_one, hd, List.foldl_append]
              rfl
            rw [ef]
            rfl
        | _ => exact hfd.elim
      · obtain ⟨y, rfl, rfl⟩ := hw
        rw [← hl, List.take_length]
        have bt := bot_fold ds 1 (.inl rfl) hf
        refine ⟨_, rfl, _, rfl, a, rfl, ⟨_, SqL.of (eg _ _ e)⟩, fun D nD => ?_⟩
        refine lc_dataL (CR := T.CR) (M := noM) (G1 := G) (xs := xs) (es := ds.map (wholeI (bigL ds))) noM_none eg nD (srcL (eg _ _ e) (fun z => z)) (by simp [hl]) (by simp; omega) (fun i x e' G2 H2 Q2 hx he gr k => ?_) (fun G2 H2 gr hD => ?_)
        · obtain ⟨d, hd, isd⟩ := r.get hx
          have hfd := hf d (List.mem_of_getElem? hd)
          have ee : e' = wholeI (bigL ds) d := by
            rw [List.getElem?_map, hd] at he
            exact (Option.some.inj he).symm
          subst ee
          cases isd with
          | rat e2 =>
            rename_i b dx t bb
            have e3 := gr.gh _ _ (gr.gg _ _ e2)
            obtain ⟨⟨t1, t2⟩, b2⟩ := hfd
            refine ⟨rfl, _, rfl, b, T.CR, dx, _, _, rfl, e3, T.Ratio.cl, T.nf_own_top, ratF_top t bb, _, rfl, _, rfl, b, T.CR, dx, _, _, rfl, e3, T.Ratio.cl, T.nf_own_bottom, ratF_bot t bb, _, _, rfl, rfl, bot_lim b2, _, _, rfl, rfl, .inl ⟨by omega, by omega⟩, ?_⟩
            exact k _ _ _ (Gr.refl gr.gh) (.int _)
          | _ => exact hfd.elim
        · refine ⟨(by show 2 ≤ sizeLine; decide), fun p np => ?_⟩
          exact q _ _ _ (gr.new np) (.tup upd_same (.cons (.int _) (.cons (hD.ext (Ext.upd (gr.gh.none_of np))) .nil)))

theorem ok_ints_of (T : Tx K mg) : FnOk P w K mg base CX0 6 T.ints_of.f T.ints_of.fd ["rows"] (spIntsOf T.CR) := by
  have F1 := ok_wholes (P := P) (w := w) (base := base) T
  have F2 := ok_ratios_of (P := P) (w := w) (base := base) T
  refine T.ints_of.F.ok sc_ints_of (fun vs H Q E h => ?_) (fun cdv A outer s H vs Q E hr h => ?_)
  · obtain ⟨G, ds, x, rfl, _⟩ := h
    rfl
  · obtain ⟨G, rs, x, rfl, eg, hI, hf, hz, q⟩ := h
    have nd := sc_ints_of.nd
    refine ⟨_, pss_one (ps_ret (pe_lc (own := [("row", 1)]) (g := gName 1) (tt := tYes) rfl nd (pi_list (pv 0))
        (blkOk_by (own := [("row", 1)]) (N := ["rows", "row"]) (sc := defScope s_ints_of) (by decide +kernel)) (fun _ _ _ _ _ => pg_name (i := 1) nd rfl (.inl rfl)) (fun _ _ _ _ _ => pts_nil)
        (fun _ _ _ _ _ => pe_ix (ix_tupK (K := K) rfl) (pe_call F1 (hr.mono (by decide)) (by rfl) T.wholes.g T.wholes.F.kp T.wholes.b .nil pass0 (pa_cons (pe_call F2 hr (by rfl) T.ratios_of.g T.ratios_of.F.kp T.ratios_of.b .nil pass0 (pa_cons (pv 1) pa_nil)) pa_nil)) pe_int (fun _ _ => rfl)))), ?_⟩
    cases hI with
    | lst e r =>
      rename_i a xs
      have hl := r.length
      refine ⟨_, rfl, a, rfl, ⟨_, SqL.of (eg _ _ e)⟩, fun D nD => ?_⟩
      refine lc_dataL (CR := T.CR) (M := noM) (G1 := G) (xs := xs) (es := rs.map rowI) noM_none eg nD (srcL (eg _ _ e) (fun z => z)) (by simp [hl]) (by simp; omega) (fun i x e' G2 H2 Q2 hx he gr k => ?_) (fun G2 H2 gr hD => q _ _ _ gr hD)
      obtain ⟨d, hd, isd⟩ := r.get hx
      obtain ⟨ds, rfl, hds, hn⟩ := hf d (List.mem_of_getElem? hd)
      have ee : e' = rowI (.lst ds) := by
        rw [List.getElem?_map, hd] at he
        exact (Option.some.inj he).symm
      subst ee
      refine ⟨rfl, _, rfl, G2, ds, x, rfl, gr.gh, isd.ext gr.gg, allHf_num hds, hn, fun G3 H3 v g3 hv => ?_⟩
      rw [allHf_rOf hds] at hv
      refine ⟨G3, ds, v, rfl, g3.gh, hv, hds, hn, fun G4 H4 u g4 hu => ?_⟩
      cases hu with
      | tup e4 r4 =>
        rename_i p ys
        cases r4 with
        | cons i1 r5 =>
          cases r5 with
          | cons i2 r6 =>
            cases r6
            exact ⟨p, _, 1, _, rfl, rfl, SqT.of (g4.gh _ _ e4), atI_nat (j := 1) rfl, k _ _ _ (g3.trans g4) i2⟩
end
end K84

/-! Pairs of rows. -/
namespace K84
open PySem PySem.Spec PyProof.Rows L2

theorem is_lst {CR : Addr} {H : Hp} {ds : List Dt} {x : V} (h : Is CR H (.lst ds) x) : ∃ a xs, x = .ref a ∧ H a = some (.lst xs) ∧ Iss CR H ds xs := by
  cases h with
  | lst e r => exact ⟨_, _, rfl, e, r⟩
theorem is_tup {CR : Addr} {H : Hp} {ds : List Dt} {x : V} (h : Is CR H (.tup ds) x) : ∃ a xs, x = .ref a ∧ H a = some (.tup xs) ∧ Iss CR H ds xs := by
  cases h with
  | tup e r => exact ⟨_, _, rfl, e, r⟩
theorem is_tup2 {CR : Addr} {H : Hp} {d e : Dt} {x : V} (h : Is CR H (.tup [d, e]) x) : ∃ a u v, x = .ref a ∧ H a = some (.tup [u, v]) ∧ Is CR H d u ∧ Is CR H e v := by
  obtain ⟨a, xs, rfl, e0, r⟩ := is_tup h
  cases r with
  | cons h1 r =>
    cases r with
    | cons h2 r =>
      cases r
      exact ⟨a, _, _, rfl, e0, h1, h2⟩
theorem is_rat {CR : Addr} {H : Hp} {t b : Int} {x : V} (h : Is CR H (.rat t b) x) : ∃ a dx, x = .ref a ∧ H a = some (.ins CR dx (ratF t b)) := by
  cases h with
  | rat e => exact ⟨_, _, rfl, e⟩
/-- all of a comprehension's answers are True -/
theorem is_trues {CR D : Addr} {H : Hp} {n : Nat} (h : Is CR H (.lst (List.replicate n (.bl true))) (.ref D)) : H D = some (.lst ((List.replicate n true).map V.bl)) := by
  cases h with
  | lst e r => rw [iss_bl r] at e; exact e
theorem repl_get {n i : Nat} {e : Dt} (h : (List.replicate n (Dt.bl true))[i]? = some e) : e = .bl true := by
  obtain ⟨_, z⟩ := List.getElem?_eq_some_iff.mp h
  simpa using z.symm

/-- the fields of Pairs -/
def prF (r n z : V) : List (Str × V) := [("own_rows", r), ("own_size", n), ("own_ints", z)]
theorem rs_ne : ¬ (("own_rows" : Str) = "own_size") := by decide +kernel
theorem ri_ne : ¬ (("own_rows" : Str) = "own_ints") := by decide +kernel
theorem si_ne : ¬ (("own_size" : Str) = "own_ints") := by decide +kernel
theorem prF_put1 (r n : V) : putF "own_size" n (putF "own_rows" r []) = [(("own_rows" : Str), r), (("own_size" : Str), n)] := by
  show (if ("own_rows" : Str) = "own_size" then [(("own_rows" : Str), n)] else (("own_rows" : Str), r) :: putF "own_size" n []) = _
  rw [if_neg rs_ne]
  rfl
theorem prF_put (r n z : V) : putF "own_ints" z (putF "own_size" n (putF "own_rows" r [])) = prF r n z := by
  rw [prF_put1]
  show (if ("own_rows" : Str) = "own_ints" then _ else (("own_rows" : Str), r) :: (if ("own_size" : Str) = "own_ints" then _ else (("own_size" : Str), n) :: putF "own_ints" z [])) = _
  rw [if_neg ri_ne, if_neg si_ne]
  rfl
theorem prF_rows (r n z : V) : (prF r n z).lookup ("own_rows" : Str) = some r := by
  rw [← prF_put, lookup_putF, if_neg ri_ne, lookup_putF, if_neg rs_ne, lookup_putF, if_pos rfl]
theorem prF_size (r n z : V) : (prF r n z).lookup ("own_size" : Str) = some n := by
  rw [← prF_put, lookup_putF, if_neg si_ne, lookup_putF, if_pos rfl]
theorem pr1_rows (r n : V) : (putF "own_size" n (putF "own_rows" r [])).lookup ("own_rows" : Str) = some r := by
  rw [lookup_putF, if_neg rs_ne, lookup_putF, if_pos rfl]

/-- Pairs stand at x: size n, data ps -/
def PrAt (CR CP : Addr) (H : Hp) (n : Nat) (ps : List Dt) (x : V) : Prop := ∃ p dx r z, x = .ref p ∧ H p = some (.ins CP dx (prF r (.int n) z)) ∧ Is CR H (.lst ps) r
theorem PrAt.ext {CR CP : Addr} {H H' : Hp} {n : Nat} {ps : List Dt} {x : V} (h : PrAt CR CP H n ps x) (e : Ext H H') : PrAt CR CP H' n ps x := by
  obtain ⟨p, dx, r, z, rfl, h1, h2⟩ := h
  exact ⟨p, dx, r, z, rfl, e _ _ h1, h2.ext e⟩

/-- a body that changes one thing alone, one that was not there before -/
theorem Gr.drop {M : Addr → Prop} {G H G1 H1 G2 H2 : Hp} {x : Addr} (a : Gr M G H G1 H1) (n : H x = none) (b : Gr (fun y => y = x) G1 H1 G2 H2) : Gr M G H G2 H2 :=
  ⟨a.gg.trans b.gg, b.gh, fun c o m h => b.hh c o (fun z => by rw [z, n] at h; cases h) (a.hh c o m h), fun c h => a.al c (b.al c h), fun c h => by
    rcases b.fr c h with z | z
    · exact a.fr c z
    · exact .inr (a.al c z)⟩

def spPairsInit (CR CP : Addr) : Sp := fun vs H Q _ => ∃ (G : Hp) (p dx : Addr) (n : Nat) (ps : List Dt) (x : V), vs = [.ref p, .int n, x] ∧ Ext G H ∧ G p = none ∧ H p = some (.ins CP dx []) ∧ Is CR G (.lst ps) x ∧
  (∀ p ∈ ps, PairD n p) ∧ n ≤ 8 ∧ ps.length ≤ 8 ∧ ∀ G' H' r z, Gr (fun y => y = p) G H G' H' → G' p = none → Is CR G' (.lst ps) r → H' p = some (.ins CP dx (prF r (.int n) z)) → Q .non H'
def spPairsEq (CR CP : Addr) : Sp := fun vs H Q _ => ∃ (n : Nat) (ps : List Dt) (x y : V), vs = [x, y] ∧ PrAt CR CP H n ps x ∧ PrAt CR CP H n ps y ∧ (∀ p ∈ ps, PairD n p) ∧ ∀ H', Ext H H' → Q (.bl true) H'

theorem hf_cmp {d : Dt} (h : Hf d) : d.cmp d := by
  cases d with
  | rat t b => rw [Dt.cmp]; trivial
  | _ => exact h.elim
theorem hf_cmps : ∀ {ds : List Dt}, AllHf ds → Dt.cmps ds ds
  | [], _ => by rw [Dt.cmps]; trivial; intros; simp_all
  | d :: ds, h => by
    rw [Dt.cmps]
    exact ⟨hf_cmp (h d (List.mem_cons_self ..)), hf_cmps fun e he => h e (List.mem_cons_of_mem _ he)⟩
theorem hf_ht {d : Dt} (h : Hf d) : d.ht = 0 := by
  cases d with
  | rat t b => simp [Dt.ht]
  | _ => exact h.elim
theorem hf_hts : ∀ {ds : List Dt}, AllHf ds → Dt.hts ds = 0
  | [], _ => by simp [Dt.hts]
  | d :: ds, h => by
    rw [Dt.hts, hf_ht (h d (List.mem_cons_self ..)), hf_hts fun e he => h e (List.mem_cons_of_mem _ he)]
    rfl
theorem pair_cmp {n : Nat} {d : Dt} (h : PairD n d) : d.cmp d := by
  obtain ⟨r1, r2, rfl, _, _, h1, h2⟩ := h
  simp only [Dt.cmp, Dt.cmps]
  exact ⟨hf_cmps h1, hf_cmps h2, trivial⟩
theorem pair_cmps {n : Nat} : ∀ {ds : List Dt}, (∀ d ∈ ds, PairD n d) → Dt.cmps ds ds
  | [], _ => by simp [Dt.cmps]
  | d :: ds, h => by
    rw [Dt.cmps]
    exact ⟨pair_cmp (h d (List.mem_cons_self ..)), pair_cmps fun e he => h e (List.mem_cons_of_mem _ he)⟩
theorem pair_ht {n : Nat} {d : Dt} (h : PairD n d) : d.ht ≤ 2 := by
  obtain ⟨r1, r2, rfl, _, _, h1, h2⟩ := h
  simp only [Dt.ht, Dt.hts, hf_hts h1, hf_hts h2]
  omega
theorem pair_hts {n : Nat} : ∀ {ds : List Dt}, (∀ d ∈ ds, PairD n d) → Dt.hts ds ≤ 2
  | [], _ => by simp [Dt.hts]
  | d :: ds, h => by
    rw [Dt.hts]
    exact Nat.max_le.mpr ⟨pair_ht (h d (List.mem_cons_self ..)), pair_hts fun e he => h e (List.mem_cons_of_mem _ he)⟩

section
variable {P : Program} {w : World} {K : PySem.W.Frag} {mg : Str → Option Value} {base : Heap}

theorem ratEq (T : Tx K mg) {X : Cx} (h1 : X.K = K) (F : FnOk X.prog X.w X.K X.mg X.base CX0 1 T.Ratio_eq.f T.Ratio_eq.fd ["self", "other"] (spRatEq T.CR)) : RatEq X T.CR 1 := by
  subst h1
  exact ⟨T.Ratio_eq.f, T.Ratio_eq.fd, F, T.Ratio_eq.m.at_, T.Ratio_eq.m.fn, T.Ratio_eq.b⟩

theorem ok_is_pair (T : Tx K mg) : FnOk P w K mg base CX0 4 T.is_pair.f T.is_pair.fd ["value", "size"] (spIsPair T.CR) := by
  have F1 := ok_is_list (P := P) (w := w) (base := base) T
  have F2 := ok_are_numbers (P := P) (w := w) (base := base) T
  refine T.is_pair.F.ok sc_is_pair (fun vs H Q E h => ?_) (fun cdv A outer s H vs Q E hr h => ?_)
  · obtain ⟨n, d, x, rfl, _⟩ := h
    rfl
  · obtain ⟨n, d, x, rfl, hI, ⟨r1, r2, rfl, n1, n2, f1, f2⟩, hz, q⟩ := h
    have nd := sc_is_pair.nd
    refine ⟨_, pss_one (ps_ret (pe_and (pe_call F1 (hr.mono (by decide)) (by rfl) T.is_list.g T.is_list.F.kp T.is_list.b .nil pass0 (pa_cons (pv 0) pa_nil))
      (pe_and (pe_cmpR op_eq (pe_callB call_len_seq (by rfl) T.z_len PySem.boot_len (pa_cons (pv 0) pa_nil)) pe_int (nomark _))
      (pe_one (pe_callB (cr_all rfl) (by rfl) T.z_all PyProof.Rows.boot_all (pa_cons (pe_lc (own := [("row", 2)]) (g := gName 2) (tt := tYes) rfl nd (pi_tup (pv 0))
        (blkOk_by (own := [("row", 2)]) (N := ["value", "size", "row"]) (sc := defScope s_is_pair) (by decide +kernel)) (fun _ _ _ _ _ => pg_name (i := 2) nd rfl (.inl rfl)) (fun _ _ _ _ _ => pts_nil)
        (fun _ _ _ _ _ => pe_call F2 hr (by rfl) T.are_numbers.g T.are_numbers.F.kp T.are_numbers.b .nil pass0 (pa_cons (pv 2) (pa_cons (pv 1) pa_nil)))) pa_nil)))))), ?_⟩
    refine ⟨_, rfl, _, x, rfl, hI, .inr ⟨_, rfl⟩, fun H1 x1 => ⟨true, rfl, iteT ?_⟩⟩
    obtain ⟨a, u, v, rfl, e, i1, i2⟩ := is_tup2 hI
    refine ⟨_, rfl, a, [u, v], rfl, .inr (SqT.of (x1 _ _ e)), rfl, true, rfl, iteT ?_⟩
    refine ⟨_, rfl, a, rfl, ⟨_, SqT.of (x1 _ _ e)⟩, fun D nD => ?_⟩
    refine lc_dataT (CR := T.CR) (M := noM) (G1 := H1) (xs := [u, v]) (es := List.replicate 2 (.bl true)) noM_none Ext.rfl' nD (srcT (x1 _ _ e) (fun z => z)) rfl (by decide) (fun i x e' G2 H2 Q2 hx he gr k => ?_) (fun G2 H2 gr hD => ?_)
    · obtain rfl := repl_get he
      have up : ∀ {d : Dt} {y : V}, Is T.CR H d y → Is T.CR H2 d y := fun h => (h.ext x1).ext gr.toExt
      have kk : ∀ H', Ext H2 H' → Q2 (.bl true) H' := fun H' x' => k _ _ _ ((Gr.refl gr.gh).ext x') (.bl true)
      match i, hx with
      | 0, hx =>
        obtain rfl : u = x := Option.some.inj hx
        exact ⟨rfl, _, rfl, _, rfl, r1, u, (by rw [n1]; rfl), up i1, allHf_num f1, by omega, kk⟩
      | 1, hx =>
        obtain rfl : v = x := Option.some.inj hx
        exact ⟨rfl, _, rfl, _, rfl, r2, v, (by rw [n2]; rfl), up i2, allHf_num f2, by omega, kk⟩
      | i + 2, hx => simp at hx
    · refine ⟨D, _, rfl, SqL.of (gr.gh _ _ (is_trues hD)), ?_⟩
      exact q H2 (x1.trans gr.toExt)

theorem ok_right_pairs (T : Tx K mg) : FnOk P w K mg base CX0 6 T.right_pairs.f T.right_pairs.fd ["size", "value"] (spRightPairs T.CR) := by
  have F0 := ok_is_count (P := P) (w := w) (base := base) T
  have F1 := ok_is_list (P := P) (w := w) (base := base) T
  have F2 := ok_is_pair (P := P) (w := w) (base := base) T
  have F3 := ok_ratios_of (P := P) (w := w) (base := base) T
  refine T.right_pairs.F.ok sc_right_pairs (fun vs H Q E h => ?_) (fun cdv A outer s H vs Q E hr h => ?_)
  · obtain ⟨G, n, ps, x, rfl, _⟩ := h
    rfl
  · obtain ⟨G, n, ps, x, rfl, eg, hI, hp, hn, hz, q⟩ := h
    have nd := sc_right_pairs.nd
    refine ⟨_, pss_cons (ps_if (PW.pt (pw_or (pt_not (pt_val (pe_call F0 (hr.mono (by decide)) (by rfl) T.is_count.g T.is_count.F.kp T.is_count.b .nil pass0 (pa_cons (pv 0) pa_nil)))) (pw_or1 (pt_cmpR op_gt (pv 0) (pe_glob (v := .int 8) (by rfl) T.m_MOST_SIZE ⟨_, rfl⟩) (nomark _))))) pss_never pss_nil)
      (pss_cons (ps_if (PW.pt (pw_or (pt_not (pt_val (pe_call F1 (hr.mono (by decide)) (by rfl) T.is_list.g T.is_list.F.kp T.is_list.b .nil pass0 (pa_cons (pv 1) pa_nil))))
          (pw_or (pt_cmpR op_gt (pe_callB call_len_seq (by rfl) T.z_len PySem.boot_len (pa_cons (pv 1) pa_nil)) (pe_glob (v := .int 8) (by rfl) T.m_MOST_PAIRS ⟨_, rfl⟩) (nomark _))
          (pw_or1 (pt_not (pt_val (pe_callB (cr_all rfl) (by rfl) T.z_all PyProof.Rows.boot_all (pa_cons (pe_lc (own := [("pair", 2)]) (g := gName 2) (tt := tYes) rfl nd (pi_list (pv 1))
            (blkOk_by (own := [("pair", 2)]) (N := ["size", "value", "pair"]) (sc := defScope s_right_pairs) (by decide +kernel)) (fun _ _ _ _ _ => pg_name (i := 2) nd rfl (.inl rfl)) (fun _ _ _ _ _ => pts_nil)
            (fun _ _ _ _ _ => pe_call F2 (hr.mono (by decide)) (by rfl) T.is_pair.g T.is_pair.F.kp T.is_pair.b .nil pass0 (pa_cons (pv 2) (pa_cons (pv 0) pa_nil)))) pa_nil)))))))) pss_never pss_nil)
      (pss_one (ps_ret (pe_lc (own := [("pair", 2)]) (g := gName 2) (tt := tYes) rfl nd (pi_list (pv 1))
            (blkOk_by (own := [("pair", 2)]) (N := ["size", "value", "pair"]) (sc := defScope s_right_pairs) (by decide +kernel)) (fun _ _ _ _ _ => pg_name (i := 2) nd rfl (.inl rfl)) (fun _ _ _ _ _ => pts_nil)
            (fun _ _ _ _ _ => pe_tup (pa_cons (pe_call F3 hr (by rfl) T.ratios_of.g T.ratios_of.F.kp T.ratios_of.b .nil pass0 (pa_cons (pe_ix (ix_tupK (K := K) rfl) (pv 2) pe_int (fun _ _ => rfl)) pa_nil))
              (pa_cons (pe_call F3 hr (by rfl) T.ratios_of.g T.ratios_of.F.kp T.ratios_of.b .nil pass0 (pa_cons (pe_ix (ix_tupK (K := K) rfl) (pv 2) pe_int (fun _ _ => rfl)) pa_nil)) pa_nil))))))), ?_⟩
    refine ⟨_, rfl, _, rfl, ?_⟩
    rw [decide_eq_true (show (0 : Int) ≤ (n : Int) by omega)]
    refine ⟨true, rfl, iteF ⟨_, rfl, _, _, rfl, rfl, _, rfl, ?_⟩⟩
    rw [decide_eq_false (show ¬ (8 : Int) < (n : Int) by omega)]
    refine iteF ?_
    obtain ⟨a, xs, rfl, e, r⟩ := is_lst hI
    have hl := r.length
    refine ⟨_, rfl, _, _, rfl, hI.ext eg, .inl ⟨_, rfl⟩, fun H1 x1 => ⟨true, rfl, iteF ?_⟩⟩
    have e1 := x1 _ _ (eg _ _ e)
    refine ⟨_, rfl, a, xs, rfl, .inl (SqL.of e1), _, _, rfl, rfl, _, rfl, ?_⟩
    rw [decide_eq_false (show ¬ (8 : Int) < (xs.length : Int) by omega)]
    refine iteF ⟨_, rfl, a, rfl, ⟨_, SqL.of e1⟩, fun D nD => ?_⟩
    refine lc_dataL (CR := T.CR) (M := noM) (G1 := H1) (xs := xs) (es := List.replicate ps.length (.bl true)) noM_none Ext.rfl' nD (srcL e1 (fun z => z)) (by simp [hl]) (by simp; omega) (fun i x e' G2 H2 Q2 hx he gr k => ?_) (fun G2 H2 gr hD => ?_)
    · obtain rfl := repl_get he
      obtain ⟨d, hd, isd⟩ := r.get hx
      exact ⟨rfl, _, rfl, _, rfl, n, d, x, rfl, ((isd.ext eg).ext x1).ext gr.toExt, hp d (List.mem_of_getElem? hd), by omega, fun H' x' => k _ _ _ ((Gr.refl gr.gh).ext x') (.bl true)⟩
    · refine ⟨D, _, rfl, SqL.of (gr.gh _ _ (is_trues hD)), ?_⟩
      rw [all_true]
      refine ⟨true, rfl, iteF ?_⟩
      have x2 : Ext H H2 := x1.trans gr.toExt
      have g0 : Grow G H G H2 := (Gr.refl eg).ext x2
      have e2 := x2 _ _ (eg _ _ e)
      refine ⟨_, rfl, a, rfl, ⟨_, SqL.of e2⟩, fun D2 nD2 => ?_⟩
      refine lc_dataL (CR := T.CR) (M := noM) (G1 := G) (xs := xs) (es := ps) noM_none g0.gh nD2 (srcL e2 (fun z => z)) hl (by omega) (fun i x e' G3 H3 Q3 hx he gr3 k => ?_) (fun G3 H3 gr3 hD => q _ _ _ (g0.trans gr3) hD)
      obtain ⟨d, hd, isd⟩ := r.get hx
      rw [hd] at he
      cases he
      obtain ⟨r1, r2, rfl, n1, n2, f1, f2⟩ := hp _ (List.mem_of_getElem? hd)
      obtain ⟨p, u, v, rfl, ep, i1, i2⟩ := is_tup2 isd
      have ep3 := gr3.gh _ _ (gr3.gg _ _ ep)
      refine ⟨rfl, _, rfl, p, _, 0, _, rfl, rfl, SqT.of ep3, atI_nat (j := 0) rfl, G3, r1, u, rfl, gr3.gh, i1.ext gr3.gg, allHf_num f1, by omega, fun G4 H4 y4 g4 h4 => ?_⟩
      rw [allHf_rOf f1] at h4
      refine ⟨_, rfl, p, _, 1, _, rfl, rfl, SqT.of (g4.gh _ _ (g4.gg _ _ (gr3.gg _ _ ep))), atI_nat (j := 1) rfl, G4, r2, v, rfl, g4.gh, (i2.ext gr3.gg).ext g4.gg, allHf_num f2, by omega, fun G5 H5 y5 g5 h5 => ?_⟩
      rw [allHf_rOf f2] at h5
      refine ⟨(by show 2 ≤ sizeLine; decide), fun t nt => ?_⟩
      have gn := (g4.trans g5).new (o := .tup [y4, y5]) nt
      have ng := g5.gh.none_of nt
      exact k _ _ _ gn (.tup upd_same (.cons ((h4.ext g5.gg).ext (Ext.upd ng)) (.cons (h5.ext (Ext.upd ng)) .nil)))
end
end K84

/-! The class Pairs. -/
namespace K84
open PySem PySem.Spec PyProof.Rows L2

/-- an instance that was made and filled stands in the data -/
theorem Gr.made {M : Addr → Prop} {G H G1 H1 G2 H2 : Hp} {C x dx : Addr} {o : HO} (a : Gr M G H G1 H1) (nx : H1 x = none) (ndx : H1 dx = none) (ne : dx ≠ x)
    (b : Gr (fun y => y = x) G1 (upd (upd H1 dx (.own x)) x (.ins C dx [])) G2 H2) (e : H2 x = some o) (g : G2 x = none) : Gr M G H (upd G2 x o) H2 := by
  have nx2 : (upd H1 dx (.own x)) x = none := by
    rw [upd_ne ne.symm]
    exact nx
  have c : Gr noM G1 H1 G1 (upd (upd H1 dx (.own x)) x (.ins C dx [])) := ((Gr.refl a.gh).lay ndx).lay nx2
  exact a.trans (Gr.weak ((Gr.drop c nx b).freeze nx e g))

def prI : Dt → Dt
  | .tup ds => .tup (ds.map rowI)
  | d => d
theorem pair_rows {n : Nat} {r1 r2 : List Dt} (hn : n ≤ 8) (n1 : r1.length = n) (n2 : r2.length = n) (f1 : AllHf r1) (f2 : AllHf r2) : ∀ r ∈ [Dt.lst r1, Dt.lst r2], RowD r := by
  intro r hr
  rcases List.mem_cons.mp hr with rfl | hr
  · exact ⟨r1, rfl, f1, by omega⟩
  · rcases List.mem_cons.mp hr with rfl | hr
    · exact ⟨r2, rfl, f2, by omega⟩
    · cases hr

section
variable {P : Program} {w : World} {K : PySem.W.Frag} {mg : Str → Option Value} {base : Heap}

theorem ok_pairsInit (T : Tx K mg) : FnOk P w K mg base CX0 7 T.Pairs_init.f T.Pairs_init.fd ["self", "size", "rows"] (spPairsInit T.CR T.CP) := by
  have F1 := ok_right_pairs (P := P) (w := w) (base := base) T
  have F2 := ok_ints_of (P := P) (w := w) (base := base) T
  refine T.Pairs_init.F.ok sc_Pairs_init (fun vs H Q E h => ?_) (fun cdv A outer s H vs Q E hr h => ?_)
  · obtain ⟨G, p, dx, n, ps, x, rfl, _⟩ := h
    rfl
  · obtain ⟨G, p, dx, n, ps, x, rfl, eg, gp, hp, hI, hps, hn, hz, q⟩ := h
    have nd := sc_Pairs_init.nd
    refine ⟨_, PSs.nox (pss_cons (ps_if (pt_val (pe_callB call_isi (by rfl) T.z_isinstance PyProof.Rows.boot_isinstance (pa_cons (pv 1) (pa_cons (pe_glob (v := .ref T.CK) (by rfl) T.gK rfl) pa_nil)))) pss_never
        (pss_cons (ps_fld (pv 0) (pe_call F1 hr (by rfl) T.right_pairs.g T.right_pairs.F.kp T.right_pairs.b .nil pass0 (pa_cons (pv 1) (pa_cons (pv 2) pa_nil))) rfl)
        (pss_one (ps_fld (pv 0) (pv 1) rfl))))
      (pss_one (ps_fld (pv 0) (pe_lc (own := [("pair", 3)]) (g := gName 3) (tt := tYes) rfl nd (pi_list (pe_fld (pv 0) rfl))
            (blkOk_by (own := [("pair", 3)]) (N := ["self", "size", "rows", "pair"]) (sc := defScope s_Pairs_init) (by decide +kernel)) (fun _ _ _ _ _ => pg_name (i := 3) nd rfl (.inl rfl)) (fun _ _ _ _ _ => pts_nil)
            (fun _ _ _ _ _ => pe_callTy (call_tuple_ofK (K := K) rfl) (by rfl) T.z_tuple PyProof.Rows.boot_tuple (pa_cons (pe_call F2 hr (by rfl) T.ints_of.g T.ints_of.F.kp T.ints_of.b .nil pass0
              (pa_cons (pe_callTy (call_list_ofK (K := K) rfl) (by rfl) T.z_list PyProof.Rows.boot_list (pa_cons (pv 3) pa_nil)) pa_nil)) pa_nil))) rfl))), ?_⟩
    refine ⟨_, rfl, _, _, _, _, false, rfl, .own _, .base (.int _), T.kit_iK, false, rfl, iteF ?_⟩
    refine ⟨_, rfl, _, rfl, G, n, ps, x, rfl, eg, hI, hps, hn, hz, fun G1 H1 v g1 hv => ?_⟩
    have pn1 : G1 p = none := g1.off (by rw [hp]; simp) gp
    have hp1 : H1 p = some (.ins T.CP dx []) := g1.get hp
    refine ⟨_, rfl, p, T.CP, dx, [], rfl, hp1, T.Pairs.cl, T.nf_own_rows, (by show 0 < 1000; decide), ?_⟩
    refine ⟨_, rfl, _, rfl, p, T.CP, dx, _, rfl, upd_same, T.Pairs.cl, T.nf_own_size, (by show 1 < 1000; decide), ?_⟩
    rw [upd_upd]
    obtain ⟨a, xs, rfl, e, r⟩ := is_lst hv
    have hl := r.length
    have ap : a ≠ p := fun z => by rw [z, pn1] at e; cases e
    refine ⟨_, rfl, p, T.CP, dx, _, _, rfl, upd_same, T.Pairs.cl, T.nf_own_rows, pr1_rows _ _, ?_⟩
    have g2 : Gr (fun y => y = p) G H G1 (upd H1 p (.ins T.CP dx (putF "own_size" (V.int n) (putF "own_rows" (V.ref a) [])))) := (Gr.weak g1).mut (.inr rfl) pn1
    have ea := g2.gh _ _ e
    refine ⟨a, rfl, ⟨_, SqL.of ea⟩, fun D nD => ?_⟩
    refine lc_dataL (CR := T.CR) (M := noM) (G1 := G1) (xs := xs) (es := ps.map prI) noM_none g2.gh nD (srcL ea (fun z => z)) (by simp [hl]) (by simp; omega) (fun i x e' G3 H3 Q3 hx he gr3 k => ?_) (fun G3 H3 gr3 hD => ?_)
    · obtain ⟨d, hd, isd⟩ := r.get hx
      have ee : e' = prI d := by
        rw [List.getElem?_map, hd] at he
        exact (Option.some.inj he).symm
      subst ee
      obtain ⟨r1, r2, rfl, n1, n2, f1, f2⟩ := hps d (List.mem_of_getElem? hd)
      obtain ⟨b, u, u2, rfl, eb, i1, i2⟩ := is_tup2 isd
      refine ⟨rfl, _, rfl, b, _, rfl, .inr (SqT.of (gr3.gh _ _ (gr3.gg _ _ eb))), fun l nl => ?_⟩
      have gl := (Gr.refl (M := noM) gr3.gh).new (o := .lst [u, u2]) nl
      have xl := Ext.upd (o := HO.lst [u, u2]) (gr3.gh.none_of nl)
      refine ⟨_, [.lst r1, .lst r2], .ref l, rfl, gl.gh, .lst upd_same (.cons ((i1.ext gr3.gg).ext xl) (.cons ((i2.ext gr3.gg).ext xl) .nil)), pair_rows hn n1 n2 f1 f2, (by show 2 ≤ 1000; decide), fun G4 H4 y4 g4 h4 => ?_⟩
      obtain ⟨c, ys, rfl, ec, rc⟩ := is_lst h4
      refine ⟨c, ys, rfl, .inl ⟨SqL.of (g4.gh _ _ ec), fun t nt => ?_⟩⟩
      exact k _ _ _ ((gl.trans g4).new nt) (.tup upd_same (rc.ext (Ext.upd (g4.gh.none_of nt))))
    · have p3 : H3 p = some (.ins T.CP dx (putF "own_size" (V.int n) (putF "own_rows" (V.ref a) []))) := gr3.get upd_same
      have pn3 : G3 p = none := gr3.off (by rw [upd_same]; simp) pn1
      refine ⟨_, rfl, p, T.CP, dx, _, rfl, p3, T.Pairs.cl, T.nf_own_ints, (by rw [prF_put1]; show 2 < 1000; decide), ?_⟩
      rw [prF_put]
      exact q G3 _ (.ref a) (.ref D) ((g2.trans (Gr.weak gr3)).mut (.inr rfl) pn3) pn3 (hv.ext gr3.gg) upd_same

theorem mkP (T : Tx K mg) : Mk K T.CP T.Pairs_init.f := ⟨T.Pairs.mks, T.Pairs_init.at_, T.Pairs_init.fn, T.Pairs.kp⟩
theorem bP3 (T : Tx K mg) : Binds K T.Pairs_init.fd ["self", "size", "rows"] [] := by
  obtain ⟨ds, r, b⟩ := T.Pairs_init.F.binds1 (ps := ["self", "size", "rows"]) 3 1 (by simp) rfl fun T kV doc pm an cdv ct us its h1 h2 => match us, its, h1, h2 with | [_, _, _], [_], _, _ => ⟨_, rfl, rfl⟩
  cases r
  exact b

theorem ok_pairsEq (T : Tx K mg) : FnOk P w K mg base CX0 5 T.Pairs_eq.f T.Pairs_eq.fd ["self", "other"] (spPairsEq T.CR T.CP) := by
  have F1 := ok_ratEq (P := P) (w := w) (base := base) T
  refine T.Pairs_eq.F.ok sc_Pairs_eq (fun vs H Q E h => ?_) (fun cdv A outer s H vs Q E hr h => ?_)
  · obtain ⟨n, ps, x, y, rfl, _⟩ := h
    rfl
  · obtain ⟨n, ps, x, y, rfl, hx, hy, hps, q⟩ := h
    obtain ⟨a, dx, r1, z1, rfl, ea, i1⟩ := hx
    obtain ⟨b, dy, r2, z2, rfl, eb, i2⟩ := hy
    refine ⟨_, pss_cons (ps_if (pt_not (pt_val (pe_callB call_isi (by rfl) T.z_isinstance PyProof.Rows.boot_isinstance (pa_cons (pv 1) (pa_cons (pe_glob (v := .ref T.CP) (by rfl) T.Pairs.g rfl) pa_nil))))) pss_never pss_nil)
      (pss_one (ps_ret (pe_and (pe_cmpR op_eq (pe_fld (pv 0) rfl) (pe_fld (pv 1) rfl) (nomark _)) (pe_one (pe_cmpR (op_eqDt (ratEq T rfl F1) 2 hr) (pe_fld (pv 0) rfl) (pe_fld (pv 1) rfl) (nomark _)))))), ?_⟩
    refine ⟨_, rfl, _, _, _, _, _, rfl, .own _, .base (.ins eb T.Pairs.cl T.Pairs.ca T.cn T.ct T.Pairs.cm), T.kit_pP, true, rfl, iteF ?_⟩
    refine ⟨_, rfl, a, T.CP, dx, _, _, rfl, ea, T.Pairs.cl, T.nf_own_size, prF_size _ _ _, _, rfl, b, T.CP, dy, _, _, rfl, eb, T.Pairs.cl, T.nf_own_size, prF_size _ _ _, rfl, _, rfl, ?_⟩
    rw [decide_eq_true rfl]
    refine iteT ⟨_, rfl, a, T.CP, dx, _, _, rfl, ea, T.Pairs.cl, T.nf_own_rows, prF_rows _ _ _, _, rfl, b, T.CP, dy, _, _, rfl, eb, T.Pairs.cl, T.nf_own_rows, prF_rows _ _ _, ps, ps, .inl ⟨i1, i2⟩, pair_cmps hps, pair_hts hps, fun H' x' => ?_⟩
    rw [sames_self]
    exact q H' x'

/-- the size of Pairs -/
def spPairsSize (CR CP : Addr) : Sp := fun vs H Q _ => ∃ (n : Nat) (ps : List Dt) (x : V), vs = [x] ∧ PrAt CR CP H n ps x ∧ Q (.int n) H
theorem ok_pairsSize (T : Tx K mg) : FnOk P w K mg base CX0 1 T.Pairs_size.f T.Pairs_size.fd ["self"] (spPairsSize T.CR T.CP) := by
  refine T.Pairs_size.F.ok sc_Pairs_size (fun vs H Q E h => ?_) (fun cdv A outer s H vs Q E hr h => ?_)
  · obtain ⟨n, ps, x, rfl, _⟩ := h
    rfl
  · obtain ⟨n, ps, x, rfl, ⟨a, dx, r1, z1, rfl, ea, i1⟩, q⟩ := h
    refine ⟨_, pss_one (ps_ret (pe_fld (pv 0) rfl)), ?_⟩
    exact ⟨_, rfl, a, T.CP, dx, _, _, rfl, ea, T.Pairs.cl, T.nf_own_size, prF_size _ _ _, q⟩
end
end K84

/-! Frames: points, bars, making. -/
namespace K84
open PySem PySem.Spec PyProof.Rows L2

/-- a list or a tuple of data -/
def IsSeq (CR : Addr) (H : Hp) (ds : List Dt) (x : V) : Prop := Is CR H (.lst ds) x ∨ Is CR H (.tup ds) x
theorem IsSeq.ext {CR : Addr} {H H' : Hp} {ds : List Dt} {x : V} (h : IsSeq CR H ds x) (e : Ext H H') : IsSeq CR H' ds x := h.elim (fun h => .inl (h.ext e)) fun h => .inr (h.ext e)
/-- its place and its items -/
theorem IsSeq.at_ {K : PySem.W.Frag} {CR : Addr} {H : Hp} {ds : List Dt} {x : V} (h : IsSeq CR H ds x) : ∃ a xs, x = .ref a ∧ xs.length = ds.length ∧ ∀ H', Ext H H' → (SqL K H' a xs ∨ SqT K H' a xs) := by
  rcases h with h | h
  · obtain ⟨a, xs, rfl, e, r⟩ := is_lst h
    exact ⟨a, xs, rfl, r.length.symm, fun H' x => .inl (SqL.of (x _ _ e))⟩
  · obtain ⟨a, xs, rfl, e, r⟩ := is_tup h
    exact ⟨a, xs, rfl, r.length.symm, fun H' x => .inr (SqT.of (x _ _ e))⟩

section
variable {K : PySem.W.Frag} {CR : Addr} {ds es : List Dt} {g : TG} {te : TE} {vs : List Nat} {σ : L2.St} {G1 H1 : Hp} {Q : VK}
/-- [e for d in x], x (the name in slot j) a list or a tuple of data ds -/
theorem lc_seq {j : Nat} {x : V} (hσ : σ[j]? = some (some x)) (e1 : Ext G1 H1) (src : IsSeq CR G1 ds x) (hl : es.length = ds.length) (hz : es.length ≤ 100000)
    (step : ∀ (i : Nat) (y : V) (d e : Dt) (G2 H2 : Hp) (Q : VK), ds[i]? = some d → Is CR G2 d y → es[i]? = some e → Gr noM G1 H1 G2 H2 → (∀ y' G4 H4, Gr noM G2 H2 G4 H4 → Is CR G4 e y' → Q y' H4) →
      g y (wipe σ vs) H2 fun σ2 H3 => wipe σ2 vs = wipe σ vs ∧ te σ2 H3 Q)
    (fin : ∀ D G2 H2, Gr noM G1 H1 G2 H2 → Is CR G2 (.lst es) (.ref D) → Q (.ref D) H2) :
    tLc (fun σ H R => iList K (tVar j) σ H R ∨ iTup K (tVar j) σ H R) g tYes te vs σ H1 Q := by
  rcases src with src | src
  · obtain ⟨a, xs, rfl, e, r⟩ := is_lst src
    refine .inl ⟨_, hσ, a, rfl, ⟨_, SqL.of (e1 _ _ e)⟩, fun D nD => ?_⟩
    refine lc_dataL (CR := CR) (M := noM) (G1 := G1) (xs := xs) (es := es) noM_none e1 nD (srcL (e1 _ _ e) (fun z => z)) (hl.trans r.length) hz (fun i y e' G2 H2 Q2 hx he gr k => ?_) (fun G2 H2 gr hD => fin D G2 H2 gr hD)
    obtain ⟨d, hd, isd⟩ := r.get hx
    exact step i y d e' G2 H2 Q2 hd (isd.ext gr.gg) he gr k
  · obtain ⟨a, xs, rfl, e, r⟩ := is_tup src
    refine .inr ⟨_, hσ, a, rfl, ⟨_, SqT.of (e1 _ _ e)⟩, fun D nD => ?_⟩
    refine lc_dataT (CR := CR) (M := noM) (G1 := G1) (xs := xs) (es := es) noM_none e1 nD (srcT (e1 _ _ e) (fun z => z)) (hl.trans r.length) hz (fun i y e' G2 H2 Q2 hx he gr k => ?_) (fun G2 H2 gr hD => fin D G2 H2 gr hD)
    obtain ⟨d, hd, isd⟩ := r.get hx
    exact step i y d e' G2 H2 Q2 hd (isd.ext gr.gg) he gr k
theorem pg_tupK {X : Cx} {es : List Expr} {k n : Nat} {t : TGs} {pos : Pos} (hK : X.K = K) (hc : X.calm = true) (h : PGs X es t)
    (hn : (assignEach es X.env).length = n := by rfl) (hst : (assignEach es X.env).findIdx? (·.1) = none := by rfl) : PG X (.Tuple es k pos) (gTup K n t) := by
  subst hK
  exact pg_tup hc h hn hst
end

/-! ### data of frames -/
/-- a point of numbers -/
def InPt (d : Dt) : Prop := ∃ p q, d = .tup [p, q] ∧ Num p ∧ Num q
/-- a point of halves -/
def PtD (d : Dt) : Prop := ∃ p q, d = .tup [p, q] ∧ Hf p ∧ Hf q
/-- a bar between two of n points -/
def BarD (n : Nat) (d : Dt) : Prop := ∃ i j : Nat, d = .tup [.int i, .int j] ∧ i < j ∧ j < n
def ptOf : Dt → Dt
  | .tup [p, q] => .tup [rOf p, rOf q]
  | d => d
/-- the fields of a Frame -/
def frF (p b : V) : List (Str × V) := [("own_points", p), ("own_bars", b)]
theorem pb_ne : ¬ (("own_points" : Str) = "own_bars") := by decide +kernel
theorem frF_put (p b : V) : putF "own_bars" b (putF "own_points" p []) = frF p b := by
  show (if ("own_points" : Str) = "own_bars" then [(("own_points" : Str), b)] else (("own_points" : Str), p) :: putF "own_bars" b []) = _
  rw [if_neg pb_ne]
  rfl
theorem frF_points (p b : V) : (frF p b).lookup ("own_points" : Str) = some p := by
  rw [← frF_put, lookup_putF, if_neg pb_ne, lookup_putF, if_pos rfl]
theorem frF_bars (p b : V) : (frF p b).lookup ("own_bars" : Str) = some b := by
  rw [← frF_put, lookup_putF, if_pos rfl]
theorem frF_no (p b : V) {m : Str} (h1 : ¬ m = "own_points") (h2 : ¬ m = "own_bars") : (frF p b).lookup m = none := by
  rw [← frF_put, lookup_putF, if_neg h2, lookup_putF, if_neg h1]
  rfl
/-- a Frame stands at x -/
def FrAt (CR CF : Addr) (H : Hp) (ps bs : List Dt) (x : V) : Prop := ∃ a dx p b, x = .ref a ∧ H a = some (.ins CF dx (frF p b)) ∧ Is CR H (.tup ps) p ∧ Is CR H (.tup bs) b
theorem FrAt.ext {CR CF : Addr} {H H' : Hp} {ps bs : List Dt} {x : V} (h : FrAt CR CF H ps bs x) (e : Ext H H') : FrAt CR CF H' ps bs x := by
  obtain ⟨a, dx, p, b, rfl, h1, h2, h3⟩ := h
  exact ⟨a, dx, p, b, rfl, e _ _ h1, h2.ext e, h3.ext e⟩

def spIsPoint (CR : Addr) : Sp := fun vs H Q _ => ∃ (d : Dt) (x : V), vs = [x] ∧ Is CR H d x ∧ InPt d ∧ Q (.bl true) H
def spIsBar (CR : Addr) : Sp := fun vs H Q _ => ∃ (n : Nat) (d : Dt) (x : V), vs = [.int n, x] ∧ Is CR H d x ∧ BarD n d ∧ ∀ H', Ext H H' → Q (.bl true) H'
def spFrameInit (CR CF : Addr) : Sp := fun vs H Q _ => ∃ (G : Hp) (a dx : Addr) (ps bs : List Dt) (x y : V), vs = [.ref a, x, y] ∧ Ext G H ∧ G a = none ∧ H a = some (.ins CF dx []) ∧ IsSeq CR G ps x ∧ IsSeq CR G bs y ∧
  (∀ d ∈ ps, InPt d) ∧ (∀ d ∈ bs, BarD ps.length d) ∧ ps.length ≤ 5 ∧ bs.length ≤ 8 ∧
  ∀ G' H' p b, Gr (fun y => y = a) G H G' H' → G' a = none → Is CR G' (.tup (ps.map ptOf)) p → Is CR G' (.tup bs) b → H' a = some (.ins CF dx (frF p b)) → Q .non H'

section
variable {P : Program} {w : World} {K : PySem.W.Frag} {mg : Str → Option Value} {base : Heap}

theorem ok_is_point (T : Tx K mg) : FnOk P w K mg base CX0 3 T.is_point.f T.is_point.fd ["value"] (spIsPoint T.CR) := by
  have F1 := ok_is_number (P := P) (w := w) (base := base) T
  refine T.is_point.F.ok sc_is_point (fun vs H Q E h => ?_) (fun cdv A outer s H vs Q E hr h => ?_)
  · obtain ⟨d, x, rfl, _⟩ := h
    rfl
  · obtain ⟨d, x, rfl, hI, ⟨p, q, rfl, np, nq⟩, k⟩ := h
    refine ⟨_, pss_one (ps_ret (pe_and (pe_callB call_isi (by rfl) T.z_isinstance PyProof.Rows.boot_isinstance (pa_cons (pv 0) (pa_cons (pe_bltn (v := .ty "tuple") (by rfl) T.z_tuple PyProof.Rows.boot_tuple rfl) pa_nil)))
      (pe_and (pe_cmpR op_eq (pe_callB call_len_seq (by rfl) T.z_len PySem.boot_len (pa_cons (pv 0) pa_nil)) pe_int (nomark _))
      (pe_and (pe_call F1 hr (by rfl) T.is_number.g T.is_number.F.kp T.is_number.b .nil pass0 (pa_cons (pe_ix ix_tup (pv 0) pe_int (fun _ _ => rfl)) pa_nil))
      (pe_one (pe_call F1 hr (by rfl) T.is_number.g T.is_number.F.kp T.is_number.b .nil pass0 (pa_cons (pe_ix ix_tup (pv 0) pe_int (fun _ _ => rfl)) pa_nil))))))), ?_⟩
    obtain ⟨a, u, v, rfl, e, i1, i2⟩ := is_tup2 hI
    refine ⟨_, rfl, _, _, _, _, true, rfl, .ty _, .base (.tup e), kit_ty (by decide +kernel), true, rfl, iteT ?_⟩
    refine ⟨_, rfl, a, [u, v], rfl, .inr (SqT.of e), rfl, true, rfl, iteT ?_⟩
    refine ⟨_, rfl, a, _, 0, _, rfl, rfl, SqT.of e, atI_nat (j := 0) rfl, p, u, rfl, i1, np, true, rfl, iteT ?_⟩
    exact ⟨_, rfl, a, _, 1, _, rfl, rfl, SqT.of e, atI_nat (j := 1) rfl, q, v, rfl, i2, nq, k⟩

theorem ok_is_bar (T : Tx K mg) : FnOk P w K mg base CX0 3 T.is_bar.f T.is_bar.fd ["many", "value"] (spIsBar T.CR) := by
  have F1 := ok_is_count (P := P) (w := w) (base := base) T
  refine T.is_bar.F.ok sc_is_bar (fun vs H Q E h => ?_) (fun cdv A outer s H vs Q E hr h => ?_)
  · obtain ⟨n, d, x, rfl, _⟩ := h
    rfl
  · obtain ⟨n, d, x, rfl, hI, ⟨i, j, rfl, h1, h2⟩, k⟩ := h
    have nd := sc_is_bar.nd
    refine ⟨_, pss_cons (ps_if (PW.pt (pw_or (pt_not (pt_val (pe_callB call_isi (by rfl) T.z_isinstance PyProof.Rows.boot_isinstance (pa_cons (pv 1) (pa_cons (pe_bltn (v := .ty "tuple") (by rfl) T.z_tuple PyProof.Rows.boot_tuple rfl) pa_nil)))))
        (pw_or (pt_cmpR op_ne (pe_callB call_len_seq (by rfl) T.z_len PySem.boot_len (pa_cons (pv 1) pa_nil)) pe_int (nomark _))
        (pw_or1 (pt_not (pt_val (pe_callB (cr_all rfl) (by rfl) T.z_all PyProof.Rows.boot_all (pa_cons (pe_lc (own := [("place", 2)]) (g := gName 2) (tt := tYes) rfl nd (pi_tup (pv 1))
            (blkOk_by (own := [("place", 2)]) (N := ["many", "value", "place"]) (sc := defScope s_is_bar) (by decide +kernel)) (fun _ _ _ _ _ => pg_name (i := 2) nd rfl (.inl rfl)) (fun _ _ _ _ _ => pts_nil)
            (fun _ _ _ _ _ => pe_call F1 hr (by rfl) T.is_count.g T.is_count.F.kp T.is_count.b .nil pass0 (pa_cons (pv 2) pa_nil))) pa_nil)))))))) pss_never pss_nil)
      (pss_one (ps_ret (pe_chain op_lt op_lt (pe_ix ix_tup (pv 1) pe_int (fun _ _ => rfl)) (pe_ix ix_tup (pv 1) pe_int (fun _ _ => rfl)) (pv 0)))), ?_⟩
    obtain ⟨a, u, v, rfl, e, i1, i2⟩ := is_tup2 hI
    cases i1
    cases i2
    refine ⟨_, rfl, _, _, _, _, true, rfl, .ty _, .base (.tup e), kit_ty (by decide +kernel), true, rfl, iteF ?_⟩
    refine ⟨_, rfl, a, [.int i, .int j], rfl, .inr (SqT.of e), rfl, _, rfl, ?_⟩
    refine iteNS rfl ⟨_, rfl, a, rfl, ⟨_, SqT.of e⟩, fun D nD => ?_⟩
    refine lc_dataT (CR := T.CR) (M := noM) (G1 := H) (xs := [.int i, .int j]) (es := List.replicate 2 (.bl true)) noM_none Ext.rfl' nD (srcT e (fun z => z)) rfl (by decide) (fun m x e' G2 H2 Q2 hx he gr kk => ?_) (fun G2 H2 gr hD => ?_)
    · obtain rfl := repl_get he
      have one : ∀ z : Nat, Q2 (.bl (decide (0 ≤ (z : Int)))) H2 := fun z => by
        rw [decide_eq_true (show (0 : Int) ≤ (z : Int) by omega)]
        exact kk _ _ _ (Gr.refl gr.gh) (.bl true)
      match m, hx with
      | 0, hx =>
        obtain rfl : V.int i = x := Option.some.inj hx
        exact ⟨rfl, _, rfl, i, rfl, one i⟩
      | 1, hx =>
        obtain rfl : V.int j = x := Option.some.inj hx
        exact ⟨rfl, _, rfl, j, rfl, one j⟩
      | m + 2, hx => simp at hx
    · have e2 := gr.toExt _ _ e
      refine ⟨D, _, rfl, SqL.of (gr.gh _ _ (is_trues hD)), true, rfl, iteF ?_⟩
      refine ⟨_, rfl, a, _, 0, _, rfl, rfl, SqT.of e2, atI_nat (j := 0) rfl, _, rfl, a, _, 1, _, rfl, rfl, SqT.of e2, atI_nat (j := 1) rfl, _, _, rfl, rfl, _, rfl, ?_⟩
      rw [decide_eq_true (show (i : Int) < (j : Int) by omega)]
      refine iteT ⟨_, rfl, _, _, rfl, rfl, ?_⟩
      show Q (V.bl (decide ((j : Int) < (n : Int)))) H2
      rw [decide_eq_true (show (j : Int) < (n : Int) by omega)]
      exact k H2 gr.toExt

theorem ok_frameInit (T : Tx K mg) : FnOk P w K mg base CX0 5 T.Frame_init.f T.Frame_init.fd ["self", "points", "bars"] (spFrameInit T.CR T.CF) := by
  have F1 := ok_is_list (P := P) (w := w) (base := base) T
  have F2 := ok_is_point (P := P) (w := w) (base := base) T
  have F3 := ok_is_bar (P := P) (w := w) (base := base) T
  have F4 := ok_ratio_of (P := P) (w := w) (base := base) T
  refine T.Frame_init.F.ok sc_Frame_init (fun vs H Q E h => ?_) (fun cdv A outer s H vs Q E hr h => ?_)
  · obtain ⟨G, a, dx, ps, bs, x, y, rfl, _⟩ := h
    rfl
  · obtain ⟨G, a, dx, ps, bs, x, y, rfl, eg, ga, ha, hx, hy, hps, hbs, lp, lb, q⟩ := h
    have nd := sc_Frame_init.nd
    refine ⟨_, pss_cons (ps_if (PW.pt (pw_or (pt_not (pt_val (pe_call F1 (hr.mono (by decide)) (by rfl) T.is_list.g T.is_list.F.kp T.is_list.b .nil pass0 (pa_cons (pv 1) pa_nil))))
        (pw_or (pt_cmpR op_gt (pe_callB call_len_seq (by rfl) T.z_len PySem.boot_len (pa_cons (pv 1) pa_nil)) (pe_glob (v := .int 5) (by rfl) T.m_MOST_POINTS ⟨_, rfl⟩) (nomark _))
        (pw_or1 (pt_not (pt_val (pe_callB (cr_all rfl) (by rfl) T.z_all PyProof.Rows.boot_all (pa_cons (pe_lc (own := [("point", 5)]) (g := gName 5) (tt := tYes) rfl nd (PI.or (pi_list (pv 1)) (pi_tup (pv 1)))
            (blkOk_by (own := [("point", 5)]) (N := ["self", "points", "bars", "right", "up", "point", "bar"]) (sc := defScope s_Frame_init) (by decide +kernel)) (fun _ _ _ _ _ => pg_name (i := 5) nd rfl (.inl rfl)) (fun _ _ _ _ _ => pts_nil)
            (fun _ _ _ _ _ => pe_call F2 (hr.mono (by decide)) (by rfl) T.is_point.g T.is_point.F.kp T.is_point.b .nil pass0 (pa_cons (pv 5) pa_nil))) pa_nil)))))))) pss_never pss_nil)
      (pss_cons (ps_if (PW.pt (pw_or (pt_not (pt_val (pe_call F1 (hr.mono (by decide)) (by rfl) T.is_list.g T.is_list.F.kp T.is_list.b .nil pass0 (pa_cons (pv 2) pa_nil))))
        (pw_or (pt_cmpR op_gt (pe_callB call_len_seq (by rfl) T.z_len PySem.boot_len (pa_cons (pv 2) pa_nil)) (pe_glob (v := .int 8) (by rfl) T.m_MOST_BARS ⟨_, rfl⟩) (nomark _))
        (pw_or1 (pt_not (pt_val (pe_callB (cr_all rfl) (by rfl) T.z_all PyProof.Rows.boot_all (pa_cons (pe_lc (own := [("bar", 6)]) (g := gName 6) (tt := tYes) rfl nd (PI.or (pi_list (pv 2)) (pi_tup (pv 2)))
            (blkOk_by (own := [("bar", 6)]) (N := ["self", "points", "bars", "right", "up", "point", "bar"]) (sc := defScope s_Frame_init) (by decide +kernel)) (fun _ _ _ _ _ => pg_name (i := 6) nd rfl (.inl rfl)) (fun _ _ _ _ _ => pts_nil)
            (fun _ _ _ _ _ => pe_call F3 (hr.mono (by decide)) (by rfl) T.is_bar.g T.is_bar.F.kp T.is_bar.b .nil pass0 (pa_cons (pe_callB (call_len_seqK (K := K) rfl) (by rfl) T.z_len PySem.boot_len (pa_cons (pv 1) pa_nil)) (pa_cons (pv 6) pa_nil)))) pa_nil)))))))) pss_never pss_nil)
      (pss_cons (ps_fld (pv 0) (pe_callTy call_tuple_of (by rfl) T.z_tuple PyProof.Rows.boot_tuple (pa_cons (pe_lc (own := [("right", 3), ("up", 4)]) (tt := tYes) rfl nd (PI.or (pi_list (pv 1)) (pi_tup (pv 1)))
            (blkOk_by (own := [("right", 3), ("up", 4)]) (N := ["self", "points", "bars", "right", "up", "point", "bar"]) (sc := defScope s_Frame_init) (by decide +kernel))
            (fun _ _ _ _ _ => pg_tupK (K := K) (n := 2) rfl rfl (pgs_cons (pg_name (i := 3) nd rfl (.inl rfl)) (pgs_cons (pg_name (i := 4) nd rfl (.inl rfl)) pgs_nil))) (fun _ _ _ _ _ => pts_nil)
            (fun _ _ _ _ _ => pe_tup (pa_cons (pe_call F4 hr (by rfl) T.ratio_of.g T.ratio_of.F.kp T.ratio_of.b .nil pass0 (pa_cons (pv 3) pa_nil)) (pa_cons (pe_call F4 hr (by rfl) T.ratio_of.g T.ratio_of.F.kp T.ratio_of.b .nil pass0 (pa_cons (pv 4) pa_nil)) pa_nil)))) pa_nil)) rfl)
      (pss_one (ps_fld (pv 0) (pe_callTy call_tuple_of (by rfl) T.z_tuple PyProof.Rows.boot_tuple (pa_cons (pv 2) pa_nil)) rfl)))), ?_⟩
    obtain ⟨b1, xs, ex, lxs, sx⟩ := hx.at_ (K := K)
    obtain ⟨b2, ys, ey, lys, sy⟩ := hy.at_ (K := K)
    -- the points are looked at
    have seqx : ∃ d, Is T.CR G d x ∧ ((∃ ds, d = .lst ds) ∨ ∃ ds, d = .tup ds) := hx.elim (fun h => ⟨_, h, .inl ⟨_, rfl⟩⟩) fun h => ⟨_, h, .inr ⟨_, rfl⟩⟩
    have seqy : ∃ d, Is T.CR G d y ∧ ((∃ ds, d = .lst ds) ∨ ∃ ds, d = .tup ds) := hy.elim (fun h => ⟨_, h, .inl ⟨_, rfl⟩⟩) fun h => ⟨_, h, .inr ⟨_, rfl⟩⟩
    obtain ⟨dx', ix, kx⟩ := seqx
    obtain ⟨dy', iy, ky⟩ := seqy
    refine ⟨_, rfl, dx', x, rfl, ix.ext eg, kx, fun H1 x1 => ⟨true, rfl, iteF ?_⟩⟩
    refine ⟨_, rfl, b1, xs, by rw [ex], sx _ (eg.trans x1), _, _, rfl, rfl, _, rfl, ?_⟩
    rw [decide_eq_false (show ¬ (5 : Int) < (xs.length : Int) by omega)]
    refine iteF ?_
    dsimp only [tNot, tB, tCB, tCons]
    refine lc_seq (CR := T.CR) (ds := ps) (es := List.replicate ps.length (.bl true)) (x := x) rfl (eg.trans x1) hx (by simp) (by simp; omega) (fun i y' d e' G2 H2 Q2 hd hyd he gr k => ?_) (fun D G2 H2 gr hD => ?_)
    · obtain rfl := repl_get he
      exact ⟨rfl, _, rfl, d, y', rfl, hyd.ext gr.gh, hps d (List.mem_of_getElem? hd), k _ _ _ (Gr.refl gr.gh) (.bl true)⟩
    refine ⟨D, _, rfl, SqL.of (gr.gh _ _ (is_trues hD)), ?_⟩
    rw [all_true]
    refine ⟨true, rfl, iteF ?_⟩
    have x2 : Ext H H2 := x1.trans gr.toExt
    -- the bars are looked at
    refine ⟨_, rfl, dy', y, rfl, (iy.ext eg).ext x2, ky, fun H3 x3 => ⟨true, rfl, iteF ?_⟩⟩
    have x4 := x2.trans x3
    refine ⟨_, rfl, b2, ys, by rw [ey], sy _ (eg.trans x4), _, _, rfl, rfl, _, rfl, ?_⟩
    rw [decide_eq_false (show ¬ (8 : Int) < (ys.length : Int) by omega)]
    refine iteF ?_
    dsimp only [tNot, tB, tCB, tCons]
    refine lc_seq (CR := T.CR) (ds := bs) (es := List.replicate bs.length (.bl true)) (x := y) rfl (eg.trans x4) hy (by simp) (by simp; omega) (fun i y' d e' G2 H2 Q2 hd hyd he gr k => ?_) (fun D2 G4 H4 gr4 hD2 => ?_)
    · obtain rfl := repl_get he
      refine ⟨rfl, _, rfl, b1, xs, by rw [ex], sx _ ((eg.trans x4).trans gr.toExt), _, rfl, ps.length, d, y', by rw [lxs]; rfl, hyd.ext gr.gh, hbs d (List.mem_of_getElem? hd), fun H' x' => k _ _ _ ((Gr.refl gr.gh).ext x') (.bl true)⟩
    refine ⟨D2, _, rfl, SqL.of (gr4.gh _ _ (is_trues hD2)), ?_⟩
    rw [all_true]
    refine ⟨true, rfl, iteF ?_⟩
    have x5 : Ext H H4 := x4.trans gr4.toExt
    have g5 : Grow G H G H4 := (Gr.refl eg).ext x5
    -- the points are kept
    dsimp only [tSeq, sFld, tCB, tCons, tNext]
    refine lc_seq (CR := T.CR) (ds := ps) (es := ps.map ptOf) (x := x) rfl g5.gh hx (by simp) (by simp; omega) (fun i y' d e' G2 H2 Q2 hd hyd he gr k => ?_) (fun D3 G6 H6 gr6 hD3 => ?_)
    · have ee : e' = ptOf d := by
        rw [List.getElem?_map, hd] at he
        exact (Option.some.inj he).symm
      subst ee
      obtain ⟨p, q', rfl, np, nq⟩ := hps d (List.mem_of_getElem? hd)
      obtain ⟨t, u, v, rfl, et, i1, i2⟩ := is_tup2 hyd
      refine ⟨t, _, rfl, SqT.of (gr.gh _ _ et), rfl, _, _, rfl, _, _, rfl, rfl, rfl, ?_⟩
      refine ⟨_, rfl, G2, u, p, rfl, gr.gh, i1, np, fun G7 H7 u7 g7 h7 => ?_⟩
      refine ⟨_, rfl, G7, v, q', rfl, g7.gh, i2.ext g7.gg, nq, fun G8 H8 u8 g8 h8 => ?_⟩
      refine ⟨(by show 2 ≤ sizeLine; decide), fun t2 nt => ?_⟩
      have xt := Ext.upd (o := HO.tup [u7, u8]) (g8.gh.none_of nt)
      exact k _ _ _ ((g7.trans g8).new nt) (.tup upd_same (.cons ((h7.ext g8.gg).ext xt) (.cons (h8.ext xt) .nil)))
    obtain ⟨a3, zs, ea3, e3, r3⟩ := is_lst hD3
    cases ea3
    have g6 : Grow G H G6 H6 := g5.trans gr6
    refine ⟨D3, zs, rfl, .inl ⟨SqL.of (gr6.gh _ _ e3), fun l nl => ?_⟩⟩
    have g7 := g6.new (o := .tup zs) nl
    have pl : Is T.CR (upd G6 l (.tup zs)) (.tup (ps.map ptOf)) (.ref l) := .tup upd_same (r3.ext (Ext.upd (g6.gh.none_of nl)))
    have ha7 := g7.get ha
    have ga7 : (upd G6 l (.tup zs)) a = none := g7.off (by rw [ha]; simp) ga
    refine ⟨_, rfl, a, T.CF, dx, [], rfl, ha7, T.Frame.cl, T.nf_own_points, (by show 0 < 1000; decide), ?_⟩
    have g8 : Gr (fun y => y = a) G H (upd G6 l (.tup zs)) (upd (upd H6 l (.tup zs)) a (.ins T.CF dx (putF "own_points" (V.ref l) []))) := (Gr.weak g7).mut (.inr rfl) ga7
    -- the bars are kept
    refine ⟨_, rfl, ?_⟩
    rcases hy with hy | hy
    · obtain ⟨c, us, rfl, ec, rc⟩ := is_lst hy
      refine ⟨c, us, rfl, .inl ⟨SqL.of (g8.gh _ _ (g8.gg _ _ ec)), fun m nm => ?_⟩⟩
      have g9 := g8.new (o := .tup us) nm
      have na : a ≠ m := fun z => by rw [← z, upd_same] at nm; cases nm
      have xm := Ext.upd (o := HO.tup us) (g8.gh.none_of nm)
      have ga9 : (upd (upd G6 l (.tup zs)) m (.tup us)) a = none := by
        rw [upd_ne na]
        exact ga7
      refine ⟨_, rfl, a, T.CF, dx, _, rfl, (by rw [upd_ne na]; exact upd_same), T.Frame.cl, T.nf_own_bars, (by show 1 < 1000; decide), ?_⟩
      rw [frF_put]
      exact q _ _ _ _ (g9.mut (.inr rfl) ga9) ga9 (pl.ext xm) (.tup upd_same ((rc.ext g8.gg).ext xm)) upd_same
    · obtain ⟨c, us, rfl, ec, rc⟩ := is_tup hy
      refine ⟨c, us, rfl, .inr ⟨SqT.of (g8.gh _ _ (g8.gg _ _ ec)), ?_⟩⟩
      refine ⟨_, rfl, a, T.CF, dx, _, rfl, upd_same, T.Frame.cl, T.nf_own_bars, (by show 1 < 1000; decide), ?_⟩
      rw [frF_put]
      exact q _ _ _ _ (g8.mut (.inr rfl) ga7) ga7 pl (hy.ext g8.gg) upd_same
end
end K84

/-! Frames: told, compared, their tables. -/
namespace K84
open PySem PySem.Spec PyProof.Rows L2

theorem pt_cmp' {d e : Dt} (h : PtD d) (g : PtD e) : d.cmp e := by
  obtain ⟨p, q, rfl, h1, h2⟩ := h
  obtain ⟨p', q', rfl, g1, g2⟩ := g
  have one : ∀ {a b : Dt}, Hf a → Hf b → a.cmp b := fun {a b} h g => by
    cases a with
    | rat t b1 =>
      cases b with
      | rat t2 b2 => rw [Dt.cmp]; trivial
      | _ => exact g.elim
    | _ => exact h.elim
  simp only [Dt.cmp, Dt.cmps]
  exact ⟨one h1 g1, one h2 g2, trivial⟩
theorem pt_cmps : ∀ {ds es : List Dt}, (∀ d ∈ ds, PtD d) → (∀ d ∈ es, PtD d) → Dt.cmps ds es
  | [], _, _, _ => by simp [Dt.cmps]
  | d :: ds, [], _, _ => by simp [Dt.cmps]
  | d :: ds, e :: es, h, g => by
    rw [Dt.cmps]
    exact ⟨pt_cmp' (h d (List.mem_cons_self ..)) (g e (List.mem_cons_self ..)), pt_cmps (fun x hx => h x (List.mem_cons_of_mem _ hx)) fun x hx => g x (List.mem_cons_of_mem _ hx)⟩
theorem bar_cmp {n m : Nat} {d e : Dt} (h : BarD n d) (g : BarD m e) : d.cmp e := by
  obtain ⟨i, j, rfl, _⟩ := h
  obtain ⟨i', j', rfl, _⟩ := g
  simp only [Dt.cmp, Dt.cmps]
  trivial
theorem bar_cmps {n m : Nat} : ∀ {ds es : List Dt}, (∀ d ∈ ds, BarD n d) → (∀ d ∈ es, BarD m d) → Dt.cmps ds es
  | [], _, _, _ => by simp [Dt.cmps]
  | d :: ds, [], _, _ => by simp [Dt.cmps]
  | d :: ds, e :: es, h, g => by
    rw [Dt.cmps]
    exact ⟨bar_cmp (h d (List.mem_cons_self ..)) (g e (List.mem_cons_self ..)), bar_cmps (fun x hx => h x (List.mem_cons_of_mem _ hx)) fun x hx => g x (List.mem_cons_of_mem _ hx)⟩
theorem pt_ht {d : Dt} (h : PtD d) : d.ht ≤ 1 := by
  obtain ⟨p, q, rfl, h1, h2⟩ := h
  simp only [Dt.ht, Dt.hts, hf_ht h1, hf_ht h2]
  omega
theorem bar_ht {n : Nat} {d : Dt} (h : BarD n d) : d.ht ≤ 1 := by
  obtain ⟨i, j, rfl, _⟩ := h
  simp only [Dt.ht, Dt.hts]
  omega
theorem hts_le {N : Nat} : ∀ {ds : List Dt}, (∀ d ∈ ds, d.ht ≤ N) → Dt.hts ds ≤ N
  | [], _ => by simp [Dt.hts]
  | d :: ds, h => by
    rw [Dt.hts]
    exact Nat.max_le.mpr ⟨h d (List.mem_cons_self ..), hts_le fun e he => h e (List.mem_cons_of_mem _ he)⟩
theorem oks_of : ∀ {ds : List Dt}, (∀ d ∈ ds, d.ok) → Dt.oks ds
  | [], _ => by simp [Dt.oks]
  | d :: ds, h => by
    rw [Dt.oks]
    exact ⟨h d (List.mem_cons_self ..), oks_of fun e he => h e (List.mem_cons_of_mem _ he)⟩
theorem cnts_le {N : Nat} : ∀ {ds : List Dt}, (∀ d ∈ ds, cnt d ≤ N) → cnts ds ≤ ds.length * N
  | [], _ => by simp [cnts]
  | d :: ds, h => by
    have a := h d (List.mem_cons_self ..)
    have b := cnts_le (ds := ds) fun e he => h e (List.mem_cons_of_mem _ he)
    rw [cnts, List.length_cons, Nat.succ_mul]
    omega
theorem hf_ok {d : Dt} (h : Hf d) : d.ok := by
  cases d with
  | rat t b =>
    rw [Dt.ok]
    obtain ⟨⟨h1, h2⟩, h3⟩ := h
    refine ⟨⟨by omega, by omega⟩, ?_⟩
    rcases h3 with rfl | rfl <;> decide
  | _ => exact h.elim
theorem hf_cnt {d : Dt} (h : Hf d) : cnt d = 1 := by
  cases d with
  | rat t b => simp [cnt]
  | _ => exact h.elim
theorem pt_ok {d : Dt} (h : PtD d) : d.ok := by
  obtain ⟨p, q, rfl, h1, h2⟩ := h
  simp only [Dt.ok, Dt.oks]
  exact ⟨hf_ok h1, hf_ok h2, trivial⟩
theorem pt_cnt {d : Dt} (h : PtD d) : cnt d ≤ 3 := by
  obtain ⟨p, q, rfl, h1, h2⟩ := h
  simp only [cnt, cnts, hf_cnt h1, hf_cnt h2]
  omega
theorem bar_ok {n : Nat} {d : Dt} (hn : n ≤ 5) (h : BarD n d) : d.ok := by
  obtain ⟨i, j, rfl, h1, h2⟩ := h
  simp only [Dt.ok, Dt.oks]
  exact ⟨sm_log (by omega), sm_log (by omega), trivial⟩
theorem bar_cnt {n : Nat} {d : Dt} (h : BarD n d) : cnt d ≤ 3 := by
  obtain ⟨i, j, rfl, h1, h2⟩ := h
  simp only [cnt, cnts]
  omega
/-- a list of data that is small enough is told -/
theorem list_fits {ds : List Dt} (h : ∀ d ∈ ds, d.ok) (c : cnts ds ≤ 1000) : (listText (Dt.texts ds)).length ≤ sizeLine := by
  have a := text_len (.lst ds) (by rw [Dt.ok]; exact oks_of h)
  rw [Dt.text, cnt] at a
  have b : (4020000 : Nat) ≤ sizeLine := by decide
  omega

/-- well-made data of a frame -/
structure FrOk (ps bs : List Dt) : Prop where
  pt : ∀ d ∈ ps, PtD d
  bar : ∀ d ∈ bs, BarD ps.length d
  lp : ps.length ≤ 5
  lb : bs.length ≤ 8
theorem FrOk.fitP {ps bs : List Dt} (h : FrOk ps bs) : (listText (Dt.texts ps)).length ≤ sizeLine := by
  refine list_fits (fun d hd => pt_ok (h.pt d hd)) ?_
  have := cnts_le (N := 3) fun d hd => pt_cnt (h.pt d hd)
  have := h.lp
  omega
theorem FrOk.fitB {ps bs : List Dt} (h : FrOk ps bs) : (listText (Dt.texts bs)).length ≤ sizeLine := by
  refine list_fits (fun d hd => bar_ok h.lp (h.bar d hd)) ?_
  have := cnts_le (N := 3) fun d hd => bar_cnt (h.bar d hd)
  have := h.lb
  omega

/-- the text of a frame -/
def frText (ps bs : List Dt) : Str := Str.empty ++ ("Frame(" : Str) ++ listText (Dt.texts ps) ++ (", " : Str) ++ listText (Dt.texts bs) ++ (")" : Str)
def spFrameRepr (CR CF : Addr) : Sp := fun vs H Q _ => ∃ (ps bs : List Dt) (x : V), vs = [x] ∧ FrAt CR CF H ps bs x ∧ FrOk ps bs ∧ ∀ H', Ext H H' → Q (.str (frText ps bs)) H'
def spFrameEq (K : PySem.W.Frag) (CR CF : Addr) : Sp := fun vs H Q _ => ∃ (x y : V), vs = [x, y] ∧
  ((∃ ps bs ps2 bs2, FrAt CR CF H ps bs x ∧ FrAt CR CF H ps2 bs2 y ∧ FrOk ps bs ∧ FrOk ps2 bs2 ∧ ∀ H', Ext H H' → Q (.bl (Dt.sames ps ps2 && Dt.sames bs bs2)) H') ∨
   (∃ t, TyX K H y t ∧ PySem.W.kitOne K t (.ref CF) = some false ∧ Q (.bl false) H))
def spFrameMany (CR CF : Addr) : Sp := fun vs H Q _ => ∃ (ps bs : List Dt) (x : V), vs = [x] ∧ FrAt CR CF H ps bs x ∧ Q (.int ps.length) H
/-- points(), bars(): new lists -/
def spFramePoints (CR CF : Addr) : Sp := fun vs H Q _ => ∃ (ps bs : List Dt) (x : V), vs = [x] ∧ FrAt CR CF H ps bs x ∧ ∀ l xs, H l = none → Iss CR H ps xs → Q (.ref l) (upd H l (.lst xs))
def spFrameBars (CR CF : Addr) : Sp := fun vs H Q _ => ∃ (ps bs : List Dt) (x : V), vs = [x] ∧ FrAt CR CF H ps bs x ∧ ∀ l xs, H l = none → Iss CR H bs xs → Q (.ref l) (upd H l (.lst xs))
def spWantFrame (CR CF : Addr) : Sp := fun vs H Q _ => ∃ (ps bs : List Dt) (x : V), vs = [x] ∧ FrAt CR CF H ps bs x ∧ Q x H

section
variable {P : Program} {w : World} {K : PySem.W.Frag} {mg : Str → Option Value} {base : Heap}
theorem ratRep (T : Tx K mg) {X : Cx} (h1 : X.K = K) (F : FnOk X.prog X.w X.K X.mg X.base CX0 2 T.Ratio_repr.f T.Ratio_repr.fd ["self"] (spRatRepr T.CR)) : RatRep X T.CR 2 := by
  subst h1
  exact ⟨T.Ratio_repr.f, T.Ratio_repr.fd, F, T.Ratio_repr.m.at_, T.Ratio_repr.m.fn, T.Ratio_repr.b⟩
theorem frTy (T : Tx K mg) {H : Hp} {ps bs : List Dt} {x : V} (h : FrAt T.CR T.CF H ps bs x) : TyX K H x (.ref T.CF) := by
  obtain ⟨a, dx, p, b, rfl, e, _⟩ := h
  exact .base (.ins e T.Frame.cl T.Frame.ca T.cn T.ct T.Frame.cm)

theorem ok_want_frame (T : Tx K mg) : FnOk P w K mg base CX0 1 T.want_frame.f T.want_frame.fd ["value"] (spWantFrame T.CR T.CF) := by
  refine T.want_frame.F.ok sc_want_frame (fun vs H Q E h => ?_) (fun cdv A outer s H vs Q E hr h => ?_)
  · obtain ⟨ps, bs, x, rfl, _⟩ := h
    rfl
  · obtain ⟨ps, bs, x, rfl, hx, q⟩ := h
    refine ⟨_, pss_cons (ps_if (pt_not (pt_val (pe_callB call_isi (by rfl) T.z_isinstance PyProof.Rows.boot_isinstance (pa_cons (pv 0) (pa_cons (pe_glob (v := .ref T.CF) (by rfl) T.Frame.g rfl) pa_nil))))) pss_never pss_nil)
      (pss_one (ps_ret (pv 0))), ?_⟩
    exact ⟨_, rfl, _, _, _, _, true, rfl, .own _, frTy T hx, T.kit_fF, true, rfl, iteF ⟨_, rfl, q⟩⟩

theorem ok_frameMany (T : Tx K mg) : FnOk P w K mg base CX0 1 T.Frame_many.f T.Frame_many.fd ["self"] (spFrameMany T.CR T.CF) := by
  refine T.Frame_many.F.ok sc_Frame_many (fun vs H Q E h => ?_) (fun cdv A outer s H vs Q E hr h => ?_)
  · obtain ⟨ps, bs, x, rfl, _⟩ := h
    rfl
  · obtain ⟨ps, bs, x, rfl, ⟨a, dx, p, b, rfl, e, i1, i2⟩, q⟩ := h
    refine ⟨_, pss_one (ps_ret (pe_callB call_len_seq (by rfl) T.z_len PySem.boot_len (pa_cons (pe_fld (pv 0) rfl) pa_nil))), ?_⟩
    obtain ⟨c, xs, rfl, ec, r⟩ := is_tup i1
    refine ⟨_, rfl, a, T.CF, dx, _, _, rfl, e, T.Frame.cl, T.nf_own_points, frF_points _ _, c, xs, rfl, .inr (SqT.of ec), ?_⟩
    rw [r.length] at q
    exact q
theorem ok_framePoints (T : Tx K mg) : FnOk P w K mg base CX0 1 T.Frame_points.f T.Frame_points.fd ["self"] (spFramePoints T.CR T.CF) := by
  refine T.Frame_points.F.ok sc_Frame_points (fun vs H Q E h => ?_) (fun cdv A outer s H vs Q E hr h => ?_)
  · obtain ⟨ps, bs, x, rfl, _⟩ := h
    rfl
  · obtain ⟨ps, bs, x, rfl, ⟨a, dx, p, b, rfl, e, i1, i2⟩, q⟩ := h
    refine ⟨_, pss_one (ps_ret (pe_callTy call_list_of (by rfl) T.z_list PyProof.Rows.boot_list (pa_cons (pe_fld (pv 0) rfl) pa_nil))), ?_⟩
    obtain ⟨c, xs, rfl, ec, r⟩ := is_tup i1
    exact ⟨_, rfl, a, T.CF, dx, _, _, rfl, e, T.Frame.cl, T.nf_own_points, frF_points _ _, c, xs, rfl, .inr (SqT.of ec), fun l nl => q l xs nl r⟩
theorem ok_frameBars (T : Tx K mg) : FnOk P w K mg base CX0 1 T.Frame_bars.f T.Frame_bars.fd ["self"] (spFrameBars T.CR T.CF) := by
  refine T.Frame_bars.F.ok sc_Frame_bars (fun vs H Q E h => ?_) (fun cdv A outer s H vs Q E hr h => ?_)
  · obtain ⟨ps, bs, x, rfl, _⟩ := h
    rfl
  · obtain ⟨ps, bs, x, rfl, ⟨a, dx, p, b, rfl, e, i1, i2⟩, q⟩ := h
    refine ⟨_, pss_one (ps_ret (pe_callTy call_list_of (by rfl) T.z_list PyProof.Rows.boot_list (pa_cons (pe_fld (pv 0) rfl) pa_nil))), ?_⟩
    obtain ⟨c, xs, rfl, ec, r⟩ := is_tup i2
    exact ⟨_, rfl, a, T.CF, dx, _, _, rfl, e, T.Frame.cl, T.nf_own_bars, frF_bars _ _, c, xs, rfl, .inr (SqT.of ec), fun l nl => q l xs nl r⟩

theorem ok_frameEq (T : Tx K mg) : FnOk P w K mg base CX0 4 T.Frame_eq.f T.Frame_eq.fd ["self", "other"] (spFrameEq K T.CR T.CF) := by
  have F1 := ok_ratEq (P := P) (w := w) (base := base) T
  refine T.Frame_eq.F.ok sc_Frame_eq (fun vs H Q E h => ?_) (fun cdv A outer s H vs Q E hr h => ?_)
  · obtain ⟨x, y, rfl, _⟩ := h
    rfl
  · obtain ⟨x, y, rfl, h⟩ := h
    refine ⟨_, pss_cons (ps_if (pt_not (pt_val (pe_callB call_isi (by rfl) T.z_isinstance PyProof.Rows.boot_isinstance (pa_cons (pv 1) (pa_cons (pe_glob (v := .ref T.CF) (by rfl) T.Frame.g rfl) pa_nil))))) (pss_one (ps_ret pe_bl)) pss_nil)
      (pss_one (ps_ret (pe_and (pe_cmpR (op_eqDt (ratEq T rfl F1) 1 hr) (pe_fld (pv 0) rfl) (pe_fld (pv 1) rfl) (nomark _)) (pe_one (pe_cmpR (op_eqDt (ratEq T rfl F1) 1 hr) (pe_fld (pv 0) rfl) (pe_fld (pv 1) rfl) (nomark _)))))), ?_⟩
    rcases h with ⟨ps, bs, ps2, bs2, hx, hy, o1, o2, q⟩ | ⟨t, ty, kt, q⟩
    · refine ⟨_, rfl, _, _, _, _, true, rfl, .own _, frTy T hy, T.kit_fF, true, rfl, iteF ?_⟩
      obtain ⟨a, dx, p, b, rfl, ea, i1, i2⟩ := hx
      obtain ⟨a', dx', p', b', rfl, ea', j1, j2⟩ := hy
      refine ⟨_, rfl, a, T.CF, dx, _, _, rfl, ea, T.Frame.cl, T.nf_own_points, frF_points _ _, _, rfl, a', T.CF, dx', _, _, rfl, ea', T.Frame.cl, T.nf_own_points, frF_points _ _, ps, ps2, .inr ⟨i1, j1⟩, pt_cmps o1.pt o2.pt, hts_le fun d hd => pt_ht (o1.pt d hd), fun H1 x1 => ?_⟩
      refine ⟨_, rfl, ?_⟩
      cases hs : Dt.sames ps ps2 with
      | false =>
        refine iteF ?_
        have z := q H1 x1
        rw [hs] at z
        exact z
      | true =>
        refine iteT ⟨_, rfl, a, T.CF, dx, _, _, rfl, x1 _ _ ea, T.Frame.cl, T.nf_own_bars, frF_bars _ _, _, rfl, a', T.CF, dx', _, _, rfl, x1 _ _ ea', T.Frame.cl, T.nf_own_bars, frF_bars _ _, bs, bs2, .inr ⟨i2.ext x1, j2.ext x1⟩, bar_cmps o1.bar o2.bar, hts_le fun d hd => bar_ht (o1.bar d hd), fun H2 x2 => ?_⟩
        have z := q H2 (x1.trans x2)
        rw [hs] at z
        exact z
    · exact ⟨_, rfl, _, _, _, _, false, rfl, .own _, ty, kt, false, rfl, iteT q⟩

theorem ok_frameRepr (T : Tx K mg) : FnG P w K mg base 7 T.Frame_repr.f T.Frame_repr.fd ["self"] (spFrameRepr T.CR T.CF) := by
  have F1 := ok_ratRepr (P := P) (w := w) (base := base) T
  refine T.Frame_repr.F.okG sc_Frame_repr (fun vs H Q E h => ?_) (fun cdv A outer s H vs Q E hg hr h => ?_)
  · obtain ⟨ps, bs, x, rfl, _⟩ := h
    rfl
  · obtain ⟨ps, bs, x, rfl, ⟨a, dx, p, b, rfl, e, i1, i2⟩, ok, q⟩ := h
    refine ⟨_, pss_one (ps_ret (pe_joined (.cons pe_str (.cons (pe_fmtD (ratRep T rfl F1) 1 hg hr (pe_callTy call_list_of (by rfl) T.z_list PyProof.Rows.boot_list (pa_cons (pe_fld (pv 0) rfl) pa_nil)))
      (.cons pe_str (.cons (pe_fmtD (ratRep T rfl F1) 1 hg hr (pe_callTy call_list_of (by rfl) T.z_list PyProof.Rows.boot_list (pa_cons (pe_fld (pv 0) rfl) pa_nil))) (.cons pe_str .nil))))))), ?_⟩
    obtain ⟨c, xs, rfl, ec, r⟩ := is_tup i1
    obtain ⟨c2, ys, rfl, ec2, r2⟩ := is_tup i2
    have f1 := text_len (.lst ps) (by rw [Dt.ok]; exact oks_of fun d hd => pt_ok (ok.pt d hd))
    have f2 := text_len (.lst bs) (by rw [Dt.ok]; exact oks_of fun d hd => bar_ok ok.lp (ok.bar d hd))
    have c1 := cnts_le (N := 3) fun d hd => pt_cnt (ok.pt d hd)
    have c3 := cnts_le (N := 3) fun d hd => bar_cnt (ok.bar d hd)
    have lp := ok.lp
    have lb := ok.lb
    rw [Dt.text, cnt] at f1 f2
    have l0 : Str.empty.length = 0 := by decide
    have l1 : (("Frame(" : Str)).length = 6 := by decide
    have l2 : ((", " : Str)).length = 2 := by decide
    have l3 : ((")" : Str)).length = 1 := by decide
    have lz : (1000000 : Nat) ≤ sizeLine := by decide
    refine ⟨_, rfl, by rw [strLen_append]; omega, ?_⟩
    refine ⟨_, rfl, a, T.CF, dx, _, _, rfl, e, T.Frame.cl, T.nf_own_points, frF_points _ _, c, xs, rfl, .inr (SqT.of ec), fun l nl => ?_⟩
    have x1 := Ext.upd (o := HO.lst xs) nl
    refine ⟨ps, l, rfl, .lst upd_same (r.ext x1), hts_le fun d hd => pt_ht (ok.pt d hd), oks_of fun d hd => pt_ok (ok.pt d hd), ok.fitP, fun H1 x2 => ?_⟩
    have x3 := x1.trans x2
    refine ⟨_, rfl, by rw [strLen_append, strLen_append]; omega, _, rfl, by rw [strLen_append, strLen_append, strLen_append]; omega, ?_⟩
    refine ⟨_, rfl, a, T.CF, dx, _, _, rfl, x3 _ _ e, T.Frame.cl, T.nf_own_bars, frF_bars _ _, c2, ys, rfl, .inr (SqT.of (x3 _ _ ec2)), fun l2 nl2 => ?_⟩
    have x4 := Ext.upd (o := HO.lst ys) nl2
    refine ⟨bs, l2, rfl, .lst upd_same ((r2.ext x3).ext x4), hts_le fun d hd => bar_ht (ok.bar d hd), oks_of fun d hd => bar_ok ok.lp (ok.bar d hd), ok.fitB, fun H2 x5 => ?_⟩
    refine ⟨_, rfl, by rw [strLen_append, strLen_append, strLen_append, strLen_append]; omega, _, rfl, by rw [strLen_append, strLen_append, strLen_append, strLen_append, strLen_append]; omega, ?_⟩
    exact q H2 ((x3.trans x4).trans x5)
end
end K84

/-! The rows of a frame's table. -/
namespace K84
open PySem PySem.Spec PyProof.Rows L2

/-- a half that is small -/
def Hs : Dt → Prop
  | .rat t b => (-100 ≤ t ∧ t ≤ 100) ∧ Bot b
  | _ => False
def PtS (d : Dt) : Prop := ∃ p q, d = .tup [p, q] ∧ Hs p ∧ Hs q
theorem hs_hf {d : Dt} (h : Hs d) : Hf d := by
  cases d with
  | rat t b => exact ⟨⟨by have := h.1.1; omega, by have := h.1.2; omega⟩, h.2⟩
  | _ => exact h.elim
theorem pts_ptd {d : Dt} (h : PtS d) : PtD d := by
  obtain ⟨p, q, rfl, h1, h2⟩ := h
  exact ⟨p, q, rfl, hs_hf h1, hs_hf h2⟩
def subD : Dt → Dt → Dt
  | .rat t1 b1, .rat t2 b2 => .rat (nT (t1 * b2 - t2 * b1) (b1 * b2)) (nB (t1 * b2 - t2 * b1) (b1 * b2))
  | _, _ => .non
theorem nB_two (t : Int) : Bot (nB t 2) := by
  unfold nB Bot
  have h1 : Nat.gcd t.natAbs (2 : Int).natAbs ≤ 2 := Nat.gcd_le_right _ (by decide)
  have h2 : 0 < Nat.gcd t.natAbs (2 : Int).natAbs := Nat.gcd_pos_of_pos_right _ (by decide)
  have h3 : Nat.gcd t.natAbs (2 : Int).natAbs = 1 ∨ Nat.gcd t.natAbs (2 : Int).natAbs = 2 := by omega
  rcases h3 with e | e <;> rw [e]
  · exact .inr (by decide)
  · exact .inl (by decide)
theorem nB_four (u : Int) : Bot (nB (u * 2) 4) := by
  unfold nB Bot
  have e0 : (u * 2).natAbs = 2 * u.natAbs := by omega
  have e1 : Nat.gcd (u * 2).natAbs (4 : Int).natAbs = 2 * Nat.gcd u.natAbs 2 := by
    rw [e0]
    exact Nat.gcd_mul_left 2 u.natAbs 2
  have h1 : Nat.gcd u.natAbs 2 ≤ 2 := Nat.gcd_le_right _ (by decide)
  have h2 : 0 < Nat.gcd u.natAbs 2 := Nat.gcd_pos_of_pos_right _ (by decide)
  have h3 : Nat.gcd u.natAbs 2 = 1 ∨ Nat.gcd u.natAbs 2 = 2 := by omega
  rw [e1]
  rcases h3 with e | e <;> rw [e]
  · exact .inr (by decide)
  · exact .inl (by decide)
theorem nT_lim {t b : Int} {M : Nat} (h : t.natAbs ≤ M) : (nT t b).natAbs ≤ M := Nat.le_trans (Int.natAbs_ediv_le_natAbs _ _) h
theorem sub_hf {d e : Dt} (h : Hs d) (g : Hs e) : Hf (subD d e) := by
  cases d with
  | rat t1 b1 =>
    cases e with
    | rat t2 b2 =>
      obtain ⟨⟨h1, h2⟩, hb⟩ := h
      obtain ⟨⟨g1, g2⟩, gb⟩ := g
      have lim : ∀ {x y : Int}, x.natAbs ≤ 1000 → (-1000 ≤ nT x y ∧ nT x y ≤ 1000) := fun {x y} h => by
        have := nT_lim (b := y) h
        omega
      rcases hb with rfl | rfl <;> rcases gb with rfl | rfl
      · refine ⟨lim (by omega), ?_⟩
        show Bot (nB _ 1)
        rw [nB_one]
        exact .inl rfl
      · exact ⟨lim (by omega), nB_two _⟩
      · exact ⟨lim (by omega), nB_two _⟩
      · refine ⟨lim (by omega), ?_⟩
        have e : t1 * 2 - t2 * 2 = (t1 - t2) * 2 := by omega
        rw [e]
        exact nB_four _
    | _ => exact g.elim
  | _ => exact h.elim

def xy : Dt → List Dt
  | .tup ds => ds
  | _ => []
/-- the row of a bar, the first k sides done -/
def rowK (n i j : Nat) (near far : List Dt) : Nat → List Dt
  | 0 => List.replicate (2 * n) (.rat 0 1)
  | k + 1 => ((rowK n i j near far k).set (2 * i + k) (subD (near.getD k .non) (far.getD k .non))).set (2 * j + k) (subD (far.getD k .non) (near.getD k .non))
def rowB (ps : List Dt) (i j : Nat) : List Dt := rowK ps.length i j (xy (ps.getD i .non)) (xy (ps.getD j .non)) 2
def rowOfBar (ps : List Dt) : Dt → Dt
  | .tup [.int i, .int j] => .lst (rowB ps i.toNat j.toNat)
  | _ => .non
theorem rowK_len (n i j : Nat) (near far : List Dt) : ∀ k : Nat, (rowK n i j near far k).length = 2 * n
  | 0 => by simp [rowK]
  | k + 1 => by simp [rowK, rowK_len n i j near far k]
theorem rowK_hf {n i j : Nat} {p q p' q' : Dt} (h1 : Hs p) (h2 : Hs q) (h3 : Hs p') (h4 : Hs q') : ∀ k : Nat, k ≤ 2 → AllHf (rowK n i j [p, q] [p', q'] k)
  | 0, _ => fun d hd => by
    rw [rowK] at hd
    rw [List.eq_of_mem_replicate hd]
    exact ⟨by decide, .inl rfl⟩
  | k + 1, hk => fun d hd => by
    rw [rowK] at hd
    have ih := rowK_hf (n := n) (i := i) (j := j) h1 h2 h3 h4 k (by omega)
    have hkk : k = 0 ∨ k = 1 := by omega
    rcases List.mem_or_eq_of_mem_set hd with hd | rfl
    · rcases List.mem_or_eq_of_mem_set hd with hd | rfl
      · exact ih d hd
      · rcases hkk with rfl | rfl
        · exact sub_hf h1 h3
        · exact sub_hf h2 h4
    · rcases hkk with rfl | rfl
      · exact sub_hf h3 h1
      · exact sub_hf h4 h2
theorem rowB_len (ps : List Dt) (i j : Nat) : (rowB ps i j).length = 2 * ps.length := rowK_len ..
theorem pts_at {ps : List Dt} (h : ∀ d ∈ ps, PtS d) {i : Nat} (hi : i < ps.length) : ∃ p q, ps[i]? = some (.tup [p, q]) ∧ ps.getD i .non = .tup [p, q] ∧ Hs p ∧ Hs q := by
  obtain ⟨p, q, e, h1, h2⟩ := h ps[i] (List.getElem_mem hi)
  refine ⟨p, q, ?_, ?_, h1, h2⟩
  · rw [List.getElem?_eq_getElem hi, e]
  · rw [List.getD_eq_getElem?_getD, List.getElem?_eq_getElem hi, e]
    rfl
theorem rowB_hf {ps : List Dt} (h : ∀ d ∈ ps, PtS d) {i j : Nat} (hi : i < ps.length) (hj : j < ps.length) : AllHf (rowB ps i j) := by
  obtain ⟨p, q, _, e1, h1, h2⟩ := pts_at h hi
  obtain ⟨p', q', _, e2, h3, h4⟩ := pts_at h hj
  unfold rowB
  rw [e1, e2]
  exact rowK_hf h1 h2 h3 h4 2 (Nat.le_refl _)

theorem Iss.set {CR : Addr} {H : Hp} {ds : List Dt} {xs : List V} {d : Dt} {x : V} (h : Iss CR H ds xs) (hx : Is CR H d x) : ∀ n : Nat, Iss CR H (ds.set n d) (xs.set n x) := by
  induction ds generalizing xs with
  | nil => cases h; intro n; exact .nil
  | cons e ds ih =>
    cases h with
    | cons h r =>
      intro n
      cases n with
      | zero => exact .cons hx r
      | succ n => exact .cons h (ih r n)
theorem iss_repl {CR : Addr} {H : Hp} {d : Dt} {x : V} (h : Is CR H d x) : ∀ n : Nat, Iss CR H (List.replicate n d) (List.replicate n x)
  | 0 => .nil
  | n + 1 => by rw [List.replicate_succ, List.replicate_succ]; exact .cons h (iss_repl h n)
theorem ixN_at {n k : Nat} (h : k < n) : ixN n (k : Int) = some k := by
  unfold ixN
  rw [if_pos (by omega), if_pos (by omega)]
  rfl

def spBarRow (CR CF : Addr) : Sp := fun vs H Q _ => ∃ (G : Hp) (ps bs : List Dt) (i j : Nat) (x y : V), vs = [x, y] ∧ Ext G H ∧ FrAt CR CF G ps bs x ∧ (∀ d ∈ ps, PtS d) ∧ ps.length ≤ 5 ∧ Is CR G (.tup [.int i, .int j]) y ∧ i < j ∧ j < ps.length ∧
  ∀ G' H' v, Grow G H G' H' → Is CR G' (.lst (rowB ps i j)) v → Q v H'

theorem hs_sm {d : Dt} (h : Hs d) : ∃ t b, d = .rat t b ∧ Sm t b := by
  cases d with
  | rat t b =>
    obtain ⟨⟨h1, h2⟩, h3⟩ := h
    refine ⟨t, b, rfl, ⟨by omega, by omega⟩, ?_⟩
    rcases h3 with rfl | rfl <;> decide
  | _ => exact h.elim

section
variable {P : Program} {w : World} {K : PySem.W.Frag} {mg : Str → Option Value} {base : Heap}
theorem ok_bar_row (T : Tx K mg) : FnOk P w K mg base CX0 5 T.bar_row.f T.bar_row.fd ["frame", "bar"] (spBarRow T.CR T.CF) := by
  have F1 := ok_ratInit (P := P) (w := w) (base := base) T
  have F2 := ok_ratSub (P := P) (w := w) (base := base) T
  obtain ⟨ds, rd, bd⟩ := bR2 T
  refine T.bar_row.F.ok sc_bar_row (fun vs H Q E h => ?_) (fun cdv A outer s H vs Q E hr h => ?_)
  · obtain ⟨G, ps, bs, i, j, x, y, rfl, _⟩ := h
    rfl
  · obtain ⟨G, ps, bs, i, j, x, y, rfl, eg, hx, hps, lp, hy, hij, hj, q⟩ := h
    have nd := sc_bar_row.nd
    refine ⟨_, pss_cons (ps_asg (pv 1) (pg_tup rfl (pgs_cons (pg_name (i := 2) nd rfl (.inl rfl)) (pgs_cons (pg_name (i := 3) nd rfl (.inl rfl)) pgs_nil))))
      (pss_cons (ps_par (i := 4) (j := 5) rfl nd rfl rfl (by decide) rfl rfl (pa_cons (pe_ix ix_tup (pe_fld (pv 0) rfl) (pv 2) (fun _ _ => rfl)) (pa_cons (pe_ix ix_tup (pe_fld (pv 0) rfl) (pv 3) (fun _ _ => rfl)) pa_nil)) (by rfl))
      (pss_cons (ps_set (i := 6) nd rfl (.inl rfl) (pe_op op_rep (pe_lst (pa_cons (pe_make (mkR T) F1 (hr.mono (by decide)) (by rfl) T.Ratio.g bd rd pass0 (pa_cons pe_int pa_nil)) pa_nil))
          (pe_op op_mul pe_int (pe_callB call_len_seq (by rfl) T.z_len PySem.boot_len (pa_cons (pe_fld (pv 0) rfl) pa_nil)))))
      (pss_cons (ps_for PassesOwn.never rfl (pi_range1 (by rfl) T.z_range (pa_cons pe_int pa_nil)) (pg_name (i := 7) nd rfl (.inl rfl))
        (pss_cons (ps_asg (pe_op (op_subC F2 T.Ratio_sub.m.at_ T.Ratio_sub.m.fn T.Ratio_sub.b T.sfR hr) (pe_ix ix_tup (pv 4) (pv 7) (fun _ _ => rfl)) (pe_ix ix_tup (pv 5) (pv 7) (fun _ _ => rfl)))
            (pg_sub (pv 6) (pe_op op_add (pe_op op_mul pe_int (pv 2)) (pv 7)) set_list))
        (pss_one (ps_asg (pe_op (op_subC F2 T.Ratio_sub.m.at_ T.Ratio_sub.m.fn T.Ratio_sub.b T.sfR hr) (pe_ix ix_tup (pv 5) (pv 7) (fun _ _ => rfl)) (pe_ix ix_tup (pv 4) (pv 7) (fun _ _ => rfl)))
            (pg_sub (pv 6) (pe_op op_add (pe_op op_mul pe_int (pv 3)) (pv 7)) set_list)))))
      (pss_one (ps_ret (pv 6)))))), ?_⟩
    -- first, second = bar
    obtain ⟨c, u1, u2, rfl, ec, j1, j2⟩ := is_tup2 hy
    cases j1
    cases j2
    refine ⟨_, rfl, c, _, rfl, SqT.of (eg _ _ ec), rfl, _, _, rfl, _, _, rfl, rfl, ?_⟩
    -- near, far
    obtain ⟨a, dx, pp, pb, rfl, ea, i1, i2⟩ := hx
    obtain ⟨b, xs, rfl, eb, r⟩ := is_tup i1
    have lx := r.length
    obtain ⟨p, q1, g1, e1, s1, s2⟩ := pts_at hps (show i < ps.length by omega)
    obtain ⟨p', q1', g2, e2, s3, s4⟩ := pts_at hps hj
    obtain ⟨nv, gn, isn⟩ := r.getD g1
    obtain ⟨fv, gf, isf⟩ := r.getD g2
    obtain ⟨na, n0, n1, rfl, ena, in0, in1⟩ := is_tup2 isn
    obtain ⟨fa, f0, f1, rfl, efa, if0, if1⟩ := is_tup2 isf
    refine ⟨_, rfl, a, T.CF, dx, _, _, rfl, eg _ _ ea, T.Frame.cl, T.nf_own_points, frF_points _ _, _, rfl, b, xs, _, _, rfl, rfl, SqT.of (eg _ _ eb), atI_nat gn, ?_⟩
    refine ⟨_, rfl, a, T.CF, dx, _, _, rfl, eg _ _ ea, T.Frame.cl, T.nf_own_points, frF_points _ _, _, rfl, b, xs, _, _, rfl, rfl, SqT.of (eg _ _ eb), atI_nat gf, ?_⟩
    refine ⟨_, _, rfl, ?_⟩
    -- row
    intro z dz nz ndz nez
    refine ⟨z, dz, 0, 1, rfl, upd_same, by decide, by decide, rfl, ?_⟩
    rw [nT_one, nB_one]
    obtain ⟨gr1, iz⟩ := Gr.rat (CR := T.CR) (t := 0) (b := 1) (Gr.refl (M := noM) eg) nz ndz nez
    refine ⟨(by show 1 ≤ sizeLine; decide), fun l0 nl0 => ?_⟩
    have gr2 := gr1.lay (o := .lst [V.ref z]) nl0
    have ex2 := gr2.toExt
    refine ⟨_, rfl, a, T.CF, dx, _, _, rfl, ex2 _ _ (eg _ _ ea), T.Frame.cl, T.nf_own_points, frF_points _ _, b, xs, rfl, .inr (SqT.of (ex2 _ _ (eg _ _ eb))), _, _, rfl, rfl, .inl ⟨by decide, by decide⟩, ?_⟩
    refine ⟨l0, _, [V.ref z], rfl, rfl, upd_same, by omega, by omega, ?_, fun l nl => ?_⟩
    · have : (100 : Nat) ≤ sizeLine := by decide
      rw [List.length_singleton]
      omega
    have ek : ((2 : Int) * (xs.length : Int)).toNat = 2 * ps.length := by omega
    rw [ek, List.flatten_replicate_singleton]
    have gr3 := gr2.lay (o := .lst (List.replicate (2 * ps.length) (V.ref z))) nl
    have hl0 : H l = none := gr2.al l nl
    have gl : (upd G z (.ins T.CR dz (ratF 0 1))) l = none := gr2.gh.none_of nl
    refine ⟨2, rfl, by decide, by decide, ?_⟩
    refine for_range (n := 2) (fun k σ H' => ∃ y G2 acc, σ = [some (V.ref a), some (.ref c), some (.int i), some (.int j), some (.ref na), some (.ref fa), some (.ref l), y] ∧
      Grow G H G2 H' ∧ G2 l = none ∧ H' l = some (.lst acc) ∧ Iss T.CR G2 (rowK ps.length i j [p, q1] [p', q1'] k) acc)
      ⟨_, _, _, rfl, gr3, gl, upd_same, iss_repl iz _⟩ (fun k σ H' hk hw => ?_) (fun σ H' hw => ?_)
    · obtain ⟨y, G2, acc, rfl, gr, g2l, hl, iss⟩ := hw
      have ez : (0 : Int) + (k : Int) = (k : Int) := Int.zero_add _
      -- the two numbers at the side k
      obtain ⟨nu, fu, dn, df, an, af, hsn, hsf, isn', isf', en, ef⟩ : ∃ (nu fu : V) (dn df : Dt), atI [n0, n1] (0 + (k : Int)) = some nu ∧ atI [f0, f1] (0 + (k : Int)) = some fu ∧ Hs dn ∧ Hs df ∧ Is T.CR G dn nu ∧ Is T.CR G df fu ∧
          ([p, q1].getD k .non) = dn ∧ ([p', q1'].getD k .non) = df := by
        have hkk : k = 0 ∨ k = 1 := by omega
        rcases hkk with rfl | rfl
        · exact ⟨n0, f0, p, p', atI_nat (j := 0) rfl, atI_nat (j := 0) rfl, s1, s3, in0, if0, rfl, rfl⟩
        · exact ⟨n1, f1, q1, q1', atI_nat (j := 1) rfl, atI_nat (j := 1) rfl, s2, s4, in1, if1, rfl, rfl⟩
      obtain ⟨t1, b1, rfl, sm1⟩ := hs_sm hsn
      obtain ⟨t2, b2, rfl, sm2⟩ := hs_sm hsf
      obtain ⟨a1, d1, rfl, ea1⟩ := is_rat isn'
      obtain ⟨a2, d2, rfl, ea2⟩ := is_rat isf'
      have up : ∀ {q : Addr} {o : HO}, G q = some o → H' q = some o := fun h => gr.gh _ _ (gr.gg _ _ h)
      have la := iss.length
      rw [rowK_len] at la
      refine ⟨_, rfl, _, rfl, na, _, _, _, rfl, rfl, SqT.of (up ena), an, _, rfl, _, rfl, fa, _, _, _, rfl, rfl, SqT.of (up efa), af, ?_⟩
      refine ⟨a1, a2, d1, d2, _, _, rfl, rfl, up ea1, up ea2, G2, _, _, t1, b1, t2, b2, rfl, gr.gh, isn'.ext gr.gg, isf'.ext gr.gg, sm1, sm2, fun G3 H3 v3 g3 h3 => ?_⟩
      have hl3 := g3.get hl
      have nl3 : G3 l = none := g3.off (by rw [hl]; simp) g2l
      refine ⟨_, rfl, _, rfl, _, _, rfl, rfl, .inl ⟨by decide, by decide⟩, _, rfl, _, _, rfl, rfl, ?_⟩
      have k1 : ((2 : Int) * (i : Int) + (0 + (k : Int))) = ((2 * i + k : Nat) : Int) := by omega
      refine ⟨l, acc, _, 2 * i + k, rfl, rfl, hl3, by rw [k1]; exact ixN_at (by omega), ?_⟩
      have gr4 : Grow G H G3 (upd H3 l (.lst (acc.set (2 * i + k) v3))) := (gr.trans g3).mut (.inl hl0) nl3
      have iss4 := Iss.set (iss.ext g3.gg) h3 (2 * i + k)
      have up4 : ∀ {q : Addr} {o : HO}, G q = some o → (upd H3 l (.lst (acc.set (2 * i + k) v3))) q = some o := fun h => gr4.gh _ _ (gr4.gg _ _ h)
      refine ⟨_, rfl, _, rfl, fa, _, _, _, rfl, rfl, SqT.of (up4 efa), af, _, rfl, _, rfl, na, _, _, _, rfl, rfl, SqT.of (up4 ena), an, ?_⟩
      refine ⟨a2, a1, d2, d1, _, _, rfl, rfl, up4 ea2, up4 ea1, G3, _, _, t2, b2, t1, b1, rfl, gr4.gh, isf'.ext gr4.gg, isn'.ext gr4.gg, sm2, sm1, fun G5 H5 v5 g5 h5 => ?_⟩
      have hl5 := g5.get (l := l) upd_same
      have nl5 : G5 l = none := g5.off (by rw [upd_same]; simp) nl3
      refine ⟨_, rfl, _, rfl, _, _, rfl, rfl, .inl ⟨by decide, by decide⟩, _, rfl, _, _, rfl, rfl, ?_⟩
      have k2 : ((2 : Int) * (j : Int) + (0 + (k : Int))) = ((2 * j + k : Nat) : Int) := by omega
      refine ⟨l, _, _, 2 * j + k, rfl, rfl, hl5, by rw [k2, List.length_set]; exact ixN_at (by omega), ?_⟩
      refine ⟨_, G5, _, rfl, (gr4.trans g5).mut (.inl hl0) nl5, nl5, upd_same, ?_⟩
      have iss6 := Iss.set (iss4.ext g5.gg) h5 (2 * j + k)
      rw [rowK, en, ef]
      exact iss6
    · obtain ⟨y, G2, acc, rfl, gr, g2l, hl, iss⟩ := hw
      refine ⟨_, rfl, ?_⟩
      refine q _ _ _ (gr.freeze hl0 hl g2l) (.lst upd_same ?_)
      have er : rowB ps i j = rowK ps.length i j [p, q1] [p', q1'] 2 := by
        unfold rowB
        rw [e1, e2]
        rfl
      rw [er]
      exact iss.ext (Ext.upd g2l)
end
end K84

/-! The table of a frame, and its pairs. -/
namespace K84
open PySem PySem.Spec PyProof.Rows L2

/-- a frame's data, small -/
structure FrS (ps bs : List Dt) : Prop where
  pt : ∀ d ∈ ps, PtS d
  bar : ∀ d ∈ bs, BarD ps.length d
  lp : ps.length ≤ 5
  lb : bs.length ≤ 8
theorem FrS.ok {ps bs : List Dt} (h : FrS ps bs) : FrOk ps bs := ⟨fun d hd => pts_ptd (h.pt d hd), h.bar, h.lp, h.lb⟩
/-- the table -/
def tableD (ps bs : List Dt) : List Dt := bs.map (rowOfBar ps)
def cellD (c : Nat) : Dt → Dt
  | .lst ds => ds.getD c .non
  | _ => .non
/-- the pair of columns of the c-th point -/
def colD (rows : List Dt) (c : Nat) : Dt := .tup [.lst (rows.map (cellD (2 * c))), .lst (rows.map (cellD (2 * c + 1)))]
def colsD (n : Nat) (rows : List Dt) : List Dt := (List.range n).map (colD rows)
/-- a row of the table -/
def TabRow (n : Nat) (d : Dt) : Prop := ∃ ds, d = .lst ds ∧ ds.length = 2 * n ∧ AllHf ds
theorem row_of_bar {ps : List Dt} (h : ∀ d ∈ ps, PtS d) {d : Dt} (hd : BarD ps.length d) : TabRow ps.length (rowOfBar ps d) := by
  obtain ⟨i, j, rfl, hij, hj⟩ := hd
  exact ⟨rowB ps i j, by simp [rowOfBar], rowB_len .., rowB_hf h (by omega) hj⟩
theorem FrS.rows {ps bs : List Dt} (h : FrS ps bs) : ∀ r ∈ tableD ps bs, TabRow ps.length r := by
  intro r hr
  obtain ⟨d, hd, rfl⟩ := List.mem_map.mp hr
  exact row_of_bar h.pt (h.bar d hd)
theorem cell_hf {n c : Nat} {d : Dt} (h : TabRow n d) (hc : c < 2 * n) : Hf (cellD c d) := by
  obtain ⟨ds, rfl, hl, hf⟩ := h
  have hc' : c < ds.length := by omega
  rw [cellD, List.getD_eq_getElem?_getD, List.getElem?_eq_getElem hc']
  exact hf _ (List.getElem_mem hc')
theorem col_pair {n c : Nat} {rows : List Dt} (h : ∀ r ∈ rows, TabRow n r) (hc : c < n) : PairD rows.length (colD rows c) := by
  refine ⟨_, _, rfl, by simp, by simp, fun d hd => ?_, fun d hd => ?_⟩
  · obtain ⟨r, hr, rfl⟩ := List.mem_map.mp hd
    exact cell_hf (h r hr) (by omega)
  · obtain ⟨r, hr, rfl⟩ := List.mem_map.mp hd
    exact cell_hf (h r hr) (by omega)
theorem cols_pair {n : Nat} {rows : List Dt} (h : ∀ r ∈ rows, TabRow n r) : ∀ d ∈ colsD n rows, PairD rows.length d := by
  intro d hd
  obtain ⟨c, hc, rfl⟩ := List.mem_map.mp hd
  exact col_pair h (List.mem_range.mp hc)
theorem cols_len (n : Nat) (rows : List Dt) : (colsD n rows).length = n := by simp [colsD]

def spTable (CR CF : Addr) : Sp := fun vs H Q _ => ∃ (G : Hp) (ps bs : List Dt) (x : V), vs = [x] ∧ Ext G H ∧ FrAt CR CF G ps bs x ∧ FrS ps bs ∧ ∀ G' H' v, Grow G H G' H' → Is CR G' (.lst (tableD ps bs)) v → Q v H'
def spFramePairs (CR CP CF : Addr) : Sp := fun vs H Q _ => ∃ (G : Hp) (ps bs : List Dt) (x : V), vs = [x] ∧ Ext G H ∧ FrAt CR CF G ps bs x ∧ FrS ps bs ∧
  ∀ G' H' v, Grow G H G' H' → PrAt CR CP G' bs.length (colsD ps.length (tableD ps bs)) v → Q v H'

section
variable {P : Program} {w : World} {K : PySem.W.Frag} {mg : Str → Option Value} {base : Heap}
theorem ok_table_of (T : Tx K mg) : FnOk P w K mg base CX0 6 T.table_of.f T.table_of.fd ["frame"] (spTable T.CR T.CF) := by
  have F1 := ok_bar_row (P := P) (w := w) (base := base) T
  refine T.table_of.F.ok sc_table_of (fun vs H Q E h => ?_) (fun cdv A outer s H vs Q E hr h => ?_)
  · obtain ⟨G, ps, bs, x, rfl, _⟩ := h
    rfl
  · obtain ⟨G, ps, bs, x, rfl, eg, hx, hs, q⟩ := h
    have nd := sc_table_of.nd
    refine ⟨_, pss_one (ps_ret (pe_lc (own := [("bar", 1)]) (g := gName 1) (tt := tYes) rfl nd (pi_tup (pe_fld (pv 0) rfl))
            (blkOk_by (own := [("bar", 1)]) (N := ["frame", "bar"]) (sc := defScope s_table_of) (by decide +kernel)) (fun _ _ _ _ _ => pg_name (i := 1) nd rfl (.inl rfl)) (fun _ _ _ _ _ => pts_nil)
            (fun _ _ _ _ _ => pe_call F1 hr (by rfl) T.bar_row.g T.bar_row.F.kp T.bar_row.b .nil pass0 (pa_cons (pv 0) (pa_cons (pv 1) pa_nil))))), ?_⟩
    obtain ⟨a, dx, pp, pb, ex, ea, i1, i2⟩ := id hx
    subst ex
    obtain ⟨b, xs, rfl, eb, r⟩ := is_tup i2
    refine ⟨_, rfl, a, T.CF, dx, _, _, rfl, eg _ _ ea, T.Frame.cl, T.nf_own_bars, frF_bars _ _, b, rfl, ⟨_, SqT.of (eg _ _ eb)⟩, fun D nD => ?_⟩
    refine lc_dataT (CR := T.CR) (M := noM) (G1 := G) (xs := xs) (es := tableD ps bs) noM_none eg nD (srcT (eg _ _ eb) (fun z => z)) (by simp [tableD, r.length]) (by simp [tableD]; have := hs.lb; omega) (fun m x' e' G2 H2 Q2 hx' he gr k => ?_) (fun G2 H2 gr hD => q _ _ _ gr hD)
    obtain ⟨d, hd, isd⟩ := r.get hx'
    have ee : e' = rowOfBar ps d := by
      rw [tableD, List.getElem?_map, hd] at he
      exact (Option.some.inj he).symm
    subst ee
    obtain ⟨i, j, rfl, hij, hj⟩ := hs.bar d (List.mem_of_getElem? hd)
    refine ⟨rfl, _, rfl, _, rfl, G2, ps, bs, i, j, .ref a, x', rfl, gr.gh, hx.ext gr.gg, hs.pt, hs.lp, isd.ext gr.gg, hij, hj, fun G3 H3 v g3 h3 => k _ _ _ g3 ?_⟩
    rw [rowOfBar]
    exact h3

theorem ok_bar_table (T : Tx K mg) : FnOk P w K mg base CX0 7 T.bar_table.f T.bar_table.fd ["frame"] (spTable T.CR T.CF) := by
  have F1 := ok_table_of (P := P) (w := w) (base := base) T
  have F2 := ok_want_frame (P := P) (w := w) (base := base) T
  refine T.bar_table.F.ok sc_bar_table (fun vs H Q E h => ?_) (fun cdv A outer s H vs Q E hr h => ?_)
  · obtain ⟨G, ps, bs, x, rfl, _⟩ := h
    rfl
  · obtain ⟨G, ps, bs, x, rfl, eg, hx, hs, q⟩ := h
    refine ⟨_, pss_one (ps_ret (pe_call F1 hr (by rfl) T.table_of.g T.table_of.F.kp T.table_of.b .nil pass0 (pa_cons (pe_call F2 (hr.mono (by decide)) (by rfl) T.want_frame.g T.want_frame.F.kp T.want_frame.b .nil pass0 (pa_cons (pv 0) pa_nil)) pa_nil))), ?_⟩
    exact ⟨_, rfl, ps, bs, x, rfl, hx.ext eg, G, ps, bs, x, rfl, eg, hx, hs, q⟩

theorem ok_pairs_of_frame (T : Tx K mg) : FnOk P w K mg base CX0 9 T.pairs_of_frame.f T.pairs_of_frame.fd ["frame"] (spFramePairs T.CR T.CP T.CF) := by
  have F1 := ok_table_of (P := P) (w := w) (base := base) T
  have F2 := ok_pairsInit (P := P) (w := w) (base := base) T
  refine T.pairs_of_frame.F.ok sc_pairs_of_frame (fun vs H Q E h => ?_) (fun cdv A outer s H vs Q E hr h => ?_)
  · obtain ⟨G, ps, bs, x, rfl, _⟩ := h
    rfl
  · obtain ⟨G, ps, bs, x, rfl, eg, hx, hs, q⟩ := h
    have nd := sc_pairs_of_frame.nd
    refine ⟨_, pss_cons (ps_par (i := 1) (j := 2) rfl nd rfl rfl (by decide) rfl rfl (pa_cons (pe_call F1 (hr.mono (by decide)) (by rfl) T.table_of.g T.table_of.F.kp T.table_of.b .nil pass0 (pa_cons (pv 0) pa_nil)) (pa_cons (pe_lst pa_nil) pa_nil)) (by rfl))
      (pss_cons (ps_for PassesOwn.never rfl (pi_range1 (by rfl) T.z_range (pa_cons (pe_callB call_len_seq (by rfl) T.z_len PySem.boot_len (pa_cons (pe_fld (pv 0) rfl) pa_nil)) pa_nil)) (pg_name (i := 3) nd rfl (.inr rfl))
        (pss_one (ps_expr (pe_bm PySem.F.plainAttrs_list PySem.F.slot_list_append PySem.F.type_list_append mt_append (pv 2) (pa_cons (pe_tup
          (pa_cons (pe_lc (own := [("row", 4)]) (g := gName 4) (tt := tYes) rfl nd (pi_list (pv 1))
            (blkOk_by (own := [("row", 4)]) (N := ["frame", "table", "found", "point", "row"]) (sc := defScope s_pairs_of_frame) (by decide +kernel)) (fun _ _ _ _ _ => pg_name (i := 4) nd rfl (.inl rfl)) (fun _ _ _ _ _ => pts_nil)
            (fun _ _ _ _ _ => pe_ix (ix_listK (K := K) rfl) (pv 4) (pe_op op_mul pe_int (pv 3)) (fun _ _ => rfl)))
          (pa_cons (pe_lc (own := [("row", 4)]) (g := gName 4) (tt := tYes) rfl nd (pi_list (pv 1))
            (blkOk_by (own := [("row", 4)]) (N := ["frame", "table", "found", "point", "row"]) (sc := defScope s_pairs_of_frame) (by decide +kernel)) (fun _ _ _ _ _ => pg_name (i := 4) nd rfl (.inl rfl)) (fun _ _ _ _ _ => pts_nil)
            (fun _ _ _ _ _ => pe_ix (ix_listK (K := K) rfl) (pv 4) (pe_op op_add (pe_op op_mul pe_int (pv 3)) pe_int) (fun _ _ => rfl))) pa_nil))) pa_nil)))))
      (pss_one (ps_ret (pe_make (mkP T) F2 hr (by rfl) T.Pairs.g (bP3 T) .nil pass0 (pa_cons (pe_callB call_len_seq (by rfl) T.z_len PySem.boot_len (pa_cons (pv 1) pa_nil)) (pa_cons (pv 2) pa_nil)))))), ?_⟩
    refine ⟨_, rfl, G, ps, bs, x, rfl, eg, hx, hs, fun G1 H1 v g1 h1 => ?_⟩
    obtain ⟨t, rows, rfl, et, rt⟩ := is_lst h1
    have lt := rt.length
    have lb : rows.length = bs.length := by rw [← lt]; simp [tableD]
    refine ⟨Nat.zero_le _, fun l nl => ?_⟩
    have g2 := g1.lay (o := .lst []) nl
    have hl0 : H l = none := g1.al l nl
    have gl1 : G1 l = none := g1.gh.none_of nl
    refine ⟨_, _, rfl, ?_⟩
    -- for point in range(len(frame.own_points))
    obtain ⟨a, dx, pp, pb, rfl, ea, i1, i2⟩ := hx
    obtain ⟨b, xs, rfl, eb, r⟩ := is_tup i1
    have lx := r.length
    have lp := hs.lp
    have lbb := hs.lb
    have x2 := g2.toExt
    refine ⟨_, rfl, a, T.CF, dx, _, _, rfl, x2 _ _ (eg _ _ ea), T.Frame.cl, T.nf_own_points, frF_points _ _, b, xs, rfl, .inr (SqT.of (x2 _ _ (eg _ _ eb))), _, rfl, by omega, by omega, ?_⟩
    have ez : ((xs.length : Nat) : Int).toNat = ps.length := by omega
    rw [ez]
    refine for_range (n := ps.length) (fun k σ H' => ∃ y z G2 acc, σ = [some (V.ref a), some (.ref t), some (.ref l), y, z] ∧
      Grow G H G2 H' ∧ Ext G1 G2 ∧ G2 l = none ∧ H' l = some (.lst acc) ∧ Iss T.CR G2 ((colsD ps.length (tableD ps bs)).take k) acc ∧ acc.length = k)
      ⟨_, _, _, _, rfl, g2, Ext.rfl', gl1, upd_same, .nil, rfl⟩ (fun k σ H' hk hw => ?_) (fun σ H' hw => ?_)
    · obtain ⟨y, z, G2, acc, rfl, gr, xg, g2l, hl, iss, hacc⟩ := hw
      have up : ∀ {G3 H3 : Hp}, Grow G2 H' G3 H3 → ∀ {q : Addr} {o : HO}, G1 q = some o → H3 q = some o := by intro G3 H3 g q o h; exact g.gh _ _ (g.gg _ _ (xg _ _ h))
      refine ⟨_, rfl, .inl ⟨rfl, _, SqL.of hl⟩, ?_⟩
      -- the first column
      refine ⟨_, rfl, t, rfl, ⟨_, SqL.of (up (Gr.refl gr.gh) et)⟩, fun D1 nD1 => ?_⟩
      refine lc_dataL (CR := T.CR) (M := noM) (G1 := G2) (xs := rows) (es := (tableD ps bs).map (cellD (2 * k))) noM_none gr.gh nD1 (srcL (up (Gr.refl gr.gh) et) (fun z => z)) (by simp [lt]) (by simp [tableD]; omega) (fun m x' e' G3 H3 Q3 hx' he g3 kk => ?_) (fun G3 H3 g3 hD1 => ?_)
      · obtain ⟨d, hd, isd⟩ := rt.get hx'
        have ee : e' = cellD (2 * k) d := by
          rw [List.getElem?_map, hd] at he
          exact (Option.some.inj he).symm
        subst ee
        obtain ⟨ds, rfl, hds, hf⟩ := hs.rows d (List.mem_of_getElem? hd)
        obtain ⟨c, ys, rfl, ec, rc⟩ := is_lst isd
        have hc : 2 * k < ds.length := by omega
        obtain ⟨u, hu, isu⟩ := rc.getD (List.getElem?_eq_getElem hc)
        have ec3 := up g3 ec
        refine ⟨rfl, _, rfl, _, rfl, _, _, rfl, rfl, .inl ⟨by decide, by decide⟩, c, ys, _, u, rfl, rfl, SqL.of ec3, ?_, ?_⟩
        · have k1 : ((2 : Int) * (0 + (k : Int))) = ((2 * k : Nat) : Int) := by omega
          rw [k1]
          exact atI_nat hu
        · have ed : cellD (2 * k) (.lst ds) = ds[2 * k] := by rw [cellD, List.getD_eq_getElem?_getD, List.getElem?_eq_getElem hc]; rfl
          rw [ed] at kk
          exact kk _ _ _ (Gr.refl g3.gh) ((isu.ext xg).ext g3.gg)
      -- the second one
      refine ⟨_, rfl, t, rfl, ⟨_, SqL.of (up g3 et)⟩, fun D2 nD2 => ?_⟩
      refine lc_dataL (CR := T.CR) (M := noM) (G1 := G3) (xs := rows) (es := (tableD ps bs).map (cellD (2 * k + 1))) noM_none g3.gh nD2 (srcL (up g3 et) (fun z => z)) (by simp [lt]) (by simp [tableD]; omega) (fun m x' e' G4 H4 Q3 hx' he g4 kk => ?_) (fun G4 H4 g4 hD2 => ?_)
      · obtain ⟨d, hd, isd⟩ := rt.get hx'
        have ee : e' = cellD (2 * k + 1) d := by
          rw [List.getElem?_map, hd] at he
          exact (Option.some.inj he).symm
        subst ee
        obtain ⟨ds, rfl, hds, hf⟩ := hs.rows d (List.mem_of_getElem? hd)
        obtain ⟨c, ys, rfl, ec, rc⟩ := is_lst isd
        have hc : 2 * k + 1 < ds.length := by omega
        obtain ⟨u, hu, isu⟩ := rc.getD (List.getElem?_eq_getElem hc)
        have ec3 := up (g3.trans g4) ec
        refine ⟨rfl, _, rfl, _, rfl, _, _, rfl, rfl, .inl ⟨by decide, by decide⟩, _, _, rfl, rfl, c, ys, _, u, rfl, rfl, SqL.of ec3, ?_, ?_⟩
        · have k1 : ((2 : Int) * (0 + (k : Int)) + 1) = ((2 * k + 1 : Nat) : Int) := by omega
          rw [k1]
          exact atI_nat hu
        · have ed : cellD (2 * k + 1) (.lst ds) = ds[2 * k + 1] := by rw [cellD, List.getD_eq_getElem?_getD, List.getElem?_eq_getElem hc]; rfl
          rw [ed] at kk
          exact kk _ _ _ (Gr.refl g4.gh) (((isu.ext xg).ext g3.gg).ext g4.gg)
      refine ⟨(by show 2 ≤ sizeLine; decide), fun u nu => ?_⟩
      have g5 := (g3.trans g4).new (o := .tup [.ref D1, .ref D2]) nu
      have hl5 := g5.get hl
      have nl5 := g5.off (l := l) (by rw [hl]; simp) g2l
      have xu := Ext.upd (o := HO.tup [V.ref D1, .ref D2]) (g4.gh.none_of nu)
      refine ⟨l, acc, _, rfl, rfl, hl5, ?_, ?_⟩
      · have : (100 : Nat) < sizeLine := by decide
        omega
      refine ⟨_, _, _, _, rfl, (gr.trans g5).mut (.inl hl0) nl5, xg.trans g5.gg, nl5, upd_same, ?_, by rw [List.length_append, hacc]; rfl⟩
      have hk' : (colsD ps.length (tableD ps bs))[k]? = some (colD (tableD ps bs) k) := by
        rw [colsD, List.getElem?_map, List.getElem?_range hk]
        rfl
      rw [List.take_add_one, hk']
      exact (iss.ext g5.gg).append (.cons (.tup upd_same (.cons ((hD1.ext g4.gg).ext xu) (.cons (hD2.ext xu) .nil))) .nil)
    · obtain ⟨y, z, G2, acc, rfl, gr, xg, g2l, hl, iss, hacc⟩ := hw
      have lc := cols_len ps.length (tableD ps bs)
      rw [List.take_of_length_le (by omega)] at iss
      have g3 := gr.freeze hl0 hl g2l
      have x3 := Ext.upd (o := HO.lst acc) g2l
      refine ⟨_, rfl, t, rows, rfl, .inl (SqL.of (g3.gh _ _ (x3 _ _ (xg _ _ et)))), ?_⟩
      refine ⟨_, rfl, fun p dp np ndp nep => ?_⟩
      have np2 : (upd G2 l (.lst acc)) p = none := g3.gh.none_of np
      have nq : (upd H' dp (.own p)) p = none := by rw [upd_ne nep.symm]; exact np
      refine ⟨upd G2 l (.lst acc), p, dp, bs.length, colsD ps.length (tableD ps bs), .ref l, by rw [lb]; rfl, ((g3.lay ndp).lay nq).gh, np2, upd_same, .lst upd_same (iss.ext x3), ?_, hs.lb, by omega, fun G5 H5 r5 z5 g5 n5 h5 e5 => ⟨rfl, ?_⟩⟩
      · have h := cols_pair hs.rows
        have e : (tableD ps bs).length = bs.length := by simp [tableD]
        rw [e] at h
        exact h
      · refine q _ _ _ (Gr.made g3 np ndp nep g5 e5 n5) ⟨p, dp, r5, z5, rfl, upd_same, h5.ext (Ext.upd n5)⟩

theorem ok_frame_pairs (T : Tx K mg) : FnOk P w K mg base CX0 10 T.frame_pairs.f T.frame_pairs.fd ["frame"] (spFramePairs T.CR T.CP T.CF) := by
  have F1 := ok_pairs_of_frame (P := P) (w := w) (base := base) T
  have F2 := ok_want_frame (P := P) (w := w) (base := base) T
  refine T.frame_pairs.F.ok sc_frame_pairs (fun vs H Q E h => ?_) (fun cdv A outer s H vs Q E hr h => ?_)
  · obtain ⟨G, ps, bs, x, rfl, _⟩ := h
    rfl
  · obtain ⟨G, ps, bs, x, rfl, eg, hx, hs, q⟩ := h
    refine ⟨_, pss_one (ps_ret (pe_call F1 hr (by rfl) T.pairs_of_frame.g T.pairs_of_frame.F.kp T.pairs_of_frame.b .nil pass0 (pa_cons (pe_call F2 (hr.mono (by decide)) (by rfl) T.want_frame.g T.want_frame.F.kp T.want_frame.b .nil pass0 (pa_cons (pv 0) pa_nil)) pa_nil))), ?_⟩
    exact ⟨_, rfl, ps, bs, x, rfl, hx.ext eg, G, ps, bs, x, rfl, eg, hx, hs, q⟩
end
end K84

/-! The law's small defs: the pot, draws, halves. -/
namespace K84
open PySem PySem.Spec PyProof.Rows L2

/-- the pot of digits at p -/
def PotAt (H : Hp) (p : Addr) : Prop := ∃ b c : Int, H p = some (.lst [.int b, .int c]) ∧ 0 ≤ b ∧ 0 ≤ c ∧ c < 2147483600
/-- what drawing may change -/
def atP (p : Addr) : Addr → Prop := fun q => q = p
def spPot (K : PySem.W.Frag) : Sp := fun vs H Q _ => ∃ (a : Addr) (ns : List Int), vs = [.ref a, .int 0] ∧ SqL K H a (ns.map V.int) ∧ ns.length ≤ 63 ∧
  ∀ l b c, H l = none → 0 ≤ b → 0 ≤ c → c < 2147483600 → Q (.ref l) (upd H l (.lst [.int b, .int c]))
def spDraw : Sp := fun vs H Q _ => ∃ (G : Hp) (p : Addr) (m : Int), vs = [.ref p, .int m] ∧ Ext G H ∧ G p = none ∧ PotAt H p ∧ 1 ≤ m ∧ m ≤ 1000 ∧
  ∀ H' d, Gr (atP p) G H G H' → PotAt H' p → 0 ≤ d → d < m → Q (.int d) H'
def spPick (CR : Addr) : Sp := fun vs H Q _ => ∃ (G : Hp) (p : Addr) (ds : List Dt) (x : V), vs = [.ref p, x] ∧ Ext G H ∧ G p = none ∧ PotAt H p ∧ Is CR G (.lst ds) x ∧ ds ≠ [] ∧ ds.length ≤ 1000 ∧
  ∀ H' d v, Gr (atP p) G H G H' → PotAt H' p → d ∈ ds → Is CR G d v → Q v H'
def spHalves (CR : Addr) : Sp := fun vs H Q _ => ∃ (G : Hp) (n : Int), vs = [.int n] ∧ Ext G H ∧ ∀ G' H' v, Grow G H G' H' → Is CR G' (.rat (nT n 2) (nB n 2)) v → Q v H'

section
variable {P : Program} {w : World} {K : PySem.W.Frag} {mg : Str → Option Value} {base : Heap}

theorem ok_pot (T : Tx K mg) : FnOk P w K mg base CX0 1 T.l_pot.f T.l_pot.fd ["_law_script", "_law_k"] (spPot K) := by
  refine T.l_pot.F.ok sc_l_pot (fun vs H Q E h => ?_) (fun cdv A outer s H vs Q E hr h => ?_)
  · obtain ⟨a, ns, rfl, _⟩ := h
    rfl
  · obtain ⟨a, ns, rfl, hS, hl, q⟩ := h
    have nd := sc_l_pot.nd
    refine ⟨_, pss_cons (ps_set (i := 2) nd rfl (.inl rfl) (pe_op op_add (pe_op op_mul pe_int (pv 1)) pe_int))
      (pss_cons (ps_if (pt_cmpR op_lt (pv 1) (pe_callB call_len_seq (by rfl) T.z_len PySem.boot_len (pa_cons (pv 0) pa_nil)) (nomark _))
        (pss_one (ps_set (i := 2) nd rfl (.inl rfl) (pe_callB call_abs (by rfl) T.z_abs PyProof.Rows.boot_abs (pa_cons (pe_ix ix_list (pv 0) (pv 1) (fun _ _ => rfl)) pa_nil)))) pss_nil)
      (pss_one (ps_ret (pe_lst (pa_cons (pe_callB (call_max2 rfl) (by rfl) T.z_max PyProof.Rows.boot_max (pa_cons pe_int (pa_cons (pe_op op_sub (pv 2) (pe_op op_pow pe_int pe_int)) pa_nil)))
        (pa_cons (pe_op op_add (pe_op op_mod (pe_callTy call_int1 (by rfl) T.z_int PyProof.Rows.boot_int (pa_cons (pe_op op_add (pe_op op_add (pe_op op_mul (pe_op op_mod (pe_callTy call_int1 (by rfl) T.z_int PyProof.Rows.boot_int (pa_cons (pv 2) pa_nil)) pe_int) pe_int) (pe_op op_mul pe_int (pv 1))) pe_int) pa_nil)) pe_int) pe_int) pa_nil)))))), ?_⟩
    refine ⟨_, rfl, _, _, rfl, rfl, .inl ⟨by decide, by decide⟩, _, _, rfl, rfl, ?_⟩
    refine ⟨_, rfl, _, rfl, a, _, rfl, .inl hS, _, _, rfl, rfl, _, rfl, ite2 (fun e => ?_) (fun e => ?_)⟩
    · have e1 : (0 : Int) < ((ns.map V.int).length : Int) := of_decide_eq_true e
      cases ns with
      | nil => exact absurd e1 (by decide)
      | cons n0 r =>
      refine ⟨_, rfl, _, rfl, a, _, 0, .int n0, rfl, rfl, hS, atI_nat (j := 0) rfl, _, rfl, ?_⟩
      refine ⟨_, rfl, _, _, rfl, rfl, ⟨by decide, by decide, by decide⟩, _, _, rfl, rfl, _, _, rfl, ?_⟩
      refine ⟨_, rfl, .inl ⟨_, rfl, ?_⟩⟩
      refine ⟨_, _, rfl, rfl, (by show (0:Int) < 2147483549; decide), _, _, rfl, rfl, .inr ⟨by decide, by decide⟩, _, rfl, _, _, rfl, rfl, .inl ⟨by decide, by decide⟩, _, _, rfl, rfl, _, _, rfl, rfl, .inl ⟨_, rfl, ?_⟩⟩
      refine ⟨_, _, rfl, rfl, (by show (0:Int) < 2147483563; decide), _, _, rfl, rfl, (by show 2 ≤ sizeLine; decide), fun l nl => ?_⟩
      have e1 := Int.emod_nonneg ((if n0 < 0 then -n0 else n0) % 2147483549 * 48271 + 5737 * 0 + 619) (show (2147483563:Int) ≠ 0 by decide)
      have e2 := Int.emod_lt_of_pos ((if n0 < 0 then -n0 else n0) % 2147483549 * 48271 + 5737 * 0 + 619) (show (0 : Int) < 2147483563 by decide)
      refine q l _ _ nl (by split <;> omega) (by omega) (by omega)
    · skip
      refine ⟨_, rfl, _, _, rfl, rfl, ⟨by decide, by decide, by decide⟩, _, _, rfl, rfl, _, _, rfl, ?_⟩
      refine ⟨_, rfl, .inl ⟨_, rfl, ?_⟩⟩
      refine ⟨_, _, rfl, rfl, (by show (0:Int) < 2147483549; decide), _, _, rfl, rfl, .inr ⟨by decide, by decide⟩, _, rfl, _, _, rfl, rfl, .inl ⟨by decide, by decide⟩, _, _, rfl, rfl, _, _, rfl, rfl, .inl ⟨_, rfl, ?_⟩⟩
      refine ⟨_, _, rfl, rfl, (by show (0:Int) < 2147483563; decide), _, _, rfl, rfl, (by show 2 ≤ sizeLine; decide), fun l nl => ?_⟩
      have e1 := Int.emod_nonneg ((769 * 0 + 587) % 2147483549 * 48271 + 5737 * 0 + 619) (show (2147483563:Int) ≠ 0 by decide)
      have e2 := Int.emod_lt_of_pos ((769 * 0 + 587) % 2147483549 * 48271 + 5737 * 0 + 619) (show (0 : Int) < 2147483563 by decide)
      refine q l _ _ nl (by split <;> omega) (by omega) (by omega)
end
end K84

/-! Draws, picks, halves. -/
namespace K84
open PySem PySem.Spec PyProof.Rows L2

section
variable {P : Program} {w : World} {K : PySem.W.Frag} {mg : Str → Option Value} {base : Heap}

theorem ok_draw (T : Tx K mg) : FnOk P w K mg base CX0 1 T.l_draw.f T.l_draw.fd ["_law_pot_here", "_law_many"] spDraw := by
  refine T.l_draw.F.ok sc_l_draw (fun vs H Q E h => ?_) (fun cdv A outer s H vs Q E hr h => ?_)
  · obtain ⟨G, p, m, rfl, _⟩ := h
    rfl
  · obtain ⟨G, p, m, rfl, eg, gp, ⟨b, c, hp, hb, hc, hc2⟩, m1, m2, q⟩ := h
    have nd := sc_l_draw.nd
    refine ⟨_, pss_cons (ps_if (pt_cmpR op_gt (pe_ix ix_list (pv 0) pe_int (fun _ _ => rfl)) pe_int (nomark _))
        (pss_cons (ps_asg (pe_callB call_divmod (by rfl) T.z_divmod PyProof.Rows.boot_divmod (pa_cons (pe_ix ix_list (pv 0) pe_int (fun _ _ => rfl)) (pa_cons (pv 1) pa_nil)))
          (pg_tup rfl (pgs_cons (pg_sub (pv 0) pe_int set_list) (pgs_cons (pg_name (i := 2) nd rfl (.inl rfl)) pgs_nil))))
        (pss_one (ps_ret (pv 2)))) pss_nil)
      (pss_cons (ps_asg (pe_op op_mod (pe_callTy call_int1 (by rfl) T.z_int PyProof.Rows.boot_int (pa_cons (pe_op op_add (pe_op op_mul (pe_ix ix_list (pv 0) pe_int (fun _ _ => rfl)) pe_int) pe_int) pa_nil)) pe_int) (pg_sub (pv 0) pe_int set_list))
      (pss_one (ps_ret (pe_op op_mod (pe_callTy call_int1 (by rfl) T.z_int PyProof.Rows.boot_int (pa_cons (pe_op op_fdiv (pe_op op_mod (pe_callTy call_int1 (by rfl) T.z_int PyProof.Rows.boot_int
        (pa_cons (pe_op op_mul (pe_ix ix_list (pv 0) pe_int (fun _ _ => rfl)) (pe_ix ix_list (pv 0) pe_int (fun _ _ => rfl))) pa_nil)) pe_int) pe_int) pa_nil)) (pv 1))))), ?_⟩
    have hS : SqL K H p [.int b, .int c] := SqL.of hp
    refine ⟨_, rfl, p, _, 0, .int b, rfl, rfl, hS, atI_nat (j := 0) rfl, _, _, rfl, rfl, _, rfl, ite2 (fun e => ?_) (fun e => ?_)⟩
    · refine ⟨_, rfl, p, _, 0, .int b, rfl, rfl, hS, atI_nat (j := 0) rfl, _, rfl, _, _, rfl, ⟨by show (0:Int) < m; omega, by show m < 1073741824; omega⟩, fun t nt => ?_⟩
      have hp2 : (upd H t (.tup [.int (b / m), .int (b % m)])) p = some (.lst [.int b, .int c]) := Ext.upd nt _ _ hp
      refine ⟨t, _, rfl, SqT.of upd_same, rfl, _, _, rfl, ?_⟩
      refine ⟨_, rfl, p, _, 0, 0, rfl, rfl, hp2, rfl, ?_⟩
      refine ⟨_, _, rfl, ?_⟩
      refine ⟨rfl, _, rfl, ?_⟩
      have gr : Gr (atP p) G H G (upd (upd H t (.tup [.int (b / m), .int (b % m)])) p (.lst [.int (b / m), .int c])) := ((Gr.refl eg).lay nt).mut (.inr rfl) gp
      exact q _ _ gr ⟨b / m, c, upd_same, Int.ediv_nonneg hb (by omega), hc, hc2⟩ (Int.emod_nonneg _ (by omega)) (Int.emod_lt_of_pos _ (by omega))
    · refine ⟨_, rfl, p, _, 1, .int c, rfl, rfl, hS, atI_nat (j := 1) rfl, _, _, rfl, rfl, .inl ⟨by show -(2^64) < c; omega, by show c < 2^64; omega⟩, _, _, rfl, rfl, .inl ⟨_, rfl, ?_⟩⟩
      refine ⟨_, _, rfl, rfl, (by show (0:Int) < 2147483587; decide), ?_⟩
      refine ⟨_, rfl, p, _, 1, 1, rfl, rfl, hp, rfl, ?_⟩
      have e1 := Int.emod_nonneg (c * 39373 + 619) (show (2147483587:Int) ≠ 0 by decide)
      have e2 := Int.emod_lt_of_pos (c * 39373 + 619) (show (0:Int) < 2147483587 by decide)
      have hS2 : SqL K (upd H p (.lst [.int b, .int ((c * 39373 + 619) % 2147483587)])) p [.int b, .int ((c * 39373 + 619) % 2147483587)] := SqL.of upd_same
      refine ⟨_, rfl, p, _, 1, .int ((c * 39373 + 619) % 2147483587), rfl, rfl, hS2, atI_nat (j := 1) rfl, _, rfl, p, _, 1, .int ((c * 39373 + 619) % 2147483587), rfl, rfl, hS2, atI_nat (j := 1) rfl, _, _, rfl, rfl,
        .inl ⟨by show -(2^64) < (c * 39373 + 619) % 2147483587; omega, by show (c * 39373 + 619) % 2147483587 < 2^64; omega⟩, .inl ⟨_, rfl, ?_⟩⟩
      refine ⟨_, _, rfl, rfl, (by show (0:Int) < 2147483563; decide), _, _, rfl, rfl, ⟨by decide, by decide⟩, .inl ⟨_, rfl, ?_⟩⟩
      refine ⟨_, rfl, _, _, rfl, rfl, by show (0:Int) < m; omega, ?_⟩
      have gr : Gr (atP p) G H G (upd H p (.lst [.int b, .int ((c * 39373 + 619) % 2147483587)])) := (Gr.refl eg).mut (.inr rfl) gp
      exact q _ _ gr ⟨b, _, upd_same, hb, e1, by omega⟩ (Int.emod_nonneg _ (by omega)) (Int.emod_lt_of_pos _ (by omega))

theorem ok_pick (T : Tx K mg) : FnOk P w K mg base CX0 2 T.l_pick.f T.l_pick.fd ["_law_pot_here", "_law_some"] (spPick T.CR) := by
  have F1 := ok_draw (P := P) (w := w) (base := base) T
  refine T.l_pick.F.ok sc_l_pick (fun vs H Q E h => ?_) (fun cdv A outer s H vs Q E hr h => ?_)
  · obtain ⟨G, p, ds, x, rfl, _⟩ := h
    rfl
  · obtain ⟨G, p, ds, x, rfl, eg, gp, hpot, hx, hne, hlen, q⟩ := h
    refine ⟨_, pss_one (ps_ret (pe_ix ix_list (pv 1) (pe_call F1 hr (by rfl) T.l_draw.g T.l_draw.F.kp T.l_draw.b .nil pass0 (pa_cons (pv 0) (pa_cons (pe_callB call_len_seq (by rfl) T.z_len PySem.boot_len (pa_cons (pv 1) pa_nil)) pa_nil))) (fun _ _ => rfl))), ?_⟩
    obtain ⟨a, xs, rfl, e, r⟩ := is_lst hx
    have hl := r.length
    have l0 : 0 < ds.length := List.length_pos_iff.mpr hne
    refine ⟨_, rfl, _, rfl, _, rfl, a, xs, rfl, .inl (SqL.of (eg _ _ e)), G, p, (xs.length : Int), rfl, eg, gp, hpot, by omega, by omega, fun H' d gr hpot' h0 h1 => ?_⟩
    obtain ⟨k, rfl⟩ := Int.eq_ofNat_of_zero_le h0
    have hk : k < ds.length := by omega
    obtain ⟨v, hv, isv⟩ := r.getD (List.getElem?_eq_getElem hk)
    refine ⟨a, xs, _, v, rfl, rfl, SqL.of (gr.gh _ _ (gr.gg _ _ e)), atI_nat hv, ?_⟩
    exact q H' ds[k] v gr hpot' (List.getElem_mem hk) isv

theorem ok_halves (T : Tx K mg) : FnOk P w K mg base CX0 4 T.l_halves.f T.l_halves.fd ["_law_number"] (spHalves T.CR) := by
  have F1 := ok_ratInit (P := P) (w := w) (base := base) T
  refine T.l_halves.F.ok sc_l_halves (fun vs H Q E h => ?_) (fun cdv A outer s H vs Q E hr h => ?_)
  · obtain ⟨G, n, rfl, _⟩ := h
    rfl
  · obtain ⟨G, n, rfl, eg, q⟩ := h
    refine ⟨_, pss_one (ps_ret (pe_make (mkR T) F1 (hr.mono (by decide)) (by rfl) T.Ratio.g (bR3 T) .nil pass0 (pa_cons (pv 0) (pa_cons pe_int pa_nil)))), ?_⟩
    refine ⟨_, rfl, fun z dz nz ndz nez => ?_⟩
    refine ⟨z, dz, n, 2, rfl, upd_same, by decide, by decide, ?_⟩
    obtain ⟨gr1, iz⟩ := Gr.rat (CR := T.CR) (t := nT n 2) (b := nB n 2) (Gr.refl (M := noM) eg) nz ndz nez
    exact ⟨rfl, q _ _ _ gr1 iz⟩
end
end K84

/-! The drawn frame. -/
namespace K84
open PySem PySem.Spec PyProof.Rows L2

/-- a drawn point: twice its numbers -/
def PtI (d : Dt) : Prop := ∃ x y : Int, d = .tup [.int x, .int y] ∧ (-5 ≤ x ∧ x ≤ 5) ∧ (-5 ≤ y ∧ y ≤ 5) ∧ y % 2 = 0
/-- drawn points and bars -/
structure FrI (ps bs : List Dt) : Prop where
  pt : ∀ d ∈ ps, PtI d
  bar : ∀ d ∈ bs, BarD ps.length d
  lp : ps.length ≤ 5
  lb : bs.length ≤ 8
def spFrameL (CR : Addr) : Sp := fun vs H Q _ => ∃ (G : Hp) (p : Addr), vs = [.ref p, .int 5, .int 8] ∧ Ext G H ∧ G p = none ∧ PotAt H p ∧
  ∀ G' H' ps bs v, Gr (atP p) G H G' H' → PotAt H' p → G' p = none → FrI ps bs → Is CR G' (.tup [.lst ps, .lst bs]) v → Q v H'
theorem PotAt.some {H : Hp} {p : Addr} (h : PotAt H p) : H p ≠ none := by
  obtain ⟨b, c, e, _⟩ := h
  rw [e]
  simp
theorem PotAt.hh {H H' : Hp} {p : Addr} (h : PotAt H p) (e : H' p = H p) : PotAt H' p := by
  obtain ⟨b, c, e1, r⟩ := h
  exact ⟨b, c, e.trans e1, r⟩

/-- the points, drawn so far -/
def Lp1 (CR p l m : Addr) (G H : Hp) (k : Nat) (σ : L2.St) (H' : Hp) : Prop := ∃ y5 y6 y7 G2 ps acc, σ = [some (V.ref p), some (.int 5), some (.int 8), some (.ref l), some (.ref m), y5, y6, y7, none, none, none, none] ∧
  Gr (atP p) G H G2 H' ∧ PotAt H' p ∧ G2 l = none ∧ G2 m = none ∧ G2 p = none ∧ H' l = some (.lst acc) ∧ H' m = some (.lst []) ∧ Iss CR G2 ps acc ∧ acc.length = k ∧ ∀ d ∈ ps, PtI d
/-- all bars, so far -/
def Lp2 (CR p l m e : Addr) (n : Nat) (ps : List Dt) (G H : Hp) (k : Nat) (σ : L2.St) (H' : Hp) : Prop := ∃ y5 y6 y7 y10 G2 ds acc, σ = [some (V.ref p), some (.int 5), some (.int 8), some (.ref l), some (.ref m), y5, y6, y7, some (.int n), some (.ref e), y10, none] ∧
  Gr (atP p) G H G2 H' ∧ PotAt H' p ∧ Is CR G2 (.lst ps) (.ref l) ∧ G2 m = none ∧ G2 p = none ∧ G2 e = none ∧ H' m = some (.lst []) ∧ H' e = some (.lst acc) ∧ Iss CR G2 ds acc ∧ acc.length ≤ 5 * k ∧ ∀ d ∈ ds, BarD n d
/-- the lines, picked so far -/
def Lp3 (CR p l m e : Addr) (n : Nat) (ps es : List Dt) (G H : Hp) (k : Nat) (σ : L2.St) (H' : Hp) : Prop := ∃ y5 y6 y7 y10 G2 ds acc, σ = [some (V.ref p), some (.int 5), some (.int 8), some (.ref l), some (.ref m), y5, y6, y7, some (.int n), some (.ref e), y10, none] ∧
  Gr (atP p) G H G2 H' ∧ PotAt H' p ∧ Is CR G2 (.lst ps) (.ref l) ∧ Is CR G2 (.lst es) (.ref e) ∧ G2 m = none ∧ G2 p = none ∧ H' m = some (.lst acc) ∧ Iss CR G2 ds acc ∧ acc.length = k ∧ ∀ d ∈ ds, BarD n d

/-- the bars from the k-th point on -/
def barsOf (k n : Nat) : List Dt := (List.range (n - (k + 1))).map fun t => .tup [.int (0 + (k : Int)), .int (0 + (k : Int) + 1 + (t : Nat))]
theorem barsOf_len (k n : Nat) : (barsOf k n).length = n - (k + 1) := by simp [barsOf]
theorem barsOf_bar {k n : Nat} : ∀ d ∈ barsOf k n, BarD n d := by
  intro d hd
  obtain ⟨t, ht, rfl⟩ := List.mem_map.mp hd
  have h := List.mem_range.mp ht
  refine ⟨k, k + 1 + t, ?_, by omega, by omega⟩
  have e1 : (0 : Int) + (k : Int) = (k : Int) := by omega
  have e2 : (k : Int) + 1 + (t : Nat) = ((k + 1 + t : Nat) : Int) := by omega
  rw [e1, e2]

section
variable {P : Program} {w : World} {K : PySem.W.Frag} {mg : Str → Option Value} {base : Heap}
theorem ok_l_frame (T : Tx K mg) : FnOk P w K mg base CX0 3 T.l_frame.f T.l_frame.fd ["_law_pot_here", "_law_most", "_law_bars"] (spFrameL T.CR) := by
  have F1 := ok_draw (P := P) (w := w) (base := base) T
  have F2 := ok_pick (P := P) (w := w) (base := base) T
  refine T.l_frame.F.ok sc_l_frame (fun vs H Q E h => ?_) (fun cdv A outer s H vs Q E hr h => ?_)
  · obtain ⟨G, p, rfl, _⟩ := h
    rfl
  · obtain ⟨G, p, rfl, eg, gp, hpot, q⟩ := h
    have nd := sc_l_frame.nd
    refine ⟨_, pss_cons (ps_par (i := 3) (j := 4) rfl nd rfl rfl (by decide) rfl rfl (pa_cons (pe_lst pa_nil) (pa_cons (pe_lst pa_nil) pa_nil)) (by rfl))
      (pss_cons (ps_for PassesOwn.never rfl (pi_range1 (by rfl) T.z_range (pa_cons (pe_call F1 (hr.mono (by decide)) (by rfl) T.l_draw.g T.l_draw.F.kp T.l_draw.b .nil pass0 (pa_cons (pv 0) (pa_cons (pe_op op_add (pv 1) pe_int) pa_nil))) pa_nil)) (pg_name (i := 5) nd rfl (.inl rfl))
        (pss_cons (ps_par (i := 6) (j := 7) rfl nd rfl rfl (by decide) rfl rfl (pa_cons (pe_op op_sub (pe_call F1 (hr.mono (by decide)) (by rfl) T.l_draw.g T.l_draw.F.kp T.l_draw.b .nil pass0 (pa_cons (pv 0) (pa_cons pe_int pa_nil))) pe_int)
            (pa_cons (pe_op op_sub (pe_call F1 (hr.mono (by decide)) (by rfl) T.l_draw.g T.l_draw.F.kp T.l_draw.b .nil pass0 (pa_cons (pv 0) (pa_cons pe_int pa_nil))) pe_int) pa_nil)) (by rfl))
        (pss_one (ps_expr (pe_bm PySem.F.plainAttrs_list PySem.F.slot_list_append PySem.F.type_list_append mt_append (pv 3) (pa_cons
          (pe_ifExp (pt_cmpR op_gt (pe_call F1 (hr.mono (by decide)) (by rfl) T.l_draw.g T.l_draw.F.kp T.l_draw.b .nil pass0 (pa_cons (pv 0) (pa_cons pe_int pa_nil))) pe_int (nomark _))
            (pe_tup (pa_cons (pe_op op_mul pe_int (pv 6)) (pa_cons (pe_op op_mul pe_int (pv 7)) pa_nil)))
            (pe_tup (pa_cons (pe_op op_add (pe_op op_mul pe_int (pv 6)) pe_int) (pa_cons (pe_op op_mul pe_int (pv 7)) pa_nil)))) pa_nil))))))
      (pss_cons (ps_set (i := 8) nd rfl (.inl rfl) (pe_callB call_len_seq (by rfl) T.z_len PySem.boot_len (pa_cons (pv 3) pa_nil)))
      (pss_cons (ps_set (i := 9) nd rfl (.inl rfl) (pe_lst pa_nil))
      (pss_cons (ps_for PassesOwn.never rfl (pi_range1 (by rfl) T.z_range (pa_cons (pv 8) pa_nil)) (pg_name (i := 10) nd rfl (.inr rfl))
        (pss_one (ps_expr (pe_bm PySem.F.plainAttrs_list PySem.F.slot_list_extend PySem.F.type_list_extend mt_extend (pv 9) (pa_cons
          (pe_lc (own := [("_law_other", 11)]) (g := gName 11) (tt := tYes) rfl nd (pi_range2 (by rfl) T.z_range (pa_cons (pe_op op_add (pv 10) pe_int) (pa_cons (pv 8) pa_nil)))
            (blkOk_by (own := [("_law_other", 11)]) (N := ["_law_pot_here", "_law_most", "_law_bars", "_law_points", "_law_lines", "_law_turn", "_law_near", "_law_far", "_law_many", "_law_every", "_law_one", "_law_other"]) (sc := defScope s_l_frame) (by decide +kernel)) (fun _ _ _ _ _ => pg_name (i := 11) nd rfl (.inl rfl)) (fun _ _ _ _ _ => pts_nil)
            (fun _ _ _ _ _ => pe_tup (pa_cons (pv 10) (pa_cons (pv 11) pa_nil)))) pa_nil)))))
      (pss_cons (ps_if (pt_cmpR op_eq (pe_call F1 (hr.mono (by decide)) (by rfl) T.l_draw.g T.l_draw.F.kp T.l_draw.b .nil pass0 (pa_cons (pv 0) (pa_cons pe_int pa_nil))) pe_int (nomark _))
        (pss_one (ps_ret (pe_tup (pa_cons (pv 3) (pa_cons (pe_slice sl_list (pv 9) po_none (po_some (pv 2))) pa_nil))))) pss_nil)
      (pss_cons (ps_for PassesOwn.never rfl (pi_range1 (by rfl) T.z_range (pa_cons (pe_ifExp (pt_cmpR (op_neL hr.units0) (pv 9) (pe_lst pa_nil) (nomark _))
          (pe_call F1 (hr.mono (by decide)) (by rfl) T.l_draw.g T.l_draw.F.kp T.l_draw.b .nil pass0 (pa_cons (pv 0) (pa_cons (pe_op op_add (pv 2) pe_int) pa_nil))) pe_int) pa_nil)) (pg_name (i := 5) nd rfl (.inl rfl))
        (pss_one (ps_expr (pe_bm PySem.F.plainAttrs_list PySem.F.slot_list_append PySem.F.type_list_append mt_append (pv 4) (pa_cons
          (pe_call F2 (hr.mono (by decide)) (by rfl) T.l_pick.g T.l_pick.F.kp T.l_pick.b .nil pass0 (pa_cons (pv 0) (pa_cons (pv 9) pa_nil))) pa_nil)))))
      (pss_one (ps_ret (pe_tup (pa_cons (pv 3) (pa_cons (pv 4) pa_nil))))))))))), ?_⟩
    refine ⟨Nat.zero_le _, fun l nl => ⟨Nat.zero_le _, fun m nm => ⟨_, _, rfl, ?_⟩⟩⟩
    have hml : m ≠ l := fun z => by rw [z, upd_same] at nm; cases nm
    have hm0 : H m = none := by rw [upd_ne hml] at nm; exact nm
    have hpl : l ≠ p := fun z => hpot.some (by rw [← z]; exact nl)
    have hpm : m ≠ p := fun z => hpot.some (by rw [← z]; exact hm0)
    have gr1 : Gr (atP p) G H G (upd (upd H l (.lst [])) m (.lst [])) := ((Gr.refl eg).lay nl).lay nm
    have pot1 : PotAt (upd (upd H l (.lst [])) m (.lst [])) p := hpot.hh (by rw [upd_ne hpm.symm, upd_ne hpl.symm])
    have gl0 : G l = none := eg.none_of nl
    have gm0 : G m = none := eg.none_of hm0
    have hl1 : (upd (upd H l (.lst [])) m (.lst [])) l = some (.lst []) := by rw [upd_ne hml.symm, upd_same]
    refine ⟨_, rfl, _, rfl, _, _, rfl, rfl, G, p, _, rfl, gr1.gh, gp, pot1, (by show (1:Int) ≤ 5 + 1; decide), (by show (5:Int) + 1 ≤ 1000; decide), fun H2 d g2 pot2 h0 h1 => ?_⟩
    have h1' : d < 6 := h1
    refine ⟨_, rfl, by omega, by omega, ?_⟩
    refine for_range (n := d.toNat) (Lp1 T.CR p l m G H)
      ⟨_, _, _, G, [], [], rfl, gr1.trans g2, pot2, gl0, gm0, gp, g2.hh l _ hpl hl1, g2.hh m _ hpm upd_same, .nil, rfl, fun d hd => nomatch hd⟩ (fun k σ H' hk hw => ?_) (fun σ H' hw => ?_)
    · obtain ⟨y5, y6, y7, G2, ps, acc, rfl, gr, pot, g2l, g2m, g2p, hl, hm, iss, hacc, hps⟩ := hw
      refine ⟨_, rfl, G2, p, 5, rfl, gr.gh, g2p, pot, (by decide), (by decide), fun H3 d1 g3 pot3 a0 a1 => ?_⟩
      refine ⟨_, _, rfl, rfl, _, rfl, G2, p, 5, rfl, g3.gh, g2p, pot3, (by decide), (by decide), fun H4 d2 g4 pot4 b0 b1 => ?_⟩
      refine ⟨_, _, rfl, rfl, _, _, rfl, ?_⟩
      refine ⟨_, rfl, .inl ⟨rfl, _, SqL.of ((g3.trans g4).hh l _ hpl hl)⟩, _, rfl, G2, p, 4, rfl, g4.gh, g2p, pot4, (by decide), (by decide), fun H5 d3 g5 pot5 c0 c1 => ?_⟩
      have g6 := (g3.trans g4).trans g5
      have fin : ∀ (x y : Int) (t : Addr), H5 t = none → (-5 ≤ x ∧ x ≤ 5) → (-5 ≤ y ∧ y ≤ 5) → y % 2 = 0 → ∀ H6, H6 = upd H5 t (.tup [.int x, .int y]) →
          H6 l = some (.lst acc) ∧ acc.length < sizeLine ∧ Lp1 T.CR p l m G H (k + 1) [some (V.ref p), some (.int 5), some (.int 8), some (.ref l), some (.ref m), some (.int (0 + (k : Int))), some (.int (d1 - 2)), some (.int (d2 - 2)), none, none, none, none] (upd H6 l (.lst (acc ++ [.ref t]))) := by
        intro x y t nt hx hy hy2 H6 e6
        subst e6
        have hl5 := g6.hh l _ hpl hl
        have hm5 := g6.hh m _ hpm hm
        have tl : t ≠ l := fun z => by rw [z, hl5] at nt; cases nt
        have tm : t ≠ m := fun z => by rw [z, hm5] at nt; cases nt
        have tp : t ≠ p := fun z => pot5.some (by rw [← z]; exact nt)
        have g7 := g6.new (o := .tup [V.int x, .int y]) nt
        have n7l : (upd G2 t (.tup [V.int x, .int y])) l = none := by rw [upd_ne tl.symm]; exact g2l
        have n7m : (upd G2 t (.tup [V.int x, .int y])) m = none := by rw [upd_ne tm.symm]; exact g2m
        have n7p : (upd G2 t (.tup [V.int x, .int y])) p = none := by rw [upd_ne tp.symm]; exact g2p
        refine ⟨by rw [upd_ne tl.symm]; exact hl5, ?_, _, _, _, _, ps ++ [.tup [.int x, .int y]], _, rfl, (gr.trans g7).mut (.inl nl) n7l, ?_, n7l, n7m, n7p, upd_same, ?_, (iss.ext g7.gg).append (.cons (.tup upd_same (.cons (.int _) (.cons (.int _) .nil))) .nil), ?_, ?_⟩
        · have : (100 : Nat) ≤ sizeLine := by decide
          omega
        · exact pot5.hh (by rw [upd_ne hpl.symm, upd_ne tp.symm])
        · rw [upd_ne hml, upd_ne tm.symm]
          exact hm5
        · rw [List.length_append, hacc]
          rfl
        · intro e he
          rcases List.mem_append.mp he with he | he
          · exact hps e he
          · rw [List.mem_singleton] at he
            exact ⟨x, y, he, hx, hy, hy2⟩
      refine ⟨_, _, rfl, rfl, _, rfl, ite2 (fun e => ?_) (fun e => ?_)⟩
      · refine ⟨_, rfl, _, _, rfl, rfl, .inl ⟨by decide, by decide⟩, _, rfl, _, _, rfl, rfl, .inl ⟨by decide, by decide⟩, (by show 2 ≤ sizeLine; decide), fun t nt => ?_⟩
        obtain ⟨f1, f2, f3⟩ := fin (2 * (d1 - 2)) (2 * (d2 - 2)) t nt (by omega) (by omega) (by omega) _ rfl
        exact ⟨l, acc, _, rfl, rfl, f1, f2, f3⟩
      · refine ⟨_, rfl, _, _, rfl, rfl, .inl ⟨by decide, by decide⟩, _, _, rfl, rfl, _, rfl, _, _, rfl, rfl, .inl ⟨by decide, by decide⟩, (by show 2 ≤ sizeLine; decide), fun t nt => ?_⟩
        obtain ⟨f1, f2, f3⟩ := fin (2 * (d1 - 2) + 1) (2 * (d2 - 2)) t nt (by omega) (by omega) (by omega) _ rfl
        exact ⟨l, acc, _, rfl, rfl, f1, f2, f3⟩
    · obtain ⟨y5, y6, y7, G2, ps, acc, rfl, gr, pot, g2l, g2m, g2p, hl, hm, iss, hacc, hps⟩ := hw
      refine ⟨_, rfl, l, acc, rfl, .inl (SqL.of hl), ?_⟩
      have lps : ps.length ≤ 5 := by
        have := iss.length
        omega
      have lpa := iss.length
      -- the points stand
      have gr2 := gr.freeze nl hl g2l
      have ip : Is T.CR (upd G2 l (.lst acc)) (.lst ps) (.ref l) := .lst upd_same (iss.ext (Ext.upd g2l))
      have n2m : (upd G2 l (.lst acc)) m = none := by rw [upd_ne hml]; exact g2m
      have n2p : (upd G2 l (.lst acc)) p = none := by rw [upd_ne hpl.symm]; exact g2p
      generalize upd G2 l (.lst acc) = G3 at gr2 ip n2m n2p
      refine ⟨Nat.zero_le _, fun e ne => ?_⟩
      have he0 : H e = none := gr2.al e ne
      have hem : m ≠ e := fun z => by rw [← z, hm] at ne; cases ne
      have hep : e ≠ p := fun z => pot.some (by rw [← z]; exact ne)
      have gr3 := gr2.lay (o := .lst []) ne
      have ne3 : G3 e = none := gr2.gh.none_of ne
      refine ⟨_, rfl, _, rfl, by omega, by omega, ?_⟩
      have en : ((acc.length : Nat) : Int).toNat = ps.length := by omega
      rw [en]
      have el : (acc.length : Int) = (ps.length : Int) := by omega
      refine for_range (n := ps.length) (Lp2 T.CR p l m e ps.length ps G H)
        ⟨_, _, _, _, G3, [], [], by rw [el]; rfl, gr3, pot.hh (upd_ne hep.symm), ip, n2m, n2p, ne3, by rw [upd_ne hem]; exact hm, upd_same, .nil, Nat.zero_le _, fun d hd => nomatch hd⟩ (fun k σ H' hk hw => ?_) (fun σ H' hw => ?_)
      · obtain ⟨y5, y6, y7, y10, G4, ds, ac, rfl, gr, pot, ip, n2m, n2p, n2e, hm, he, iss, hac, hds⟩ := hw
        refine ⟨_, rfl, .inl ⟨rfl, _, SqL.of he⟩, _, rfl, _, _, rfl, rfl, _, rfl, _, _, rfl, ⟨by show -(2^62) ≤ (0:Int) + (k:Int) + 1; omega, by show (0:Int) + (k:Int) + 1 < 2^62; omega, by omega, by omega⟩, fun D nD => ?_⟩
        have z : ((ps.length : Int) - (0 + (k : Int) + 1)).toNat = (barsOf k ps.length).length := by rw [barsOf_len]; omega
        have z2 : ((ps.length : Int) - ((fun i j => i + j) (0 + (k : Int)) 1)).toNat = (barsOf k ps.length).length := z
        show ∃ W : Nat → Nat → Hp → Prop, (∃ m, W 0 m _) ∧ ∀ i m H, W i m H → ((Itr (0 + (k : Int) + 1) ((ps.length : Int) - (0 + (k : Int) + 1)).toNat).stop i H ∧ _) ∨ ((Itr (0 + (k : Int) + 1) ((ps.length : Int) - (0 + (k : Int) + 1)).toNat).go i H ∧ _)
        rw [z]
        refine lc_dataR (CR := T.CR) (M := noM) (G1 := G4) (es := barsOf k ps.length) (lo := 0 + (k : Int) + 1) noM_none gr.gh nD (by rw [barsOf_len]; omega) (fun i e' G5 H5 Q5 he' g5 kk => ?_) (fun G5 H5 g5 hD => ?_)
        · obtain ⟨hj, ee⟩ := List.getElem?_eq_some_iff.mp he'
          have ee' : e' = .tup [.int (0 + (k : Int)), .int (0 + (k : Int) + 1 + (i : Nat))] := by
            rw [← ee]
            simp [barsOf]
          subst ee'
          refine ⟨rfl, _, rfl, _, rfl, (by show 2 ≤ sizeLine; decide), fun t nt => ?_⟩
          exact kk _ _ _ ((Gr.refl g5.gh).new nt) (.tup upd_same (.cons (.int _) (.cons (.int _) .nil)))
        · obtain ⟨_, zs, ez, eD, rz⟩ := is_lst hD
          cases ez
          have he5 := g5.get he
          have hm5 := g5.get hm
          have n5e := g5.off (l := e) (by rw [he]; simp) n2e
          have n5m := g5.off (l := m) (by rw [hm]; simp) n2m
          have n5p := g5.off (l := p) pot.some n2p
          have lz := rz.length
          rw [barsOf_len] at lz
          refine ⟨e, D, ac, zs, rfl, rfl, he5, g5.gh _ _ eD, ?_, ?_⟩
          · have : (100 : Nat) ≤ sizeLine := by decide
            omega
          refine ⟨_, _, _, _, G5, ds ++ barsOf k ps.length, _, rfl, (gr.trans (Gr.weak g5)).mut (.inl he0) n5e, ?_, ip.ext g5.gg, n5m, n5p, n5e, ?_, upd_same, (iss.ext g5.gg).append rz, ?_, ?_⟩
          · obtain ⟨b, c, e1, r1⟩ := pot
            exact ⟨b, c, by rw [upd_ne hep.symm]; exact g5.get e1, r1⟩
          · rw [upd_ne hem]
            exact hm5
          · rw [List.length_append]
            omega
          · intro d' hd'
            rcases List.mem_append.mp hd' with hd' | hd'
            · exact hds d' hd'
            · exact barsOf_bar d' hd'
      · obtain ⟨y5, y6, y7, y10, G4, ds, ac, rfl, gr, pot, ip, n2m, n2p, n2e, hm, he, iss, hac, hds⟩ := hw
        have gr4 := gr.freeze he0 he n2e
        have ie : Is T.CR (upd G4 e (.lst ac)) (.lst ds) (.ref e) := .lst upd_same (iss.ext (Ext.upd n2e))
        have ip4 := ip.ext (Ext.upd (o := HO.lst ac) n2e)
        have n4m : (upd G4 e (.lst ac)) m = none := by rw [upd_ne hem]; exact n2m
        have n4p : (upd G4 e (.lst ac)) p = none := by rw [upd_ne hep.symm]; exact n2p
        have iss4 := iss.ext (Ext.upd (o := HO.lst ac) n2e)
        have e4e : (upd G4 e (.lst ac)) e = some (.lst ac) := upd_same
        generalize upd G4 e (.lst ac) = G5 at gr4 ie ip4 n4m n4p iss4 e4e
        have lds := iss.length
        refine ⟨_, rfl, G5, p, 3, rfl, gr4.gh, n4p, pot, (by decide), (by decide), fun H5 d3 g5 pot5 c0 c1 => ?_⟩
        have gr5 := gr4.trans g5
        have he5 := g5.gh _ _ (g5.gg _ _ e4e)
        have hm5 := g5.hh m _ hpm hm
        refine ⟨rfl, _, rfl, ite2 (fun eq => ?_) (fun eq => ?_)⟩
        · refine ⟨_, rfl, _, rfl, _, rfl, _, rfl, e, ac, rfl, SqL.of he5, fun z nz => ⟨(by show 2 ≤ sizeLine; decide), fun t nt => ?_⟩⟩
          have g6 := gr5.new (o := .lst (cutV ac none (some 8))) nz
          have g7 := g6.new (o := .tup [V.ref l, .ref z]) nt
          have xz := Ext.upd (o := HO.lst (cutV ac none (some 8))) (gr5.gh.none_of nz)
          have xt := Ext.upd (o := HO.tup [V.ref l, .ref z]) (g6.gh.none_of nt)
          have zp : z ≠ p := fun w => pot5.some (by rw [← w]; exact nz)
          have pot6 : PotAt (upd H5 z (.lst (cutV ac none (some 8)))) p := pot5.hh (upd_ne zp.symm)
          have tp : t ≠ p := fun w => pot6.some (by rw [← w]; exact nt)
          have ec : cutV ac none (some 8) = ac.take 8 := by
            unfold cutV
            show List.take (HT.sIx ac.length ac.length (some ((8 : Nat) : Int)) - 0) (ac.drop 0) = _
            rw [HT.sIx_nat, List.drop_zero, Nat.sub_zero, List.take_eq_take_iff]
            omega
          have iz : Iss T.CR G5 (ds.take 8) (cutV ac none (some 8)) := by
            rw [ec]
            exact iss4.take 8
          refine q _ _ ps (ds.take 8) _ g7 (pot6.hh (upd_ne tp.symm)) ?_ ⟨hps, fun d' hd' => hds d' (List.mem_of_mem_take hd'), lps, by simp; omega⟩ (.tup upd_same (.cons ((ip4.ext xz).ext xt) (.cons (.lst (xt _ _ upd_same) ?_) .nil)))
          · rw [upd_ne tp.symm, upd_ne zp.symm]
            exact n4p
          · exact (iz.ext xz).ext xt
        · refine ⟨_, rfl, Nat.zero_le _, fun z nz => ?_⟩
          have ze : e ≠ z := fun w => by rw [← w, he5] at nz; cases nz
          have zm : m ≠ z := fun w => by rw [← w, hm5] at nz; cases nz
          have zp : z ≠ p := fun w => pot5.some (by rw [← w]; exact nz)
          have g6 := gr5.lay (o := .lst []) nz
          have pot6 : PotAt (upd H5 z (.lst [])) p := pot5.hh (upd_ne zp.symm)
          have hm6 : (upd H5 z (.lst [])) m = some (.lst []) := by rw [upd_ne zm]; exact hm5
          have he6 : (upd H5 z (.lst [])) e = some (.lst ac) := by rw [upd_ne ze]; exact he5
          have g6' : Gr (atP p) G5 H5 G5 (upd H5 z (.lst [])) := (Gr.refl g5.gh).lay nz
          have hz6 : (upd H5 z (.lst [])) z = some (.lst []) := upd_same
          generalize upd H5 z (.lst []) = H6 at g6 pot6 hm6 he6 g6' hz6
          have fin : ∀ (k : Nat) (Hf : Hp) (σ : L2.St), k ≤ 8 → Lp3 T.CR p l m e ps.length ps ds G H k σ Hf → ∀ t, Hf t = none → Q (.ref t) (upd Hf t (.tup [.ref l, .ref m])) := by
            rintro k Hf σ hk ⟨y5, y6, y7, y10, G7, es, acc7, rfl, gr7, pot7, ip7, ie7, n7m, n7p, hm7, iss7, ha7, hes⟩ t nt
            have l7 := iss7.length
            have gr8 := (gr7.freeze hm0 hm7 n7m).new (o := .tup [V.ref l, .ref m]) nt
            have xm := Ext.upd (o := HO.lst acc7) n7m
            have ntm : (upd G7 m (.lst acc7)) t = none := (gr7.freeze hm0 hm7 n7m).gh.none_of nt
            have xt := Ext.upd (o := HO.tup [V.ref l, .ref m]) ntm
            have tp : t ≠ p := fun w => pot7.some (by rw [← w]; exact nt)
            refine q _ _ ps es _ gr8 (pot7.hh (upd_ne tp.symm)) ?_ ⟨hps, hes, lps, by omega⟩ (.tup upd_same (.cons ((ip7.ext xm).ext xt) (.cons (.lst (xt _ _ upd_same) ((iss7.ext xm).ext xt)) .nil)))
            rw [upd_ne tp.symm, upd_ne hpm.symm]
            exact n7p
          refine ⟨e, z, ac, rfl, rfl, he6, hz6, _, rfl, ite2 (fun eq => ?_) (fun eq => ?_)⟩
          · have ane : ac ≠ [] := of_decide_eq_true eq
            have dne : ds ≠ [] := fun w => by
              rw [w] at lds
              exact ane (List.eq_nil_of_length_eq_zero lds.symm)
            refine ⟨_, rfl, _, rfl, _, _, rfl, rfl, G5, p, _, rfl, g6.gh, n4p, pot6, (by show (1:Int) ≤ 8 + 1; decide), (by show (8:Int) + 1 ≤ 1000; decide), fun H7 d7 g7 pot7 a0 a1 => ?_⟩
            have a1' : d7 < 9 := a1
            refine ⟨_, rfl, by omega, by omega, ?_⟩
            refine for_range (n := d7.toNat) (Lp3 T.CR p l m e ps.length ps ds G H)
              ⟨_, _, _, _, G5, [], [], rfl, g6.trans g7, pot7, ip4, ie, n4m, n4p, g7.hh m _ hpm hm6, .nil, rfl, fun d' hd' => nomatch hd'⟩ (fun k σ H' hk hw => ?_) (fun σ H' hw => ?_)
            · obtain ⟨y5, y6, y7, y10, G8, es, acc8, rfl, gr8, pot8, ip8, ie8, n8m, n8p, hm8, iss8, ha8, hes⟩ := hw
              refine ⟨_, rfl, .inl ⟨rfl, _, SqL.of hm8⟩, _, rfl, _, rfl, G8, p, ds, .ref e, rfl, gr8.gh, n8p, pot8, ie8, dne, by omega, fun H9 d9 v9 g9 pot9 hd9 hv9 => ?_⟩
              have hm9 := g9.hh m _ hpm hm8
              refine ⟨m, acc8, _, rfl, rfl, hm9, ?_, ?_⟩
              · have : (100 : Nat) ≤ sizeLine := by decide
                omega
              refine ⟨_, _, _, _, G8, es ++ [d9], _, rfl, (gr8.trans g9).mut (.inl hm0) n8m, pot9.hh (upd_ne hpm.symm), ip8, ie8, n8m, n8p, upd_same, iss8.append (.cons hv9 .nil), ?_, ?_⟩
              · rw [List.length_append, ha8]
                rfl
              · intro d' hd'
                rcases List.mem_append.mp hd' with hd' | hd'
                · exact hes d' hd'
                · rw [List.mem_singleton] at hd'
                  rw [hd']
                  exact hds d9 hd9
            · have f := fin _ _ _ (by omega) hw
              obtain ⟨y5, y6, y7, y10, G8, es, acc8, rfl, _⟩ := hw
              exact ⟨_, rfl, _, rfl, (by show 2 ≤ sizeLine; decide), f⟩
          · refine ⟨_, rfl, by decide, by decide, ?_⟩
            refine for_range (n := 0) (Lp3 T.CR p l m e ps.length ps ds G H)
              ⟨_, _, _, _, G5, [], [], rfl, g6, pot6, ip4, ie, n4m, n4p, hm6, .nil, rfl, fun d' hd' => nomatch hd'⟩ (fun k σ H' hk hw => absurd hk (Nat.not_lt_zero _)) (fun σ H' hw => ?_)
            have f := fin _ _ _ (by omega) hw
            obtain ⟨y5, y6, y7, y10, G8, es, acc8, rfl, _⟩ := hw
            exact ⟨_, rfl, _, rfl, (by show 2 ≤ sizeLine; decide), f⟩
end
end K84

/-! The frame made of the drawn data. -/
namespace K84
open PySem PySem.Spec PyProof.Rows L2

/-- half a number, as a fraction -/
def hD (n : Int) : Dt := .rat (nT n 2) (nB n 2)
def hfD : Dt → Dt
  | .tup [.int x, .int y] => .tup [hD x, hD y]
  | _ => .non
theorem hD_even {y : Int} (h : y % 2 = 0) : hD y = .rat (y / 2) 1 := by
  have e : Nat.gcd y.natAbs (2 : Int).natAbs = 2 := by
    show Nat.gcd y.natAbs 2 = 2
    exact Nat.gcd_eq_right (by omega)
  unfold hD nT nB
  rw [e]
  rfl
theorem potTo {H H' : Hp} {p : Addr} (h : PotAt H p) (g : ∀ o, H p = some o → H' p = some o) : PotAt H' p := by
  obtain ⟨b, c, e1, r⟩ := h
  exact ⟨b, c, g _ e1, r⟩
def spMade (CR CF : Addr) : Sp := fun vs H Q _ => ∃ (G : Hp) (p : Addr) (ps bs : List Dt) (x y : V), vs = [.ref p, x, y] ∧ Ext G H ∧ G p = none ∧ PotAt H p ∧ Is CR G (.lst ps) x ∧ Is CR G (.lst bs) y ∧ FrI ps bs ∧
  ∀ G' H' v, Gr (atP p) G H G' H' → PotAt H' p → G' p = none → FrAt CR CF G' (ps.map hfD) bs v → Q v H'
/-- the points told, so far -/
def Md (CR p D : Addr) (G H : Hp) (ps : List Dt) (i : Nat) (H2 : Hp) : Prop := ∃ G2 es acc, Gr (atP p) G H G2 H2 ∧ PotAt H2 p ∧ G2 p = none ∧ G2 D = none ∧ H2 D = some (.lst acc) ∧ Iss CR G2 es acc ∧ acc.length = i ∧
  es.map ptOf = (ps.map hfD).take i ∧ ∀ e ∈ es, InPt e
theorem ok_bounds {ps bs : List Dt} (h : FrI ps bs) : (ps.length ≤ 5) ∧ bs.length ≤ 8 := ⟨h.lp, h.lb⟩

section
variable {P : Program} {w : World} {K : PySem.W.Frag} {mg : Str → Option Value} {base : Heap}
theorem mkF (T : Tx K mg) : Mk K T.CF T.Frame_init.f := ⟨T.Frame.mks, T.Frame_init.m.at_, T.Frame_init.m.fn, T.Frame.kp⟩
theorem kbRev {x qual : Str} {st : Stmt} {f : Addr} {fd : FuncData} {ps ks : List Str} {n : Nat} (F : Fun K x qual st f fd)
    (h : ∀ (kV doc pm : Value) (an : Option Addr) (cdv ct : Value) (us ws : List Value), us.length = n → ws.length = ks.length → bindArgs (PySem.W.fnOf x qual (defArgs st) (defBody st) (defScope st) .none kV doc pm an cdv ct) ⟨us, ks.zip ws⟩ = pure (ps.zip (us ++ ws.reverse))) :
    KBn K fd ps n ks (fun us ws => us ++ ws.reverse) (fun vs zs => vs ++ zs.reverse) := by
  obtain ⟨oc, od, kV, doc, pm, an, cdv, ct, osl, rfl, lk, hcd⟩ := F.ex
  exact ⟨fun s us ws X l1 l2 => .of_eq (h kV doc pm an cdv ct us ws l1 l2), fun r1 r2 => r1.append r2.reverse⟩
theorem bFK (T : Tx K mg) : KBn K T.Frame_init.fd ["self", "points", "bars"] 1 ["bars", "points"] (fun us ws => us ++ ws.reverse) (fun vs zs => vs ++ zs.reverse) :=
  kbRev T.Frame_init.F fun kV doc pm an cdv ct us ws l1 l2 => match us, ws, l1, l2 with | [_], [_, _], _, _ => rfl

theorem ok_l_made (T : Tx K mg) : FnOk P w K mg base CX0 7 T.l_made.f T.l_made.fd ["_law_pot_here", "_law_points", "_law_bars"] (spMade T.CR T.CF) := by
  have F1 := ok_ratInit (P := P) (w := w) (base := base) T
  have F2 := ok_draw (P := P) (w := w) (base := base) T
  have F3 := ok_frameInit (P := P) (w := w) (base := base) T
  refine T.l_made.F.ok sc_l_made (fun vs H Q E h => ?_) (fun cdv A outer s H vs Q E hr h => ?_)
  · obtain ⟨G, p, ps, bs, x, y, rfl, _⟩ := h
    rfl
  · obtain ⟨G, p, ps, bs, x, y, rfl, eg, gp, hpot, hx, hy, fr, q⟩ := h
    have nd := sc_l_made.nd
    refine ⟨_, pss_cons (ps_setLc (i := 3) (own := [("_law_near", 4), ("_law_far", 5)]) (tt := tYes) rfl nd rfl rfl (sw_true rfl rfl rfl rfl) (pi_list (pv 1))
          (blkOk_by (own := [("_law_near", 4), ("_law_far", 5)]) (N := ["_law_pot_here", "_law_points", "_law_bars", "_law_told", "_law_near", "_law_far"]) (sc := defScope s_l_made) (by decide +kernel))
          (fun _ _ _ _ _ => pg_tupK (K := K) (n := 2) rfl rfl (pgs_cons (pg_name (i := 4) nd rfl (.inl rfl)) (pgs_cons (pg_name (i := 5) nd rfl (.inl rfl)) pgs_nil))) (fun _ _ _ _ _ => pts_nil)
          (fun _ _ _ _ _ => pe_tup (pa_cons (pe_make (mkR T) F1 (hr.mono (by decide)) (by rfl) T.Ratio.g (bR3 T) .nil pass0 (pa_cons (pv 4) (pa_cons pe_int pa_nil)))
            (pa_cons (pe_ifExp (pt_cmpR op_eq (pe_call F2 (hr.mono (by decide)) (by rfl) T.l_draw.g T.l_draw.F.kp T.l_draw.b .nil pass0 (pa_cons (pv 0) (pa_cons pe_int pa_nil))) pe_int (nomark _))
              (pe_op op_fdiv (pv 5) pe_int) (pe_make (mkR T) F1 (hr.mono (by decide)) (by rfl) T.Ratio.g (bR3 T) .nil pass0 (pa_cons (pv 5) (pa_cons pe_int pa_nil)))) pa_nil))))
      (pss_cons (ps_set (i := 3) nd rfl (.inl rfl) (pe_ifExp (pt_cmpR op_eq (pe_call F2 (hr.mono (by decide)) (by rfl) T.l_draw.g T.l_draw.F.kp T.l_draw.b .nil pass0 (pa_cons (pv 0) (pa_cons pe_int pa_nil))) pe_int (nomark _))
          (pe_callTy call_tuple_of (by rfl) T.z_tuple PyProof.Rows.boot_tuple (pa_cons (pv 3) pa_nil)) (pv 3)))
      (pss_one (ps_ret (pe_ifExp (pt_cmpR op_eq (pe_call F2 (hr.mono (by decide)) (by rfl) T.l_draw.g T.l_draw.F.kp T.l_draw.b .nil pass0 (pa_cons (pv 0) (pa_cons pe_int pa_nil))) pe_int (nomark _))
          (pe_make (mkF T) F3 hr (by rfl) T.Frame.g T.Frame_init.b .nil pass0 (pa_cons (pv 3) (pa_cons (pe_callTy call_tuple_of (by rfl) T.z_tuple PyProof.Rows.boot_tuple (pa_cons (pv 2) pa_nil)) pa_nil)))
          (pe_makeK0 (mkF T) F3 hr (by rfl) T.Frame.g (bFK T) pass0 (pk_cons (pe_callTy call_list_of (by rfl) T.z_list PyProof.Rows.boot_list (pa_cons (pv 2) pa_nil)) (pk_cons (pv 3) pk_nil))))))), ?_⟩
    obtain ⟨ax, xs, rfl, eax, rx⟩ := is_lst hx
    obtain ⟨ay, ys, rfl, eay, ry⟩ := is_lst hy
    have lx := rx.length
    have ly := ry.length
    have lp := fr.lp
    have lb := fr.lb
    have axp : ax ≠ p := fun z => by rw [z, gp] at eax; cases eax
    have ayp : ay ≠ p := fun z => by rw [z, gp] at eay; cases eay
    refine ⟨_, rfl, ax, rfl, ⟨_, SqL.of (eg _ _ eax)⟩, fun D nD => ?_⟩
    have Dp : D ≠ p := fun z => hpot.some (by rw [← z]; exact nD)
    have gD : G D = none := eg.none_of nD
    refine lc_list (K := K) (a := ax) (xs := xs) (Md T.CR p D G H ps) ⟨G, [], [], (Gr.refl eg).lay nD, potTo hpot fun o ho => by rw [upd_ne Dp.symm]; exact ho, gp, gD, upd_same, .nil, rfl, rfl, fun e he => nomatch he⟩ (fun i H2 _ m => ?_) (fun i x' H2 hx' m => ?_) (fun H2 m => ?_)
    · obtain ⟨G2, es, acc, gr, _⟩ := m
      exact SqL.of (gr.gh _ _ (gr.gg _ _ eax))
    · obtain ⟨G2, es, acc, gr, pot2, g2p, g2D, h2D, iss, hacc, hes, hin⟩ := m
      obtain ⟨d, hd, isd⟩ := rx.get hx'
      have hi : i < ps.length := (List.getElem?_eq_some_iff.mp hd).1
      obtain ⟨a, b, rfl, ha, hb, hb2⟩ := fr.pt d (List.mem_of_getElem? hd)
      obtain ⟨c, u, v, rfl, ec, i1, i2⟩ := is_tup2 isd
      cases i1
      cases i2
      refine ⟨c, _, rfl, SqT.of (gr.gh _ _ (gr.gg _ _ ec)), rfl, _, _, rfl, _, _, rfl, rfl, rfl, ?_⟩
      refine ⟨_, rfl, fun z dz nz ndz nez => ⟨z, dz, a, 2, rfl, upd_same, by decide, by decide, rfl, ?_⟩⟩
      obtain ⟨g3, iz⟩ := Gr.rat (CR := T.CR) (t := nT a 2) (b := nB a 2) (Gr.refl (M := noM) gr.gh) nz ndz nez
      have pot3 := potTo pot2 fun o ho => g3.get ho
      have n3p := g3.off pot2.some g2p
      have fin : ∀ (G5 H5 : Hp) (e : Dt) (v : V) (t : Addr), Gr (atP p) G2 H2 G5 H5 → PotAt H5 p → Is T.CR G5 (hD a) (.ref z) → Is T.CR G5 e v → Num e → rOf e = hD b → H5 t = none →
          ∃ acc, (upd H5 t (.tup [.ref z, v])) D = some (.lst acc) ∧ acc.length < sizeLine ∧ Md T.CR p D G H ps (i + 1) (upd (upd H5 t (.tup [.ref z, v])) D (.lst (acc ++ [.ref t]))) := by
        intro G5 H5 e v t g5 pot5 iz5 iv ne re nt
        have h5D := g5.hh D _ Dp h2D
        have n5D := g5.off (by rw [h2D]; simp) g2D
        have n5p := g5.off pot2.some g2p
        have tD : t ≠ D := fun w => by rw [w, h5D] at nt; cases nt
        have tp : t ≠ p := fun w => pot5.some (by rw [← w]; exact nt)
        have g6 := g5.new (o := .tup [.ref z, v]) nt
        have xt := Ext.upd (o := HO.tup [.ref z, v]) (g5.gh.none_of nt)
        have n6D : (upd G5 t (.tup [.ref z, v])) D = none := by rw [upd_ne tD.symm]; exact n5D
        refine ⟨acc, by rw [upd_ne tD.symm]; exact h5D, ?_, _, es ++ [.tup [hD a, e]], _, (gr.trans g6).mut (.inl nD) n6D, ?_, ?_, n6D, upd_same, (iss.ext g6.gg).append (.cons (.tup upd_same (.cons (iz5.ext xt) (.cons (iv.ext xt) .nil))) .nil), ?_, ?_, ?_⟩
        · have : (100 : Nat) ≤ sizeLine := by decide
          omega
        · exact potTo pot5 fun o ho => by rw [upd_ne Dp.symm, upd_ne tp.symm]; exact ho
        · rw [upd_ne tp.symm]
          exact n5p
        · rw [List.length_append, hacc]
          rfl
        · have hk : (ps.map hfD)[i]? = some (hfD (.tup [.int a, .int b])) := by rw [List.getElem?_map, hd]; rfl
          rw [List.map_append, hes, List.take_add_one, hk]
          show _ ++ [Dt.tup [rOf (hD a), rOf e]] = _ ++ [Dt.tup [hD a, hD b]]
          rw [re]
          rfl
        · intro e' he'
          rcases List.mem_append.mp he' with he' | he'
          · exact hin e' he'
          · rw [List.mem_singleton] at he'
            exact ⟨hD a, e, he', trivial, ne⟩
      refine ⟨_, rfl, _, p, 2, rfl, g3.gh, n3p, pot3, (by decide), (by decide), fun H4 d4 g4 pot4 _ _ => ⟨rfl, _, rfl, ite2 (fun eq => ?_) (fun eq => ?_)⟩⟩
      · refine ⟨_, rfl, _, _, rfl, rfl, ⟨by decide, by decide⟩, (by show 2 ≤ sizeLine; decide), fun t nt => ?_⟩
        exact fin _ _ (.int (b / 2)) _ t ((Gr.weak g3).trans g4) pot4 iz (.int _) trivial (hD_even hb2).symm nt
      · refine ⟨_, rfl, fun z2 dz2 nz2 ndz2 nez2 => ⟨z2, dz2, b, 2, rfl, upd_same, by decide, by decide, rfl, ?_⟩⟩
        obtain ⟨g5, iz2⟩ := Gr.rat (CR := T.CR) (t := nT b 2) (b := nB b 2) (Gr.refl (M := noM) g4.gh) nz2 ndz2 nez2
        refine ⟨(by show 2 ≤ sizeLine; decide), fun t nt => ?_⟩
        exact fin _ _ (hD b) _ t (((Gr.weak g3).trans g4).trans (Gr.weak g5)) (potTo pot4 fun o ho => g5.get ho) (iz.ext g5.gg) iz2 trivial rfl nt
    · obtain ⟨G2, es, acc, gr, pot2, g2p, g2D, h2D, iss, hacc, hes, hin⟩ := m
      have gr2 := gr.freeze nD h2D g2D
      have iD : Is T.CR (upd G2 D (.lst acc)) (.lst es) (.ref D) := .lst upd_same (iss.ext (Ext.upd g2D))
      have n2p : (upd G2 D (.lst acc)) p = none := by rw [upd_ne Dp.symm]; exact g2p
      have eD : (upd G2 D (.lst acc)) D = some (.lst acc) := upd_same
      generalize upd G2 D (.lst acc) = G3 at gr2 iD n2p eD
      rw [List.take_of_length_le (by rw [List.length_map]; omega)] at hes
      have les : es.length = ps.length := by
        have := congrArg List.length hes
        rwa [List.length_map, List.length_map] at this
      have mk : ∀ (told bv : V) (G5 H5 : Hp), Gr (atP p) G H G5 H5 → PotAt H5 p → G5 p = none → IsSeq T.CR G5 es told → IsSeq T.CR G5 bs bv → ∀ x dx, H5 x = none → H5 dx = none → dx ≠ x →
          spFrameInit T.CR T.CF [.ref x, told, bv] (upd (upd H5 dx (.own x)) x (.ins T.CF dx [])) (fun v H2 => v = .non ∧ Q (.ref x) H2) E0 := by
        intro told bv G5 H5 g5 pot5 n5p s1 s2 x dx nx ndx ne
        have nx2 : (upd H5 dx (.own x)) x = none := by rw [upd_ne ne.symm]; exact nx
        have xp : x ≠ p := fun w => pot5.some (by rw [← w]; exact nx)
        have dp : dx ≠ p := fun w => pot5.some (by rw [← w]; exact ndx)
        refine ⟨G5, x, dx, es, bs, told, bv, rfl, (((Gr.refl (M := noM) g5.gh).lay ndx).lay nx2).gh, g5.gh.none_of nx, upd_same, s1, s2, hin, fun d hd => by rw [les]; exact fr.bar d hd, by omega, lb, fun G6 H6 p6 b6 g6 n6 i1 i2 e6 => ⟨rfl, ?_⟩⟩
        have n6p : G6 p = none := g6.off (by rw [upd_ne xp.symm, upd_ne dp.symm]; exact pot5.some) n5p
        rw [hes] at i1
        refine q _ _ _ (Gr.made g5 nx ndx ne g6 e6 n6) (potTo pot5 fun o ho => g6.hh p o xp.symm (by rw [upd_ne xp.symm, upd_ne dp.symm]; exact ho)) (by rw [upd_ne xp.symm]; exact n6p) ⟨x, dx, p6, b6, rfl, upd_same, i1.ext (Ext.upd n6), i2.ext (Ext.upd n6)⟩
      refine ⟨_, rfl, G3, p, 2, rfl, gr2.gh, n2p, pot2, (by decide), (by decide), fun H4 d4 g4 pot4 _ _ => ⟨rfl, _, rfl, ite2 (fun eq => ?_) (fun eq => ?_)⟩⟩
      · refine ⟨_, rfl, D, acc, rfl, .inl ⟨SqL.of (g4.gh _ _ (g4.gg _ _ eD)), fun l nl => ?_⟩⟩
        have g5 := (gr2.trans g4).new (o := .tup acc) nl
        have lp' : l ≠ p := fun w => pot4.some (by rw [← w]; exact nl)
        have xl := Ext.upd (o := HO.tup acc) (g4.gh.none_of nl)
        have pot5 : PotAt (upd H4 l (.tup acc)) p := potTo pot4 fun o ho => by rw [upd_ne lp'.symm]; exact ho
        have n5p : (upd G3 l (.tup acc)) p = none := by rw [upd_ne lp'.symm]; exact n2p
        have is5 : IsSeq T.CR (upd G3 l (.tup acc)) es (.ref l) := by
          obtain ⟨_, acc', ez, e', r'⟩ := is_lst iD
          cases ez
          rw [eD] at e'
          cases e'
          exact .inr (.tup upd_same (r'.ext xl))
        refine ⟨_, rfl, _, p, 2, rfl, g5.gh, n5p, pot5, (by decide), (by decide), fun H6 d6 g6 pot6 _ _ => ⟨rfl, _, rfl, ite2 (fun eq => ?_) (fun eq => ?_)⟩⟩
        · refine ⟨_, rfl, _, rfl, ay, ys, rfl, .inl ⟨SqL.of (g6.gh _ _ (g6.gg _ _ (g5.gg _ _ eay))), fun t nt => ?_⟩⟩
          have g7 := (g5.trans g6).new (o := .tup ys) nt
          have tp : t ≠ p := fun w => pot6.some (by rw [← w]; exact nt)
          have xt := Ext.upd (o := HO.tup ys) (g6.gh.none_of nt)
          exact mk _ _ _ _ g7 (potTo pot6 fun o ho => by rw [upd_ne tp.symm]; exact ho) (by rw [upd_ne tp.symm]; exact n5p) (is5.ext xt) (.inr (.tup upd_same ((ry.ext (g5.gg)).ext xt)))
        · refine ⟨_, rfl, ay, ys, rfl, .inl (SqL.of (g6.gh _ _ (g6.gg _ _ (g5.gg _ _ eay)))), fun t nt => ?_⟩
          have g7 := (g5.trans g6).new (o := .lst ys) nt
          have tp : t ≠ p := fun w => pot6.some (by rw [← w]; exact nt)
          have xt := Ext.upd (o := HO.lst ys) (g6.gh.none_of nt)
          exact ⟨_, rfl, rfl, rfl, mk _ _ _ _ g7 (potTo pot6 fun o ho => by rw [upd_ne tp.symm]; exact ho) (by rw [upd_ne tp.symm]; exact n5p) (is5.ext xt) (.inl (.lst upd_same ((ry.ext (g5.gg)).ext xt)))⟩
      · refine ⟨_, rfl, ?_⟩
        have g5 := gr2.trans g4
        have is5 : IsSeq T.CR G3 es (.ref D) := .inl iD
        refine ⟨_, rfl, _, p, 2, rfl, g5.gh, n2p, pot4, (by decide), (by decide), fun H6 d6 g6 pot6 _ _ => ⟨rfl, _, rfl, ite2 (fun eq => ?_) (fun eq => ?_)⟩⟩
        · refine ⟨_, rfl, _, rfl, ay, ys, rfl, .inl ⟨SqL.of (g6.gh _ _ (g6.gg _ _ (g5.gg _ _ eay))), fun t nt => ?_⟩⟩
          have g7 := (g5.trans g6).new (o := .tup ys) nt
          have tp : t ≠ p := fun w => pot6.some (by rw [← w]; exact nt)
          have xt := Ext.upd (o := HO.tup ys) (g6.gh.none_of nt)
          exact mk _ _ _ _ g7 (potTo pot6 fun o ho => by rw [upd_ne tp.symm]; exact ho) (by rw [upd_ne tp.symm]; exact n2p) (is5.ext xt) (.inr (.tup upd_same ((ry.ext (g5.gg)).ext xt)))
        · refine ⟨_, rfl, ay, ys, rfl, .inl (SqL.of (g6.gh _ _ (g6.gg _ _ (g5.gg _ _ eay)))), fun t nt => ?_⟩
          have g7 := (g5.trans g6).new (o := .lst ys) nt
          have tp : t ≠ p := fun w => pot6.some (by rw [← w]; exact nt)
          have xt := Ext.upd (o := HO.lst ys) (g6.gh.none_of nt)
          exact ⟨_, rfl, rfl, rfl, mk _ _ _ _ g7 (potTo pot6 fun o ho => by rw [upd_ne tp.symm]; exact ho) (by rw [upd_ne tp.symm]; exact n2p) (is5.ext xt) (.inl (.lst upd_same ((ry.ext (g5.gg)).ext xt)))⟩
end
end K84

/-! The table of drawn data, and its halves. -/
namespace K84
open PySem PySem.Spec PyProof.Rows L2

def subI : Dt → Dt → Dt
  | .int a, .int b => .int (a - b)
  | _, _ => .non
def rowKI (n i j : Nat) (near far : List Dt) : Nat → List Dt
  | 0 => List.replicate (2 * n) (.int 0)
  | k + 1 => ((rowKI n i j near far k).set (2 * i + k) (subI (near.getD k .non) (far.getD k .non))).set (2 * j + k) (subI (far.getD k .non) (near.getD k .non))
def rowBI (ps : List Dt) (i j : Nat) : List Dt := rowKI ps.length i j (xy (ps.getD i .non)) (xy (ps.getD j .non)) 2
def rowOfBarI (ps : List Dt) : Dt → Dt
  | .tup [.int i, .int j] => .lst (rowBI ps i.toNat j.toNat)
  | _ => .non
theorem rowKI_len (n i j : Nat) (near far : List Dt) : ∀ k : Nat, (rowKI n i j near far k).length = 2 * n
  | 0 => by simp [rowKI]
  | k + 1 => by simp [rowKI, rowKI_len n i j near far k]
theorem pti_at {ps : List Dt} (h : ∀ d ∈ ps, PtI d) {i : Nat} (hi : i < ps.length) : ∃ x y : Int, ps[i]? = some (.tup [.int x, .int y]) ∧ ps.getD i .non = .tup [.int x, .int y] ∧ (-5 ≤ x ∧ x ≤ 5) ∧ (-5 ≤ y ∧ y ≤ 5) ∧ y % 2 = 0 := by
  obtain ⟨x, y, e, h1, h2, h3⟩ := h ps[i] (List.getElem_mem hi)
  refine ⟨x, y, ?_, ?_, h1, h2, h3⟩
  · rw [List.getElem?_eq_getElem hi, e]
  · rw [List.getD_eq_getElem?_getD, List.getElem?_eq_getElem hi, e]
    rfl
def spTableI (CR : Addr) : Sp := fun vs H Q _ => ∃ (G : Hp) (ps bs : List Dt) (x y : V), vs = [x, y] ∧ Ext G H ∧ Is CR G (.lst ps) x ∧ Is CR G (.lst bs) y ∧ FrI ps bs ∧ ∀ G' H' v, Grow G H G' H' → Is CR G' (.lst (bs.map (rowOfBarI ps))) v → Q v H'

/-- the rows, so far -/
def Tb1 (CR ax ay l : Addr) (G H : Hp) (ps bs : List Dt) (k : Nat) (σ : L2.St) (H' : Hp) : Prop := ∃ y3 y4 y5 y6 G2 acc, σ = [some (V.ref ax), some (.ref ay), some (.ref l), y3, y4, y5, y6] ∧
  Grow G H G2 H' ∧ G2 l = none ∧ H' l = some (.lst acc) ∧ Iss CR G2 ((bs.map (rowOfBarI ps)).take k) acc ∧ acc.length = k
/-- one row, so far -/
def Tb2 (CR ax ay l r : Addr) (G H G2 : Hp) (acc : List V) (n i j : Nat) (near far : List Dt) (k : Nat) (σ : L2.St) (H' : Hp) : Prop := ∃ y6 row, σ = [some (V.ref ax), some (.ref ay), some (.ref l), some (.int i), some (.int j), some (.ref r), y6] ∧
  Grow G H G2 H' ∧ H' l = some (.lst acc) ∧ H' r = some (.lst row) ∧ Iss CR G2 (rowKI n i j near far k) row

section
variable {P : Program} {w : World} {K : PySem.W.Frag} {mg : Str → Option Value} {base : Heap}
theorem ok_l_table (T : Tx K mg) : FnOk P w K mg base CX0 1 T.l_table.f T.l_table.fd ["_law_points", "_law_bars"] (spTableI T.CR) := by
  refine T.l_table.F.ok sc_l_table (fun vs H Q E h => ?_) (fun cdv A outer s H vs Q E hr h => ?_)
  · obtain ⟨G, ps, bs, x, y, rfl, _⟩ := h
    rfl
  · obtain ⟨G, ps, bs, x, y, rfl, eg, hx, hy, fr, q⟩ := h
    have nd := sc_l_table.nd
    refine ⟨_, pss_cons (ps_set (i := 2) nd rfl (.inl rfl) (pe_lst pa_nil))
      (pss_cons (ps_for PassesOwn.never rfl (pi_list (pv 1)) (pg_tup rfl (pgs_cons (pg_name (i := 3) nd rfl (.inl rfl)) (pgs_cons (pg_name (i := 4) nd rfl (.inl rfl)) pgs_nil)))
        (pss_cons (ps_set (i := 5) nd rfl (.inl rfl) (pe_op op_rep (pe_lst (pa_cons pe_int pa_nil)) (pe_op op_mul pe_int (pe_callB call_len_seq (by rfl) T.z_len PySem.boot_len (pa_cons (pv 0) pa_nil)))))
        (pss_cons (ps_for PassesOwn.never rfl (pi_range1 (by rfl) T.z_range (pa_cons pe_int pa_nil)) (pg_name (i := 6) nd rfl (.inl rfl))
          (pss_cons (ps_asg (pe_op op_sub (pe_ix ix_tup (pe_ix ix_list (pv 0) (pv 3) (fun _ _ => rfl)) (pv 6) (fun _ _ => rfl)) (pe_ix ix_tup (pe_ix ix_list (pv 0) (pv 4) (fun _ _ => rfl)) (pv 6) (fun _ _ => rfl)))
              (pg_sub (pv 5) (pe_op op_add (pe_op op_mul pe_int (pv 3)) (pv 6)) set_list))
          (pss_one (ps_asg (pe_op op_sub (pe_ix ix_tup (pe_ix ix_list (pv 0) (pv 4) (fun _ _ => rfl)) (pv 6) (fun _ _ => rfl)) (pe_ix ix_tup (pe_ix ix_list (pv 0) (pv 3) (fun _ _ => rfl)) (pv 6) (fun _ _ => rfl)))
              (pg_sub (pv 5) (pe_op op_add (pe_op op_mul pe_int (pv 4)) (pv 6)) set_list)))))
        (pss_one (ps_expr (pe_bm PySem.F.plainAttrs_list PySem.F.slot_list_append PySem.F.type_list_append mt_append (pv 2) (pa_cons (pv 5) pa_nil)))))))
      (pss_one (ps_ret (pv 2)))), ?_⟩
    obtain ⟨ax, xs, rfl, eax, rx⟩ := is_lst hx
    obtain ⟨ay, ys, rfl, eay, ry⟩ := is_lst hy
    have lx := rx.length
    have ly := ry.length
    have lp := fr.lp
    have lb := fr.lb
    refine ⟨Nat.zero_le _, fun l nl => ?_⟩
    have gl : G l = none := eg.none_of nl
    refine ⟨_, rfl, ay, rfl, ⟨_, SqL.of (Ext.upd nl _ _ (eg _ _ eay))⟩, ?_⟩
    refine for_list (K := K) (a := ay) (xs := ys) (Tb1 T.CR ax ay l G H ps bs)
      ⟨_, _, _, _, G, [], rfl, (Gr.refl eg).lay nl, gl, upd_same, .nil, rfl⟩ (fun k σ H' _ hw => ?_) (fun k x' σ H' hx' hw => ?_) (fun σ H' hw => ?_)
    · obtain ⟨y3, y4, y5, y6, G2, acc, rfl, gr, _⟩ := hw
      exact SqL.of (gr.gh _ _ (gr.gg _ _ eay))
    · obtain ⟨y3, y4, y5, y6, G2, acc, rfl, gr, g2l, hl, iss, hacc⟩ := hw
      obtain ⟨d, hd, isd⟩ := ry.get hx'
      obtain ⟨i, j, rfl, hij, hj⟩ := fr.bar d (List.mem_of_getElem? hd)
      have hk : k < bs.length := (List.getElem?_eq_some_iff.mp hd).1
      obtain ⟨c, u, v, rfl, ec, i1, i2⟩ := is_tup2 isd
      cases i1
      cases i2
      refine ⟨c, _, rfl, SqT.of (gr.gh _ _ (gr.gg _ _ ec)), rfl, _, _, rfl, _, _, rfl, rfl, ?_⟩
      refine ⟨(by show 1 ≤ sizeLine; decide), fun l0 nl0 => ?_⟩
      have gr2 := gr.lay (o := .lst [V.int 0]) nl0
      refine ⟨_, rfl, ax, xs, rfl, .inl (SqL.of (gr2.gh _ _ (gr2.gg _ _ eax))), _, _, rfl, rfl, .inl ⟨by decide, by decide⟩, ?_⟩
      refine ⟨l0, _, [V.int 0], rfl, rfl, upd_same, by omega, by omega, ?_, fun r nr => ?_⟩
      · have : (100 : Nat) ≤ sizeLine := by decide
        rw [List.length_singleton]
        omega
      have ek : ((2 : Int) * (xs.length : Int)).toNat = 2 * ps.length := by omega
      rw [ek, List.flatten_replicate_singleton]
      have gr3 := gr2.lay (o := .lst (List.replicate (2 * ps.length) (V.int 0))) nr
      have hr0 : H r = none := gr2.al r nr
      have g2r : G2 r = none := gr2.gh.none_of nr
      have l0l : l ≠ l0 := fun z => by rw [← z, hl] at nl0; cases nl0
      have hl2 : (upd H' l0 (.lst [V.int 0])) l = some (.lst acc) := by rw [upd_ne l0l]; exact hl
      have rl : l ≠ r := fun z => by rw [← z, hl2] at nr; cases nr
      obtain ⟨x1, y1, g1, e1, _⟩ := pti_at fr.pt (show i < ps.length by omega)
      obtain ⟨x2, y2, g2, e2, _⟩ := pti_at fr.pt hj
      obtain ⟨nv, gn, isn⟩ := rx.getD g1
      obtain ⟨fv, gf, isf⟩ := rx.getD g2
      obtain ⟨na, n0, n1, rfl, ena, in0, in1⟩ := is_tup2 isn
      obtain ⟨fa, f0, f1, rfl, efa, if0, if1⟩ := is_tup2 isf
      cases in0
      cases in1
      cases if0
      cases if1
      refine ⟨2, rfl, by decide, by decide, ?_⟩
      refine for_range (n := 2) (Tb2 T.CR ax ay l r G H G2 acc ps.length i j [.int x1, .int y1] [.int x2, .int y2])
        ⟨_, _, rfl, gr3, by rw [upd_ne rl]; exact hl2, upd_same, iss_repl (.int 0) _⟩ (fun t σ H' ht hw => ?_) (fun σ H' hw => ?_)
      · obtain ⟨y6, row, rfl, gr4, hl4, hr4, ir⟩ := hw
        have up : ∀ {H6 : Hp}, Grow G H G2 H6 → ∀ {q : Addr} {o : HO}, G q = some o → H6 q = some o := by intro H6 g q o h; exact g.gh _ _ (g.gg _ _ h)
        have ez : (0 : Int) + (t : Int) = (t : Int) := Int.zero_add _
        have la := ir.length
        rw [rowKI_len] at la
        obtain ⟨a, b, an, af, en, ef⟩ : ∃ a b : Int, atI [V.int x1, .int y1] (0 + (t : Int)) = some (.int a) ∧ atI [V.int x2, .int y2] (0 + (t : Int)) = some (.int b) ∧
            [Dt.int x1, .int y1].getD t .non = .int a ∧ [Dt.int x2, .int y2].getD t .non = .int b := by
          have htt : t = 0 ∨ t = 1 := by omega
          rcases htt with rfl | rfl
          · exact ⟨x1, x2, atI_nat (j := 0) rfl, atI_nat (j := 0) rfl, rfl, rfl⟩
          · exact ⟨y1, y2, atI_nat (j := 1) rfl, atI_nat (j := 1) rfl, rfl, rfl⟩
        refine ⟨_, rfl, _, rfl, ax, xs, _, _, rfl, rfl, SqL.of (up gr4 eax), atI_nat gn, _, rfl, na, _, _, _, rfl, rfl, SqT.of (up gr4 ena), an, ?_⟩
        refine ⟨_, rfl, _, rfl, ax, xs, _, _, rfl, rfl, SqL.of (up gr4 eax), atI_nat gf, _, rfl, fa, _, _, _, rfl, rfl, SqT.of (up gr4 efa), af, _, _, rfl, rfl, ?_⟩
        refine ⟨_, rfl, _, rfl, _, _, rfl, rfl, .inl ⟨by decide, by decide⟩, _, rfl, _, _, rfl, rfl, ?_⟩
        have k1 : ((2 : Int) * (i : Int) + (0 + (t : Int))) = ((2 * i + t : Nat) : Int) := by omega
        refine ⟨r, row, _, 2 * i + t, rfl, rfl, hr4, by rw [k1]; exact ixN_at (by omega), ?_⟩
        have gr5 : Grow G H G2 (upd H' r (.lst (row.set (2 * i + t) (.int (a - b))))) := gr4.mut (.inl hr0) g2r
        refine ⟨_, rfl, _, rfl, ax, xs, _, _, rfl, rfl, SqL.of (up gr5 eax), atI_nat gf, _, rfl, fa, _, _, _, rfl, rfl, SqT.of (up gr5 efa), af, ?_⟩
        refine ⟨_, rfl, _, rfl, ax, xs, _, _, rfl, rfl, SqL.of (up gr5 eax), atI_nat gn, _, rfl, na, _, _, _, rfl, rfl, SqT.of (up gr5 ena), an, _, _, rfl, rfl, ?_⟩
        refine ⟨_, rfl, _, rfl, _, _, rfl, rfl, .inl ⟨by decide, by decide⟩, _, rfl, _, _, rfl, rfl, ?_⟩
        have k2 : ((2 : Int) * (j : Int) + (0 + (t : Int))) = ((2 * j + t : Nat) : Int) := by omega
        refine ⟨r, _, _, 2 * j + t, rfl, rfl, upd_same, by rw [k2, List.length_set]; exact ixN_at (by omega), ?_⟩
        refine ⟨_, _, rfl, gr5.mut (.inl hr0) g2r, by rw [upd_ne rl, upd_ne rl]; exact hl4, upd_same, ?_⟩
        rw [rowKI, en, ef]
        exact Iss.set (Iss.set ir (.int (a - b)) _) (.int (b - a)) _
      · obtain ⟨y6, row, rfl, gr4, hl4, hr4, ir⟩ := hw
        have g5 := gr4.freeze hr0 hr4 g2r
        have n5 : (upd G2 r (.lst row)) l = none := by rw [upd_ne rl]; exact g2l
        refine ⟨_, rfl, .inl ⟨rfl, _, SqL.of hl4⟩, _, rfl, l, acc, _, rfl, rfl, hl4, ?_, ?_⟩
        · have : (100 : Nat) ≤ sizeLine := by decide
          omega
        refine ⟨_, _, _, _, _, _, rfl, g5.mut (.inl nl) n5, n5, upd_same, ?_, by rw [List.length_append, hacc]; rfl⟩
        have hk' : (bs.map (rowOfBarI ps))[k]? = some (.lst (rowBI ps i j)) := by
          rw [List.getElem?_map, hd]
          rfl
        have er : rowBI ps i j = rowKI ps.length i j [.int x1, .int y1] [.int x2, .int y2] 2 := by
          unfold rowBI
          rw [e1, e2]
          rfl
        rw [List.take_add_one, hk', er]
        have xr := Ext.upd (o := HO.lst row) g2r
        exact (iss.ext xr).append (.cons (.lst upd_same (ir.ext xr)) .nil)
    · obtain ⟨y3, y4, y5, y6, G2, acc, rfl, gr, g2l, hl, iss, hacc⟩ := hw
      rw [List.take_of_length_le (by rw [List.length_map]; omega)] at iss
      exact ⟨_, rfl, q _ _ _ (gr.freeze nl hl g2l) (.lst upd_same (iss.ext (Ext.upd g2l)))⟩
end
end K84

/-! The plain law: halves of drawn data. -/
namespace K84
open PySem PySem.Spec PyProof.Rows L2

theorem hD_odd {y : Int} (h : y % 2 = 1) : hD y = .rat y 2 := by
  have e : Nat.gcd y.natAbs (2 : Int).natAbs = 1 := by
    show Nat.gcd y.natAbs 2 = 1
    have h1 : Nat.gcd y.natAbs 2 ≤ 2 := Nat.gcd_le_right _ (by decide)
    have h2 : 0 < Nat.gcd y.natAbs 2 := Nat.gcd_pos_of_pos_right _ (by decide)
    have h3 : Nat.gcd y.natAbs 2 ∣ y.natAbs := Nat.gcd_dvd_left _ _
    rcases (show Nat.gcd y.natAbs 2 = 1 ∨ Nat.gcd y.natAbs 2 = 2 by omega) with q | q
    · exact q
    · rw [q] at h3
      omega
  unfold hD nT nB
  rw [e]
  simp
theorem par (y : Int) : y % 2 = 0 ∨ y % 2 = 1 := by omega
theorem nTB_four {u : Int} (h : u % 2 = 0) : Dt.rat (nT (u * 2) 4) (nB (u * 2) 4) = .rat (u / 2) 1 := by
  have e : Nat.gcd (u * 2).natAbs (4 : Int).natAbs = 4 := by
    show Nat.gcd (u * 2).natAbs 4 = 4
    exact Nat.gcd_eq_right (by omega)
  unfold nT nB
  rw [e]
  have e1 : u * 2 / ((4 : Nat) : Int) = u / 2 := by omega
  rw [e1]
  rfl
/-- halves are taken away as numbers are -/
theorem sub_half (a b : Int) : subD (hD a) (hD b) = hD (a - b) := by
  rcases par a with ha | ha <;> rcases par b with hb | hb
  · rw [hD_even ha, hD_even hb, hD_even (by omega)]
    show Dt.rat (nT (a / 2 * 1 - b / 2 * 1) 1) (nB (a / 2 * 1 - b / 2 * 1) 1) = _
    rw [nT_one, nB_one, show a / 2 * 1 - b / 2 * 1 = (a - b) / 2 by omega]
  · rw [hD_even ha, hD_odd hb]
    show Dt.rat (nT (a / 2 * 2 - b * 1) 2) (nB (a / 2 * 2 - b * 1) 2) = _
    rw [show a / 2 * 2 - b * 1 = a - b by omega]
    rfl
  · rw [hD_odd ha, hD_even hb]
    show Dt.rat (nT (a * 1 - b / 2 * 2) 2) (nB (a * 1 - b / 2 * 2) 2) = _
    rw [show a * 1 - b / 2 * 2 = a - b by omega]
    rfl
  · rw [hD_odd ha, hD_odd hb, hD_even (by omega)]
    show Dt.rat (nT (a * 2 - b * 2) 4) (nB (a * 2 - b * 2) 4) = _
    rw [show a * 2 - b * 2 = (a - b) * 2 by omega]
    exact nTB_four (by omega)
theorem hD_inj {a b : Int} (h : hD a = hD b) : a = b := by
  rcases par a with ha | ha <;> rcases par b with hb | hb
  · rw [hD_even ha, hD_even hb] at h
    injection h with h1 h2
    omega
  · rw [hD_even ha, hD_odd hb] at h
    injection h with h1 h2
    omega
  · rw [hD_odd ha, hD_even hb] at h
    injection h with h1 h2
    omega
  · rw [hD_odd ha, hD_odd hb] at h
    injection h

/-- half of a whole number -/
def hDd : Dt → Dt
  | .int n => hD n
  | _ => .non
def rowH : Dt → Dt
  | .lst ds => .lst (ds.map hDd)
  | _ => .non
theorem hDd_zero : hDd (.int 0) = .rat 0 1 := hD_even (by decide)
theorem map_set' {f : Dt → Dt} : ∀ (l : List Dt) (n : Nat) (d : Dt), (l.set n d).map f = (l.map f).set n (f d)
  | [], _, _ => rfl
  | _ :: _, 0, _ => rfl
  | a :: l, n + 1, d => by
    show f a :: (l.set n d).map f = f a :: (l.map f).set n (f d)
    rw [map_set' l n d]
theorem rowKI_map (n i j : Nat) (x1 y1 x2 y2 : Int) : ∀ k : Nat, k ≤ 2 → (rowKI n i j [.int x1, .int y1] [.int x2, .int y2] k).map hDd = rowK n i j [hD x1, hD y1] [hD x2, hD y2] k
  | 0, _ => by
    rw [rowKI, rowK, List.map_replicate, hDd_zero]
  | k + 1, hk => by
    have hkk : k = 0 ∨ k = 1 := by omega
    rw [rowKI, rowK, map_set', map_set', rowKI_map n i j x1 y1 x2 y2 k (by omega)]
    rcases hkk with rfl | rfl
    · show ((rowK _ _ _ _ _ 0).set _ (hD (x1 - x2))).set _ (hD (x2 - x1)) = ((rowK _ _ _ _ _ 0).set _ (subD (hD x1) (hD x2))).set _ (subD (hD x2) (hD x1))
      rw [sub_half, sub_half]
    · show ((rowK _ _ _ _ _ 1).set _ (hD (y1 - y2))).set _ (hD (y2 - y1)) = ((rowK _ _ _ _ _ 1).set _ (subD (hD y1) (hD y2))).set _ (subD (hD y2) (hD y1))
      rw [sub_half, sub_half]
theorem getD_map {ps : List Dt} {i : Nat} (hi : i < ps.length) (f : Dt → Dt) : (ps.map f).getD i .non = f (ps.getD i .non) := by
  rw [List.getD_eq_getElem?_getD, List.getD_eq_getElem?_getD, List.getElem?_map, List.getElem?_eq_getElem hi]
  rfl
theorem rowH_bar {ps : List Dt} (h : ∀ d ∈ ps, PtI d) {d : Dt} (hd : BarD ps.length d) : rowH (rowOfBarI ps d) = rowOfBar (ps.map hfD) d := by
  obtain ⟨i, j, rfl, hij, hj⟩ := hd
  obtain ⟨x1, y1, _, e1, _⟩ := pti_at h (show i < ps.length by omega)
  obtain ⟨x2, y2, _, e2, _⟩ := pti_at h hj
  show Dt.lst ((rowBI ps i j).map hDd) = .lst (rowB (ps.map hfD) i j)
  unfold rowBI rowB
  rw [getD_map (by omega), getD_map hj, e1, e2, List.length_map]
  exact congrArg Dt.lst (rowKI_map _ _ _ _ _ _ _ 2 (Nat.le_refl _))
theorem tableI_half {ps bs : List Dt} (h : FrI ps bs) : (bs.map (rowOfBarI ps)).map rowH = tableD (ps.map hfD) bs := by
  rw [tableD, List.map_map]
  exact List.map_congr_left fun d hd => rowH_bar h.pt (h.bar d hd)
theorem hD_hs {x : Int} (h : -100 ≤ x ∧ x ≤ 100) : Hs (hD x) := by
  refine ⟨?_, nB_two x⟩
  have := nT_lim (t := x) (b := 2) (M := 100) (by omega)
  omega
theorem hfD_pts {d : Dt} (h : PtI d) : PtS (hfD d) := by
  obtain ⟨x, y, rfl, h1, h2, _⟩ := h
  exact ⟨hD x, hD y, rfl, hD_hs (by omega), hD_hs (by omega)⟩
theorem FrI.frs {ps bs : List Dt} (h : FrI ps bs) : FrS (ps.map hfD) bs := by
  refine ⟨fun d hd => ?_, fun d hd => by rw [List.length_map]; exact h.bar d hd, by rw [List.length_map]; exact h.lp, h.lb⟩
  obtain ⟨e, he, rfl⟩ := List.mem_map.mp hd
  exact hfD_pts (h.pt e he)
theorem hfD_inj {d e : Dt} (h : PtI d) (g : PtI e) (q : hfD d = hfD e) : d = e := by
  obtain ⟨x, y, rfl, _⟩ := h
  obtain ⟨x', y', rfl, _⟩ := g
  have q' : Dt.tup [hD x, hD y] = .tup [hD x', hD y'] := q
  injection q' with q1
  injection q1 with a b
  injection b with b c
  rw [hD_inj a, hD_inj b]
theorem map_hfD_inj : ∀ {ps qs : List Dt}, (∀ d ∈ ps, PtI d) → (∀ d ∈ qs, PtI d) → ps.map hfD = qs.map hfD → ps = qs
  | [], [], _, _, _ => rfl
  | [], _ :: _, _, _, h => by cases h
  | _ :: _, [], _, _, h => by cases h
  | d :: ps, e :: qs, h, g, q => by
    have q' : hfD d :: ps.map hfD = hfD e :: qs.map hfD := q
    injection q' with a b
    rw [hfD_inj (h d (List.mem_cons_self ..)) (g e (List.mem_cons_self ..)) a, map_hfD_inj (fun x hx => h x (List.mem_cons_of_mem _ hx)) (fun x hx => g x (List.mem_cons_of_mem _ hx)) b]
theorem sames_hfD {ps qs : List Dt} (h : ∀ d ∈ ps, PtI d) (g : ∀ d ∈ qs, PtI d) : Dt.sames (ps.map hfD) (qs.map hfD) = Dt.sames ps qs := by
  cases a : Dt.sames ps qs with
  | true =>
    rw [sames_eq a]
    exact sames_self _
  | false =>
    cases b : Dt.sames (ps.map hfD) (qs.map hfD) with
    | false => rfl
    | true =>
      have e := map_hfD_inj h g (sames_eq b)
      rw [e, sames_self] at a
      cases a
end K84

/-! What is told of a frame is right. -/
namespace K84
open PySem PySem.Spec PyProof.Rows L2

theorem pi_listK {X : Cx} {K : PySem.W.Frag} {tg l : Expr} {tl : TE} (hK : X.K = K) (hl : PE X l tl) : PI X tg l (iList K tl) := by
  subst hK
  exact pi_list hl
/-- the block of the rows -/
def scRow : Scope := { kind := .function, names := [((".0" : Str), .local), (("_law_row" : Str), .local)], isGenerator := false, isCoroutine := false }
def spToldRight (CR CF : Addr) : Sp := fun vs H Q _ => ∃ (G : Hp) (ps bs : List Dt) (x y z : V), vs = [x, y, z] ∧ Ext G H ∧ FrAt CR CF G (ps.map hfD) bs x ∧ Is CR G (.lst ps) y ∧ Is CR G (.lst bs) z ∧ FrI ps bs ∧ ∀ H', Ext H H' → Q (.bl true) H'
theorem hf_ht' {d : Dt} (h : Hf d) : d.ht = 0 := hf_ht h
theorem tab_ht {n : Nat} {d : Dt} (h : TabRow n d) : d.ht ≤ 1 := by
  obtain ⟨ds, rfl, _, hf⟩ := h
  have := hts_le (N := 0) fun e he => Nat.le_of_eq (hf_ht (hf e he))
  rw [Dt.ht]
  omega
theorem tab_ok {n : Nat} {d : Dt} (h : TabRow n d) : d.ok := by
  obtain ⟨ds, rfl, _, hf⟩ := h
  rw [Dt.ok]
  exact oks_of fun e he => hf_ok (hf e he)
theorem tab_cnt {n : Nat} (hn : n ≤ 5) {d : Dt} (h : TabRow n d) : cnt d ≤ 11 := by
  obtain ⟨ds, rfl, hl, hf⟩ := h
  have := cnts_le (N := 1) fun e he => Nat.le_of_eq (hf_cnt (hf e he))
  rw [cnt]
  omega
theorem FrS.fitT {ps bs : List Dt} (h : FrS ps bs) : Dt.hts (tableD ps bs) ≤ 1 ∧ Dt.oks (tableD ps bs) ∧ (listText (Dt.texts (tableD ps bs))).length ≤ sizeLine := by
  refine ⟨hts_le fun d hd => tab_ht (h.rows d hd), oks_of fun d hd => tab_ok (h.rows d hd), list_fits (fun d hd => tab_ok (h.rows d hd)) ?_⟩
  have := cnts_le (N := 11) fun d hd => tab_cnt h.lp (h.rows d hd)
  have e : (tableD ps bs).length = bs.length := by simp [tableD]
  have := h.lb
  omega
theorem FrOk.fits {ps bs : List Dt} (h : FrOk ps bs) : (Dt.hts ps ≤ 1 ∧ Dt.oks ps ∧ (listText (Dt.texts ps)).length ≤ sizeLine) ∧ Dt.hts bs ≤ 1 ∧ Dt.oks bs ∧ (listText (Dt.texts bs)).length ≤ sizeLine :=
  ⟨⟨hts_le fun d hd => pt_ht (h.pt d hd), oks_of fun d hd => pt_ok (h.pt d hd), h.fitP⟩, hts_le fun d hd => bar_ht (h.bar d hd), oks_of fun d hd => bar_ok h.lp (h.bar d hd), h.fitB⟩
theorem FrOk.all {ps bs : List Dt} (h : FrOk ps bs) : Dt.hts [.lst ps, .lst bs, .int ps.length] ≤ 2 ∧ Dt.oks [.lst ps, .lst bs, .int ps.length] ∧ (listText (Dt.texts [.lst ps, .lst bs, .int ps.length])).length ≤ sizeLine := by
  obtain ⟨⟨a1, a2, _⟩, b1, b2, _⟩ := h.fits
  have lp := h.lp
  have lb := h.lb
  have oki : Dt.ok (.int (ps.length : Nat)) := by
    rw [Dt.ok]
    exact sm_log (by omega)
  refine ⟨?_, ?_, ?_⟩
  · simp only [Dt.hts, Dt.ht]
    omega
  · simp only [Dt.oks, Dt.ok]
    rw [Dt.ok] at oki
    exact ⟨a2, b2, oki, trivial⟩
  · refine list_fits (fun d hd => ?_) ?_
    · rcases List.mem_cons.mp hd with rfl | hd
      · rw [Dt.ok]; exact a2
      · rcases List.mem_cons.mp hd with rfl | hd
        · rw [Dt.ok]; exact b2
        · rw [List.mem_singleton] at hd
          rw [hd]
          exact oki
    · have c1 := cnts_le (N := 3) fun d hd => pt_cnt (h.pt d hd)
      have c2 := cnts_le (N := 3) fun d hd => bar_cnt (h.bar d hd)
      simp only [cnts, cnt]
      omega
/-- all are whole numbers -/
def AllI (ds : List Dt) : Prop := ∀ d ∈ ds, ∃ n : Int, d = .int n
theorem rowKI_int (n i j : Nat) (x1 y1 x2 y2 : Int) : ∀ k : Nat, k ≤ 2 → AllI (rowKI n i j [.int x1, .int y1] [.int x2, .int y2] k)
  | 0, _ => fun d hd => by
    rw [rowKI] at hd
    exact ⟨0, List.eq_of_mem_replicate hd⟩
  | k + 1, hk => fun d hd => by
    rw [rowKI] at hd
    have hkk : k = 0 ∨ k = 1 := by omega
    rcases List.mem_or_eq_of_mem_set hd with hd | rfl
    · rcases List.mem_or_eq_of_mem_set hd with hd | rfl
      · exact rowKI_int n i j x1 y1 x2 y2 k (by omega) d hd
      · rcases hkk with rfl | rfl
        · exact ⟨x1 - x2, rfl⟩
        · exact ⟨y1 - y2, rfl⟩
    · rcases hkk with rfl | rfl
      · exact ⟨x2 - x1, rfl⟩
      · exact ⟨y2 - y1, rfl⟩
theorem rowI_int {ps : List Dt} (h : ∀ d ∈ ps, PtI d) {d : Dt} (hd : BarD ps.length d) : ∃ ds, rowOfBarI ps d = .lst ds ∧ AllI ds ∧ ds.length = 2 * ps.length := by
  obtain ⟨i, j, rfl, hij, hj⟩ := hd
  obtain ⟨x1, y1, _, e1, _⟩ := pti_at h (show i < ps.length by omega)
  obtain ⟨x2, y2, _, e2, _⟩ := pti_at h hj
  refine ⟨rowBI ps i j, rfl, ?_, rowKI_len ..⟩
  unfold rowBI
  rw [e1, e2]
  exact rowKI_int _ _ _ _ _ _ _ 2 (Nat.le_refl _)

section
variable {P : Program} {w : World} {K : PySem.W.Frag} {mg : Str → Option Value} {base : Heap}
theorem kbApp {x qual : Str} {st : Stmt} {f : Addr} {fd : FuncData} {ps ks : List Str} (F : Fun K x qual st f fd)
    (h : ∀ (kV doc pm : Value) (an : Option Addr) (cdv ct : Value) (us ws : List Value), (us ++ ws).length = ps.length → bindArgs (PySem.W.fnOf x qual (defArgs st) (defBody st) (defScope st) .none kV doc pm an cdv ct) ⟨us, ks.zip ws⟩ = pure (ps.zip (us ++ ws))) :
    KBinds K fd ps ks (fun us ws => us ++ ws) (fun vs zs => vs ++ zs) := by
  obtain ⟨oc, od, kV, doc, pm, an, cdv, ct, osl, rfl, lk, hcd⟩ := F.ex
  exact ⟨fun s us ws X l1 => .of_eq (h kV doc pm an cdv ct us ws l1), fun r1 r2 => r1.append r2⟩
theorem bFPK (T : Tx K mg) : KBinds K T.frame_pairs.fd ["frame"] ["frame"] (fun us ws => us ++ ws) (fun vs zs => vs ++ zs) :=
  kbApp T.frame_pairs.F fun kV doc pm an cdv ct us ws l1 => match us, ws, l1 with | [_], [], _ => rfl | [], [_], _ => rfl
theorem eqP (T : Tx K mg) {X : Cx} (h1 : X.K = K) (F : FnOk X.prog X.w X.K X.mg X.base CX0 5 T.Pairs_eq.f T.Pairs_eq.fd ["self", "other"] (spPairsEq T.CR T.CP)) : OwnEq X T.CP 5 (spPairsEq T.CR T.CP) := by
  subst h1
  exact ⟨T.Pairs_eq.f, T.Pairs_eq.fd, F, T.Pairs_eq.m.at_, T.Pairs_eq.m.fn, T.Pairs_eq.b, T.Pairs.ne, T.Pairs.cm⟩

theorem ok_l_told_right (T : Tx K mg) : FnG P w K mg base 11 T.l_told_right.f T.l_told_right.fd ["_law_frame_here", "_law_points", "_law_bars"] (spToldRight T.CR T.CF) := by
  have F1 := ok_halves (P := P) (w := w) (base := base) T
  have F2 := ok_ratRepr (P := P) (w := w) (base := base) T
  have F3 := ok_framePoints (P := P) (w := w) (base := base) T
  have F4 := ok_frameBars (P := P) (w := w) (base := base) T
  have F5 := ok_frameMany (P := P) (w := w) (base := base) T
  have F6 := ok_frameRepr (P := P) (w := w) (base := base) T
  have F7 := ok_l_table (P := P) (w := w) (base := base) T
  have F8 := ok_bar_table (P := P) (w := w) (base := base) T
  have F9 := ok_frame_pairs (P := P) (w := w) (base := base) T
  have F10 := ok_pairsInit (P := P) (w := w) (base := base) T
  have F11 := ok_pairsEq (P := P) (w := w) (base := base) T
  have F12 := ok_pairsSize (P := P) (w := w) (base := base) T
  refine T.l_told_right.F.okG sc_l_told_right (fun vs H Q E h => ?_) (fun cdv A outer s H vs Q E hg hr h => ?_)
  · obtain ⟨G, ps, bs, x, y, z, rfl, _⟩ := h
    rfl
  · obtain ⟨G, ps, bs, x, y, z, rfl, eg, hx, hy, hz, fr, q⟩ := h
    have nd := sc_l_told_right.nd
    refine ⟨_, pss_cons (ps_setLc (i := 3) (own := [("_law_near", 7), ("_law_far", 8)]) (tt := tYes) rfl nd rfl rfl (sw_true rfl rfl rfl rfl) (pi_list (pv 1))
          (blkOk_by (own := [("_law_near", 7), ("_law_far", 8)]) (N := ["_law_frame_here", "_law_points", "_law_bars", "_law_due", "_law_rows", "_law_pairs", "_law_at", "_law_near", "_law_far", "_law_row", "_law_number", "_law_bar"]) (sc := defScope s_l_told_right) (by decide +kernel))
          (fun _ _ _ _ _ => pg_tupK (K := K) (n := 2) rfl rfl (pgs_cons (pg_name (i := 7) nd rfl (.inl rfl)) (pgs_cons (pg_name (i := 8) nd rfl (.inl rfl)) pgs_nil))) (fun _ _ _ _ _ => pts_nil)
          (fun _ _ _ _ _ => pe_tup (pa_cons (pe_call F1 (hr.mono (by decide)) (by rfl) T.l_halves.g T.l_halves.F.kp T.l_halves.b .nil pass0 (pa_cons (pv 7) pa_nil))
            (pa_cons (pe_call F1 (hr.mono (by decide)) (by rfl) T.l_halves.g T.l_halves.F.kp T.l_halves.b .nil pass0 (pa_cons (pv 8) pa_nil)) pa_nil))))
      (pss_cons (ps_if (pt_cmpR op_ne
          (pe_callB (call_reprD (ratRep T rfl F2) 2 hg (hr.mono (by decide))) (by rfl) T.z_repr boot_repr (pa_cons (pe_lst (pa_cons (pe_meth0 (pv 0) T.Frame.cl T.Frame_points.m F3 (hr.mono (by decide)) T.Frame_points.b .nil pass0)
            (pa_cons (pe_meth0 (pv 0) T.Frame.cl T.Frame_bars.m F4 (hr.mono (by decide)) T.Frame_bars.b .nil pass0) (pa_cons (pe_prop (pv 0) T.Frame.cl T.Frame_many.pr F5 (hr.mono (by decide)) T.Frame_many.b .nil pass0 rfl) pa_nil)))) pa_nil))
          (pe_callB (call_reprD (ratRep T rfl F2) 2 hg (hr.mono (by decide))) (by rfl) T.z_repr boot_repr (pa_cons (pe_lst (pa_cons (pv 3)
            (pa_cons (pe_lc (own := [("_law_bar", 11)]) (g := gName 11) (tt := tYes) rfl nd (pi_list (pv 2))
              (blkOk_by (own := [("_law_bar", 11)]) (N := ["_law_frame_here", "_law_points", "_law_bars", "_law_due", "_law_rows", "_law_pairs", "_law_at", "_law_near", "_law_far", "_law_row", "_law_number", "_law_bar"]) (sc := defScope s_l_told_right) (by decide +kernel)) (fun _ _ _ _ _ => pg_name (i := 11) nd rfl (.inl rfl)) (fun _ _ _ _ _ => pts_nil)
              (fun _ _ _ _ _ => pe_callTy (call_tuple_ofK (K := K) rfl) (by rfl) T.z_tuple PyProof.Rows.boot_tuple (pa_cons (pv 11) pa_nil)))
            (pa_cons (pe_callB call_len_seq (by rfl) T.z_len PySem.boot_len (pa_cons (pv 1) pa_nil)) pa_nil)))) pa_nil)) (nomark _)) pss_never pss_nil)
      (pss_cons (ps_if (pt_cmpR op_ne (pe_callB (call_reprC F6 hg T.Frame_repr.m.at_ T.Frame_repr.m.fn T.Frame_repr.b (hr.mono (by decide))) (by rfl) T.z_repr boot_repr (pa_cons (pv 0) pa_nil))
          (pe_op op_add_str (pe_op op_add_str (pe_op op_add_str (pe_op op_add_str pe_str (pe_callB (call_reprD (ratRep T rfl F2) 1 hg (hr.mono (by decide))) (by rfl) T.z_repr boot_repr (pa_cons (pv 3) pa_nil))) pe_str)
            (pe_callB (call_reprD (ratRep T rfl F2) 1 hg (hr.mono (by decide))) (by rfl) T.z_repr boot_repr (pa_cons (pe_lc (own := [("_law_bar", 11)]) (g := gName 11) (tt := tYes) rfl nd (pi_list (pv 2))
              (blkOk_by (own := [("_law_bar", 11)]) (N := ["_law_frame_here", "_law_points", "_law_bars", "_law_due", "_law_rows", "_law_pairs", "_law_at", "_law_near", "_law_far", "_law_row", "_law_number", "_law_bar"]) (sc := defScope s_l_told_right) (by decide +kernel)) (fun _ _ _ _ _ => pg_name (i := 11) nd rfl (.inl rfl)) (fun _ _ _ _ _ => pts_nil)
              (fun _ _ _ _ _ => pe_callTy (call_tuple_ofK (K := K) rfl) (by rfl) T.z_tuple PyProof.Rows.boot_tuple (pa_cons (pv 11) pa_nil))) pa_nil))) pe_str) (nomark _)) pss_never pss_nil)
      (pss_cons (ps_setLc (i := 4) (own := [("_law_row", 9)]) (g := gName 9) (tt := tYes) rfl nd rfl rfl (sw_true rfl rfl rfl rfl) (pi_list (pe_call F7 (hr.mono (by decide)) (by rfl) T.l_table.g T.l_table.F.kp T.l_table.b .nil pass0 (pa_cons (pv 1) (pa_cons (pv 2) pa_nil))))
          (blkOk_by (own := [("_law_row", 9)]) (N := ["_law_frame_here", "_law_points", "_law_bars", "_law_due", "_law_rows", "_law_pairs", "_law_at", "_law_near", "_law_far", "_law_row", "_law_number", "_law_bar"]) (sc := defScope s_l_told_right) (by decide +kernel))
          (fun _ _ _ _ _ => pg_name (i := 9) nd rfl (.inl rfl)) (fun _ _ _ _ _ => pts_nil)
          (fun _ _ _ _ _ => pe_lc (own := [("_law_number", 10)]) (g := gName 10) (tt := tYes) rfl nd (pi_listK (K := K) rfl (pv 9))
            (blkOk_by (own := [("_law_number", 10)]) (N := ["_law_frame_here", "_law_points", "_law_bars", "_law_due", "_law_rows", "_law_pairs", "_law_at", "_law_near", "_law_far", "_law_row", "_law_number", "_law_bar"]) (sc := scRow) (by decide +kernel))
            (fun _ _ _ _ _ => pg_name (i := 10) nd rfl (.inl rfl)) (fun _ _ _ _ _ => pts_nil)
            (fun _ _ _ _ _ => pe_call F1 (hr.mono (by decide)) (by rfl) T.l_halves.g T.l_halves.F.kp T.l_halves.b .nil pass0 (pa_cons (pv 10) pa_nil))))
      (pss_cons (ps_if (pt_cmpR op_ne (pe_callB (call_reprD (ratRep T rfl F2) 1 hg (hr.mono (by decide))) (by rfl) T.z_repr boot_repr (pa_cons (pe_call F8 (hr.mono (by decide)) (by rfl) T.bar_table.g T.bar_table.F.kp T.bar_table.b .nil pass0 (pa_cons (pv 0) pa_nil)) pa_nil))
          (pe_callB (call_reprD (ratRep T rfl F2) 1 hg (hr.mono (by decide))) (by rfl) T.z_repr boot_repr (pa_cons (pv 4) pa_nil)) (nomark _)) pss_never pss_nil)
      (pss_cons (ps_set (i := 5) nd rfl (.inl rfl) (pe_lst pa_nil))
      (pss_cons (ps_for PassesOwn.never rfl (pi_range1 (by rfl) T.z_range (pa_cons (pe_callB call_len_seq (by rfl) T.z_len PySem.boot_len (pa_cons (pv 1) pa_nil)) pa_nil)) (pg_name (i := 6) nd rfl (.inr rfl))
        (pss_one (ps_expr (pe_bm PySem.F.plainAttrs_list PySem.F.slot_list_append PySem.F.type_list_append mt_append (pv 5) (pa_cons (pe_tup
          (pa_cons (pe_lc (own := [("_law_row", 9)]) (g := gName 9) (tt := tYes) rfl nd (pi_list (pv 4))
            (blkOk_by (own := [("_law_row", 9)]) (N := ["_law_frame_here", "_law_points", "_law_bars", "_law_due", "_law_rows", "_law_pairs", "_law_at", "_law_near", "_law_far", "_law_row", "_law_number", "_law_bar"]) (sc := defScope s_l_told_right) (by decide +kernel)) (fun _ _ _ _ _ => pg_name (i := 9) nd rfl (.inl rfl)) (fun _ _ _ _ _ => pts_nil)
            (fun _ _ _ _ _ => pe_ix (ix_listK (K := K) rfl) (pv 9) (pe_op op_mul pe_int (pv 6)) (fun _ _ => rfl)))
          (pa_cons (pe_lc (own := [("_law_row", 9)]) (g := gName 9) (tt := tYes) rfl nd (pi_list (pv 4))
            (blkOk_by (own := [("_law_row", 9)]) (N := ["_law_frame_here", "_law_points", "_law_bars", "_law_due", "_law_rows", "_law_pairs", "_law_at", "_law_near", "_law_far", "_law_row", "_law_number", "_law_bar"]) (sc := defScope s_l_told_right) (by decide +kernel)) (fun _ _ _ _ _ => pg_name (i := 9) nd rfl (.inl rfl)) (fun _ _ _ _ _ => pts_nil)
            (fun _ _ _ _ _ => pe_ix (ix_listK (K := K) rfl) (pv 9) (pe_op op_add (pe_op op_mul pe_int (pv 6)) pe_int) (fun _ _ => rfl))) pa_nil))) pa_nil)))))
      (pss_one (ps_ret (pe_and (pe_cmpR (op_eqOwn (eqP T rfl F11) (hr.mono (by decide))) (pe_call F9 hr (by rfl) T.frame_pairs.g T.frame_pairs.F.kp T.frame_pairs.b .nil pass0 (pa_cons (pv 0) pa_nil))
            (pe_make (mkP T) F10 (hr.mono (by decide)) (by rfl) T.Pairs.g (bP3 T) .nil pass0 (pa_cons (pe_callB call_len_seq (by rfl) T.z_len PySem.boot_len (pa_cons (pv 2) pa_nil)) (pa_cons (pv 5) pa_nil))) (nomark _))
          (pe_one (pe_cmpR op_eq (pe_prop (pe_callK0 F9 hr (by rfl) T.frame_pairs.g T.frame_pairs.F.kp (bFPK T) (pk_cons (pv 0) pk_nil)) T.Pairs.cl T.Pairs_size.pr F12 (hr.mono (by decide)) T.Pairs_size.b .nil pass0 rfl)
            (pe_callB call_len_seq (by rfl) T.z_len PySem.boot_len (pa_cons (pv 2) pa_nil)) (nomark _)))))))))))), ?_⟩
    obtain ⟨ap, xs, rfl, eap, rp⟩ := is_lst hy
    obtain ⟨ab, ys, rfl, eab, rb⟩ := is_lst hz
    have lx := rp.length
    have ly := rb.length
    have lp := fr.lp
    have lb := fr.lb
    have ok := fr.frs.ok
    have lpm : (ps.map hfD).length = ps.length := List.length_map ..
    obtain ⟨⟨p1, p2, p3⟩, b1, b2, b3⟩ := ok.fits
    obtain ⟨a1, a2, a3⟩ := ok.all
    have big : (2000000 : Nat) ≤ sizeLine := by decide
    obtain ⟨a, dx, pp, pb, ex, ea, _, _⟩ := id hx
    subst ex
    -- due
    refine ⟨_, rfl, ap, rfl, ⟨_, SqL.of (eg _ _ eap)⟩, fun D nD => ?_⟩
    refine lc_dataL (CR := T.CR) (M := noM) (G1 := G) (xs := xs) (es := ps.map hfD) noM_none eg nD (srcL (eg _ _ eap) (fun z => z)) (by simp [lx]) (by simp; omega) (fun i x' e' G2 H2 Q2 hx' he gr k => ?_) (fun G1 H1 g1 hD => ?_)
    · obtain ⟨d, hd, isd⟩ := rp.get hx'
      have ee : e' = hfD d := by
        rw [List.getElem?_map, hd] at he
        exact (Option.some.inj he).symm
      subst ee
      obtain ⟨u, v, rfl, _⟩ := fr.pt d (List.mem_of_getElem? hd)
      obtain ⟨c, n0, n1, rfl, ec, i1, i2⟩ := is_tup2 isd
      cases i1
      cases i2
      refine ⟨c, _, rfl, SqT.of (gr.gh _ _ (gr.gg _ _ ec)), rfl, _, _, rfl, _, _, rfl, rfl, rfl, _, rfl, G2, u, rfl, gr.gh, fun G3 H3 v3 g3 i3 => ?_⟩
      refine ⟨_, rfl, G3, v, rfl, g3.gh, fun G4 H4 v4 g4 i4 => ⟨(by show 2 ≤ sizeLine; decide), fun t nt => ?_⟩⟩
      have xt := Ext.upd (o := HO.tup [v3, v4]) (g4.gh.none_of nt)
      exact k _ _ _ ((g3.trans g4).new nt) (.tup upd_same (.cons ((i3.ext g4.gg).ext xt) (.cons (i4.ext xt) .nil)))
    have x1 := g1.toExt
    have e1 := g1.gh
    have fx1 := hx.ext (g1.gg.trans e1)
    -- what is told of the points, the bars, how many
    refine ⟨_, rfl, a, dx, _, rfl, e1 _ _ (g1.gg _ _ ea), frF_no _ _ (by decide) (by decide), ps.map hfD, bs, .ref a, rfl, fx1, fun l1 zs1 n1 r1 => ?_⟩
    have y1 := Ext.upd (o := HO.lst zs1) n1
    refine ⟨_, rfl, a, dx, _, rfl, y1 _ _ (e1 _ _ (g1.gg _ _ ea)), frF_no _ _ (by decide) (by decide), ps.map hfD, bs, .ref a, rfl, fx1.ext y1, fun l2 zs2 n2 r2 => ?_⟩
    have y2 := Ext.upd (o := HO.lst zs2) n2
    refine ⟨_, rfl, a, dx, _, rfl, y2 _ _ (y1 _ _ (e1 _ _ (g1.gg _ _ ea))), ps.map hfD, bs, .ref a, rfl, (fx1.ext y1).ext y2, ?_⟩
    refine ⟨(by show 3 ≤ sizeLine; decide), fun l3 n3 => ?_⟩
    have y3 := Ext.upd (o := HO.lst [V.ref l1, .ref l2, .int (ps.map hfD).length]) n3
    refine ⟨_, l3, rfl, .lst upd_same (.cons (.lst (y3 _ _ (y2 _ _ upd_same)) (((r1.ext y1).ext y2).ext y3)) (.cons (.lst (y3 _ _ upd_same) ((r2.ext y2).ext y3)) (.cons (.int _) .nil))), a1, a2, a3, fun H2 y4 => ?_⟩
    have x2 : Ext H1 H2 := ((y1.trans y2).trans y3).trans y4
    have e2 := e1.trans x2
    clear y1 y2 y3 y4 r1 r2
    refine ⟨_, rfl, _, rfl, ab, rfl, ⟨_, SqL.of (e2 _ _ (g1.gg _ _ eab))⟩, fun D2 nD2 => ?_⟩
    refine lc_dataL (CR := T.CR) (M := noM) (G1 := G1) (xs := ys) (es := bs) noM_none e2 nD2 (srcL (e2 _ _ (g1.gg _ _ eab)) (fun z => z)) ly (by omega) (fun i x' e' G2 H2 Q2 hx' he gr k => ?_) (fun G3 H3 g3 hD2 => ?_)
    · obtain ⟨d, hd, isd⟩ := rb.get hx'
      obtain rfl : d = e' := Option.some.inj (hd.symm.trans he)
      obtain ⟨i0, j0, rfl, _⟩ := fr.bar d (List.mem_of_getElem? hd)
      obtain ⟨c, n0, n1, rfl, ec, _⟩ := is_tup2 isd
      exact ⟨rfl, _, rfl, c, _, rfl, .inr ⟨SqT.of (gr.gh _ _ (gr.gg _ _ (g1.gg _ _ ec))), k _ _ _ (Gr.refl gr.gh) ((isd.ext g1.gg).ext gr.gg)⟩⟩
    have gg3 := g1.gg.trans g3.gg
    have e3 := g3.gh
    refine ⟨_, rfl, ap, xs, rfl, .inl (SqL.of (e3 _ _ (gg3 _ _ eap))), (by show 3 ≤ sizeLine; decide), fun l4 n4 => ?_⟩
    have y4 := Ext.upd (o := HO.lst [V.ref D, .ref D2, .int xs.length]) n4
    have exl : (xs.length : Int) = ((ps.map hfD).length : Int) := by rw [lpm, lx]
    refine ⟨[.lst (ps.map hfD), .lst bs, .int (ps.map hfD).length], l4, rfl, .lst upd_same (.cons (((hD.ext g3.gg).ext e3).ext y4) (.cons ((hD2.ext e3).ext y4) (.cons (by rw [exl]; exact .int _) .nil))), a1, a2, a3, fun H4 y5 => ⟨rfl, _, rfl, iteNS rfl ?_⟩⟩
    have e4 := (e3.trans y4).trans y5
    have x4 := ((x1.trans x2).trans g3.toExt).trans (y4.trans y5)
    clear y4 y5
    -- repr of the frame
    have f1 := text_len (.lst (ps.map hfD)) (by rw [Dt.ok]; exact p2)
    have f2 := text_len (.lst bs) (by rw [Dt.ok]; exact b2)
    have c1 := cnts_le (N := 3) fun d hd => pt_cnt (ok.pt d hd)
    have c2 := cnts_le (N := 3) fun d hd => bar_cnt (ok.bar d hd)
    rw [Dt.text, cnt] at f1 f2
    have l1 : (("Frame(" : Str)).length = 6 := by decide
    have l2 : ((", " : Str)).length = 2 := by decide
    have l3 : ((")" : Str)).length = 1 := by decide
    refine ⟨_, rfl, a, dx, _, rfl, e4 _ _ (gg3 _ _ ea), ps.map hfD, bs, .ref a, rfl, hx.ext (gg3.trans e4), ok, fun H5 y5 => ⟨_, rfl, ?_⟩⟩
    have e5 := e4.trans y5
    refine ⟨_, rfl, _, D, rfl, (hD.ext g3.gg).ext e5, p1, p2, p3, fun H6 y6 => ⟨_, _, rfl, rfl, by omega, _, _, rfl, rfl, by rw [strLen_append]; omega, ?_⟩⟩
    have e6 := e5.trans y6
    refine ⟨_, rfl, ab, rfl, ⟨_, SqL.of (e6 _ _ (gg3 _ _ eab))⟩, fun D3 nD3 => ?_⟩
    refine lc_dataL (CR := T.CR) (M := noM) (G1 := G3) (xs := ys) (es := bs) noM_none e6 nD3 (srcL (e6 _ _ (gg3 _ _ eab)) (fun z => z)) ly (by omega) (fun i x' e' G2 H2 Q2 hx' he gr k => ?_) (fun G7 H7 g7 hD3 => ?_)
    · obtain ⟨d, hd, isd⟩ := rb.get hx'
      obtain rfl : d = e' := Option.some.inj (hd.symm.trans he)
      obtain ⟨i0, j0, rfl, _⟩ := fr.bar d (List.mem_of_getElem? hd)
      obtain ⟨c, n0, n1, rfl, ec, _⟩ := is_tup2 isd
      exact ⟨rfl, _, rfl, c, _, rfl, .inr ⟨SqT.of (gr.gh _ _ (gr.gg _ _ (gg3 _ _ ec))), k _ _ _ (Gr.refl gr.gh) ((isd.ext gg3).ext gr.gg)⟩⟩
    refine ⟨bs, D3, rfl, hD3.ext g7.gh, b1, b2, b3, fun H8 y8 => ⟨_, _, rfl, rfl, by rw [strLen_append, strLen_append]; omega, _, _, rfl, rfl, by rw [strLen_append, strLen_append, strLen_append]; omega, ?_⟩⟩
    refine ⟨rfl, _, rfl, iteNS (by unfold frText; rw [PySem.Str.empty_append]) ?_⟩
    have gg7 := gg3.trans g7.gg
    have e8 := g7.gh.trans y8
    have x8 := ((x4.trans y5).trans y6).trans (g7.toExt.trans y8)
    -- the rows
    refine ⟨_, rfl, _, rfl, G7, ps, bs, .ref ap, .ref ab, rfl, e8, hy.ext gg7, hz.ext gg7, fr, fun G9 H9 v9 g9 h9 => ?_⟩
    obtain ⟨at_, ts, rfl, eat, rt⟩ := is_lst h9
    have lt := rt.length
    rw [List.length_map] at lt
    refine ⟨at_, rfl, ⟨_, SqL.of (g9.gh _ _ eat)⟩, fun D4 nD4 => ?_⟩
    refine lc_dataL (CR := T.CR) (M := noM) (G1 := G9) (xs := ts) (es := (bs.map (rowOfBarI ps)).map rowH) noM_none g9.gh nD4 (srcL (g9.gh _ _ eat) (fun z => z)) (by simp [lt]) (by simp; omega) (fun i x' e' G2 H2 Q2 hx' he gr k => ?_) (fun G10 H10 g10 hD4 => ?_)
    · obtain ⟨d, hd, isd⟩ := rt.get hx'
      have ee : e' = rowH d := by
        rw [List.getElem?_map, hd] at he
        exact (Option.some.inj he).symm
      subst ee
      obtain ⟨d0, hd0, ed⟩ := List.mem_map.mp (List.mem_of_getElem? hd)
      obtain ⟨ds, er, hI, hl⟩ := rowI_int fr.pt (fr.bar d0 hd0)
      rw [← ed, er] at isd
      rw [← ed, er] at k
      obtain ⟨c, us, rfl, ec, ru⟩ := is_lst isd
      have lu := ru.length
      refine ⟨rfl, _, rfl, c, rfl, ⟨_, SqL.of (gr.gh _ _ (gr.gg _ _ ec))⟩, fun D5 nD5 => ?_⟩
      refine lc_dataL (CR := T.CR) (M := noM) (G1 := G2) (xs := us) (es := ds.map hDd) noM_none gr.gh nD5 (srcL (gr.gh _ _ (gr.gg _ _ ec)) (fun z => z)) (by simp [lu]) (by simp; omega) (fun i' x'' e'' G3 H3 Q3 hx'' he'' gr3 k3 => ?_) (fun G3 H3 gr3 hD5 => k _ _ _ gr3 hD5)
      obtain ⟨d'', hd'', isd''⟩ := ru.get hx''
      have ee'' : e'' = hDd d'' := by
        rw [List.getElem?_map, hd''] at he''
        exact (Option.some.inj he'').symm
      subst ee''
      obtain ⟨n, rfl⟩ := hI d'' (List.mem_of_getElem? hd'')
      cases isd''
      exact ⟨rfl, _, rfl, G3, n, rfl, gr3.gh, fun G6 H6 v6 g6 h6 => k3 _ _ _ g6 h6⟩
    rw [tableI_half fr] at hD4
    have gg10 := (gg7.trans g9.gg).trans g10.gg
    have e10 := g10.gh
    have x10 := (x8.trans g9.toExt).trans g10.toExt
    have hs := fr.frs
    obtain ⟨t1, t2, t3⟩ := hs.fitT
    refine ⟨_, rfl, G10, ps.map hfD, bs, .ref a, rfl, e10, hx.ext gg10, hs, fun G11 H11 v11 g11 h11 => ?_⟩
    obtain ⟨at2, us, ez, _, _⟩ := is_lst h11
    subst ez
    refine ⟨_, at2, rfl, h11.ext g11.gh, t1, t2, t3, fun H12 y12 => ⟨_, rfl, _, D4, rfl, (hD4.ext g11.gg).ext (g11.gh.trans y12), t1, t2, t3, fun H13 y13 => ⟨rfl, _, rfl, iteNS rfl ?_⟩⟩⟩
    have gg11 := gg10.trans g11.gg
    have e13 := (g11.gh.trans y12).trans y13
    have x13 := (x10.trans g11.toExt).trans (y12.trans y13)
    have hr4 := hD4.ext g11.gg
    obtain ⟨_, rows, ez, et, rrt⟩ := is_lst hr4
    cases ez
    have lt2 := rrt.length
    have ltd : (tableD (ps.map hfD) bs).length = bs.length := by simp [tableD]
    -- the pairs
    refine ⟨Nat.zero_le _, fun l nl => ?_⟩
    have gl11 : G11 l = none := e13.none_of nl
    have yl := Ext.upd (o := HO.lst []) nl
    refine ⟨_, rfl, ap, xs, rfl, .inl (SqL.of (yl _ _ (e13 _ _ (gg11 _ _ eap)))), _, rfl, by omega, by omega, ?_⟩
    have ez : ((xs.length : Nat) : Int).toNat = ps.length := by omega
    rw [ez]
    refine for_range (n := ps.length) (fun k σ H' => ∃ y6 y7 y8 y9 y10 y11 G2 acc, σ = [some (V.ref a), some (.ref ap), some (.ref ab), some (.ref D), some (.ref D4), some (.ref l), y6, y7, y8, y9, y10, y11] ∧
      Grow G11 H13 G2 H' ∧ G2 l = none ∧ H' l = some (.lst acc) ∧ Iss T.CR G2 ((colsD (ps.map hfD).length (tableD (ps.map hfD) bs)).take k) acc ∧ acc.length = k)
      ⟨_, _, _, _, _, _, G11, [], rfl, (Gr.refl e13).lay nl, gl11, upd_same, .nil, rfl⟩ (fun k σ H' hk hw => ?_) (fun σ H' hw => ?_)
    · obtain ⟨y6, y7, y8, y9, y10, y11, G2, acc, rfl, gr, g2l, hl, iss, hacc⟩ := hw
      have up : ∀ {G3 H3 : Hp}, Grow G2 H' G3 H3 → ∀ {q : Addr} {o : HO}, G11 q = some o → H3 q = some o := by intro G3 H3 g q o h; exact g.gh _ _ (g.gg _ _ (gr.gg _ _ h))
      refine ⟨_, rfl, .inl ⟨rfl, _, SqL.of hl⟩, ?_⟩
      -- the first column
      refine ⟨_, rfl, D4, rfl, ⟨_, SqL.of (up (Gr.refl gr.gh) et)⟩, fun D1 nD1 => ?_⟩
      refine lc_dataL (CR := T.CR) (M := noM) (G1 := G2) (xs := rows) (es := (tableD (ps.map hfD) bs).map (cellD (2 * k))) noM_none gr.gh nD1 (srcL (up (Gr.refl gr.gh) et) (fun z => z)) (by simp [lt2]) (by rw [List.length_map]; omega) (fun m x' e' G3 H3 Q3 hx' he g3 kk => ?_) (fun G3 H3 g3 hD1 => ?_)
      · obtain ⟨d, hd, isd⟩ := rrt.get hx'
        have ee : e' = cellD (2 * k) d := by
          rw [List.getElem?_map, hd] at he
          exact (Option.some.inj he).symm
        subst ee
        obtain ⟨ds, rfl, hds, hf⟩ := hs.rows d (List.mem_of_getElem? hd)
        obtain ⟨c, us, rfl, ec, rc⟩ := is_lst isd
        have hc : 2 * k < ds.length := by omega
        obtain ⟨u, hu, isu⟩ := rc.getD (List.getElem?_eq_getElem hc)
        have ec3 := up g3 ec
        refine ⟨rfl, _, rfl, _, rfl, _, _, rfl, rfl, .inl ⟨by decide, by decide⟩, c, us, _, u, rfl, rfl, SqL.of ec3, ?_, ?_⟩
        · have k1 : ((2 : Int) * (0 + (k : Int))) = ((2 * k : Nat) : Int) := by omega
          rw [k1]
          exact atI_nat hu
        · have ed : cellD (2 * k) (.lst ds) = ds[2 * k] := by rw [cellD, List.getD_eq_getElem?_getD, List.getElem?_eq_getElem hc]; rfl
          rw [ed] at kk
          exact kk _ _ _ (Gr.refl g3.gh) ((isu.ext gr.gg).ext g3.gg)
      -- the second one
      refine ⟨_, rfl, D4, rfl, ⟨_, SqL.of (up g3 et)⟩, fun D2 nD2 => ?_⟩
      refine lc_dataL (CR := T.CR) (M := noM) (G1 := G3) (xs := rows) (es := (tableD (ps.map hfD) bs).map (cellD (2 * k + 1))) noM_none g3.gh nD2 (srcL (up g3 et) (fun z => z)) (by simp [lt2]) (by rw [List.length_map]; omega) (fun m x' e' G4 H4 Q3 hx' he g4 kk => ?_) (fun G4 H4 g4 hD2 => ?_)
      · obtain ⟨d, hd, isd⟩ := rrt.get hx'
        have ee : e' = cellD (2 * k + 1) d := by
          rw [List.getElem?_map, hd] at he
          exact (Option.some.inj he).symm
        subst ee
        obtain ⟨ds, rfl, hds, hf⟩ := hs.rows d (List.mem_of_getElem? hd)
        obtain ⟨c, us, rfl, ec, rc⟩ := is_lst isd
        have hc : 2 * k + 1 < ds.length := by omega
        obtain ⟨u, hu, isu⟩ := rc.getD (List.getElem?_eq_getElem hc)
        have ec3 := up (g3.trans g4) ec
        refine ⟨rfl, _, rfl, _, rfl, _, _, rfl, rfl, .inl ⟨by decide, by decide⟩, _, _, rfl, rfl, c, us, _, u, rfl, rfl, SqL.of ec3, ?_, ?_⟩
        · have k1 : ((2 : Int) * (0 + (k : Int)) + 1) = ((2 * k + 1 : Nat) : Int) := by omega
          rw [k1]
          exact atI_nat hu
        · have ed : cellD (2 * k + 1) (.lst ds) = ds[2 * k + 1] := by rw [cellD, List.getD_eq_getElem?_getD, List.getElem?_eq_getElem hc]; rfl
          rw [ed] at kk
          exact kk _ _ _ (Gr.refl g4.gh) (((isu.ext gr.gg).ext g3.gg).ext g4.gg)
      refine ⟨(by show 2 ≤ sizeLine; decide), fun u nu => ?_⟩
      have g5 := (g3.trans g4).new (o := .tup [.ref D1, .ref D2]) nu
      have hl5 := g5.get hl
      have nl5 := g5.off (l := l) (by rw [hl]; simp) g2l
      have xu := Ext.upd (o := HO.tup [V.ref D1, .ref D2]) (g4.gh.none_of nu)
      refine ⟨l, acc, _, rfl, rfl, hl5, by omega, ?_⟩
      refine ⟨_, _, _, _, _, _, _, _, rfl, (gr.trans g5).mut (.inl nl) nl5, nl5, upd_same, ?_, by rw [List.length_append, hacc]; rfl⟩
      have hk' : (colsD (ps.map hfD).length (tableD (ps.map hfD) bs))[k]? = some (colD (tableD (ps.map hfD) bs) k) := by
        rw [colsD, List.getElem?_map, List.getElem?_range (by omega)]
        rfl
      rw [List.take_add_one, hk']
      exact (iss.ext g5.gg).append (.cons (.tup upd_same (.cons ((hD1.ext g4.gg).ext xu) (.cons (hD2.ext xu) .nil))) .nil)
    · obtain ⟨y6, y7, y8, y9, y10, y11, G2, acc, rfl, gr, g2l, hl, iss, hacc⟩ := hw
      have lc := cols_len (ps.map hfD).length (tableD (ps.map hfD) bs)
      rw [List.take_of_length_le (by omega)] at iss
      have g3 := gr.freeze nl hl g2l
      have x3 := Ext.upd (o := HO.lst acc) g2l
      have il : Is T.CR (upd G2 l (.lst acc)) (.lst (colsD (ps.map hfD).length (tableD (ps.map hfD) bs))) (.ref l) := .lst upd_same (iss.ext x3)
      generalize upd G2 l (.lst acc) = G4 at g3 x3 il
      have gg4 := gg11.trans (gr.gg.trans x3)
      have hp : ∀ d ∈ colsD (ps.map hfD).length (tableD (ps.map hfD) bs), PairD bs.length d := by
        have h := cols_pair hs.rows
        rw [ltd] at h
        exact h
      refine ⟨_, rfl, G4, ps.map hfD, bs, .ref a, rfl, g3.gh, hx.ext gg4, hs, fun G5 H5 v5 g5 h5 => ?_⟩
      refine ⟨_, rfl, ab, ys, rfl, .inl (SqL.of (g5.gh _ _ (g5.gg _ _ (gg4 _ _ eab)))), _, rfl, fun p dp np ndp nep => ?_⟩
      have np2 : G5 p = none := g5.gh.none_of np
      have nq : (upd H5 dp (.own p)) p = none := by rw [upd_ne nep.symm]; exact np
      have g6 : Grow G5 H5 G5 H5 := Gr.refl g5.gh
      refine ⟨G5, p, dp, bs.length, _, .ref l, by rw [ly]; rfl, ((g6.lay ndp).lay nq).gh, np2, upd_same, il.ext g5.gg, hp, hs.lb, by omega, fun G7 H7 r7 z7 g7 n7 h7 e7 => ⟨rfl, ?_⟩⟩
      have g8 := Gr.made g6 np ndp nep g7 e7 n7
      have pr8 : PrAt T.CR T.CP (upd G7 p (.ins T.CP dp (prF r7 (.int bs.length) z7))) bs.length (colsD (ps.map hfD).length (tableD (ps.map hfD) bs)) (.ref p) := ⟨p, dp, r7, z7, rfl, upd_same, h7.ext (Ext.upd n7)⟩
      have x8' := g8.toExt
      have pr8' : PrAt T.CR T.CP H7 bs.length (colsD (ps.map hfD).length (tableD (ps.map hfD) bs)) (.ref p) := ⟨p, dp, r7, z7, rfl, e7, (h7.ext (Ext.upd n7)).ext g8.gh⟩
      obtain ⟨p5, dp5, r5, z5, ev5, ep5, i5⟩ := h5
      subst ev5
      have ep5' : H7 p5 = some (.ins T.CP dp5 (prF r5 (.int bs.length) z5)) := g8.gh _ _ (g8.gg _ _ ep5)
      have pr5 : PrAt T.CR T.CP H7 bs.length (colsD (ps.map hfD).length (tableD (ps.map hfD) bs)) (.ref p5) := ⟨p5, dp5, r5, z5, rfl, ep5', (i5.ext g8.gg).ext g8.gh⟩
      refine ⟨p5, dp5, _, .ref T.CP, rfl, ep5', .base (.ins e7 T.Pairs.cl T.Pairs.ca T.cn T.ct T.Pairs.cm), by simp [PySem.W.notFirst], bs.length, _, .ref p5, .ref p, rfl, pr5, pr8', hp, fun H9 y9 => ⟨true, rfl, true, rfl, iteT ?_⟩⟩
      have e9 := g8.gh.trans y9
      have gg9 := (gg4.trans g5.gg).trans g8.gg
      refine ⟨_, rfl, _, ps.map hfD, bs, .ref a, rfl, e9, hx.ext gg9, hs, fun G10' H10' v10 g10 h10 => ?_⟩
      obtain ⟨p9, dp9, r9, z9, ev9, ep9, i9⟩ := h10
      subst ev9
      have ep9' := g10.gh _ _ ep9
      refine ⟨p9, dp9, _, rfl, ep9', bs.length, _, .ref p9, rfl, ⟨p9, dp9, r9, z9, rfl, ep9', i9.ext g10.gh⟩, _, rfl, ab, ys, rfl, .inl (SqL.of (g10.gh _ _ (g10.gg _ _ (gg9 _ _ eab)))), rfl, ?_⟩
      show Q (.bl (decide (V.int (bs.length : Nat) = V.int (ys.length : Nat)))) H10'
      rw [decide_eq_true (by rw [ly])]
      exact q _ ((((x13.trans g3.toExt).trans g5.toExt).trans x8').trans (y9.trans g10.toExt))
end
end K84

/-! What is told is new. -/
namespace K84
open PySem PySem.Spec PyProof.Rows L2

/-- the data but its lists -/
def nl (G : Hp) : Hp := fun a => match G a with
  | some (.lst _) => none
  | o => o
theorem nl_ext (G : Hp) : Ext (nl G) G := by
  intro b o h
  unfold nl at h
  split at h
  · cases h
  · exact h
theorem nl_lst {G : Hp} {a : Addr} {xs : List V} : nl G a ≠ some (.lst xs) := by
  intro h
  unfold nl at h
  split at h
  · cases h
  · rename_i q
    exact q _ h
theorem nl_of {G : Hp} {a : Addr} {o : HO} (h : G a = some o) (n : ∀ xs, o ≠ .lst xs) : nl G a = some o := by
  unfold nl
  split
  · rename_i q
    rw [h] at q
    cases q
    exact absurd rfl (n _)
  · exact h
/-- told without lists -/
def NoL (CR : Addr) (d : Dt) : Prop := ∀ (G : Hp) (x : V), Is CR G d x → Is CR (nl G) d x
theorem nol_iss {CR : Addr} {G : Hp} : ∀ {ds : List Dt} {xs : List V}, (∀ d ∈ ds, NoL CR d) → Iss CR G ds xs → Iss CR (nl G) ds xs
  | [], _, _, h => by cases h; exact .nil
  | d :: ds, _, n, h => by
    cases h with
    | cons h r => exact .cons (n d (List.mem_cons_self ..) _ _ h) (nol_iss (fun e he => n e (List.mem_cons_of_mem _ he)) r)
theorem nol_tup {CR : Addr} {ds : List Dt} (n : ∀ d ∈ ds, NoL CR d) : NoL CR (.tup ds) := by
  intro G x h
  obtain ⟨a, xs, rfl, e, r⟩ := is_tup h
  exact .tup (nl_of e (fun _ z => by cases z)) (nol_iss n r)
theorem nol_rat {CR : Addr} {t b : Int} : NoL CR (.rat t b) := by
  intro G x h
  obtain ⟨a, d, rfl, e⟩ := is_rat h
  exact .rat (nl_of e (fun _ z => by cases z))
theorem nol_int {CR : Addr} {i : Int} : NoL CR (.int i) := by
  intro G x h
  cases h
  exact .int i
theorem nol_pt {CR : Addr} {d : Dt} (h : PtS d) : NoL CR d := by
  obtain ⟨p, q, rfl, h1, h2⟩ := h
  obtain ⟨t1, b1, rfl, _⟩ := hs_sm h1
  obtain ⟨t2, b2, rfl, _⟩ := hs_sm h2
  exact nol_tup fun d hd => by
    rcases List.mem_cons.mp hd with rfl | hd
    · exact nol_rat
    · rw [List.mem_singleton] at hd
      rw [hd]
      exact nol_rat
theorem nol_bar {CR : Addr} {n : Nat} {d : Dt} (h : BarD n d) : NoL CR d := by
  obtain ⟨i, j, rfl, _⟩ := h
  exact nol_tup fun d hd => by
    rcases List.mem_cons.mp hd with rfl | hd
    · exact nol_int
    · rw [List.mem_singleton] at hd
      rw [hd]
      exact nol_int
theorem frAt_nl {CR CF : Addr} {G : Hp} {ps bs : List Dt} {x : V} (h : FrAt CR CF G ps bs x) (s : FrS ps bs) : FrAt CR CF (nl G) ps bs x := by
  obtain ⟨a, dx, p, b, rfl, e, i1, i2⟩ := h
  exact ⟨a, dx, p, b, rfl, nl_of e (fun _ z => by cases z), nol_tup (fun d hd => nol_pt (s.pt d hd)) _ _ i1, nol_tup (fun d hd => nol_bar (s.bar d hd)) _ _ i2⟩
/-- a list that stands in data grown from data without lists is new -/
theorem nl_new {M : Addr → Prop} {G H G' H' : Hp} (g : Gr M (nl G) H G' H') {a : Addr} {xs : List V} (e : G' a = some (.lst xs)) : H a = none := by
  rcases g.fr a (by rw [e]; simp) with q | q
  · rcases none_or (H := nl G) (b := a) with z | ⟨o, z⟩
    · exact absurd z q
    · have z' := g.gg a o z
      rw [e] at z'
      cases z'
      exact absurd z nl_lst
  · exact q
theorem Ext.set {H H' : Hp} {l : Addr} {o : HO} (e : Ext H H') (n : H l = none) : Ext H (upd H' l o) := by
  intro b u h
  have q : b ≠ l := fun z => by rw [z, n] at h; cases h
  rw [upd_ne q]
  exact e b u h

/-- the three lists that are spoilt -/
def Nw (a ap ab l3 : Addr) (ls : List Addr) (H : Hp) (k : Nat) (σ : L2.St) (H' : Hp) : Prop := ∃ y4, σ = [some (V.ref a), some (.ref ap), some (.ref ab), some (.ref l3), y4] ∧ Ext H H' ∧ H' l3 = some (.lst (ls.map V.ref)) ∧
  ∀ l ∈ ls, ∃ zs, H' l = some (.lst zs) ∧ zs.length ≤ 100 + k

theorem lists_app {ls : List Addr} {H : Hp} {N : Nat} {r : Addr} {us : List V} {v : V} (h : ∀ l ∈ ls, ∃ zs, H l = some (.lst zs) ∧ zs.length ≤ N) (hr : us.length ≤ N) :
    ∀ l ∈ ls, ∃ zs, (upd H r (.lst (us ++ [v]))) l = some (.lst zs) ∧ zs.length ≤ N + 1 := by
  intro l hl
  by_cases e : l = r
  · subst e
    exact ⟨_, upd_same, by rw [List.length_append, List.length_singleton]; omega⟩
  · obtain ⟨zs, e1, e2⟩ := h l hl
    exact ⟨zs, by rw [upd_ne e]; exact e1, by omega⟩

section
variable {P : Program} {w : World} {K : PySem.W.Frag} {mg : Str → Option Value} {base : Heap}
theorem ok_l_new_right (T : Tx K mg) : FnG P w K mg base 12 T.l_new_right.f T.l_new_right.fd ["_law_frame_here", "_law_points", "_law_bars"] (spToldRight T.CR T.CF) := by
  have F3 := ok_framePoints (P := P) (w := w) (base := base) T
  have F4 := ok_frameBars (P := P) (w := w) (base := base) T
  have F8 := ok_bar_table (P := P) (w := w) (base := base) T
  have F9 := ok_l_told_right (P := P) (w := w) (base := base) T
  refine T.l_new_right.F.okG sc_l_new_right (fun vs H Q E h => ?_) (fun cdv A outer s H vs Q E hg hr h => ?_)
  · obtain ⟨G, ps, bs, x, y, z, rfl, _⟩ := h
    rfl
  · obtain ⟨G, ps, bs, x, y, z, rfl, eg, hx, hy, hz, fr, q⟩ := h
    have nd := sc_l_new_right.nd
    refine ⟨_, pss_cons (ps_set (i := 3) nd rfl (.inl rfl) (pe_lst (pa_cons (pe_meth0 (pv 0) T.Frame.cl T.Frame_points.m F3 (hr.mono (by decide)) T.Frame_points.b .nil pass0)
            (pa_cons (pe_meth0 (pv 0) T.Frame.cl T.Frame_bars.m F4 (hr.mono (by decide)) T.Frame_bars.b .nil pass0)
            (pa_cons (pe_call F8 (hr.mono (by decide)) (by rfl) T.bar_table.g T.bar_table.F.kp T.bar_table.b .nil pass0 (pa_cons (pv 0) pa_nil)) pa_nil)))))
      (pss_cons (ps_if (pt_cmpR (op_neL hr.units0) (pe_ix ix_list (pv 3) pe_int (fun _ _ => rfl)) (pe_lst pa_nil) (nomark _))
          (pss_one (ps_expr (pe_bm PySem.F.plainAttrs_list PySem.F.slot_list_append PySem.F.type_list_append mt_append (pe_ix ix_list (pe_ix ix_list (pv 3) pe_int (fun _ _ => rfl)) pe_int (fun _ _ => rfl)) (pa_cons pe_non pa_nil)))) pss_nil)
      (pss_cons (ps_for PassesOwn.never rfl (pi_range1 (by rfl) T.z_range (pa_cons pe_int pa_nil)) (pg_name (i := 4) nd rfl (.inl rfl))
          (pss_one (ps_expr (pe_bm PySem.F.plainAttrs_list PySem.F.slot_list_append PySem.F.type_list_append mt_append (pe_ix ix_list (pv 3) (pv 4) (fun _ _ => rfl)) (pa_cons pe_non pa_nil)))))
      (pss_one (ps_ret (pe_callG F9 hg hr (by rfl) T.l_told_right.g T.l_told_right.F.kp T.l_told_right.b (pa_cons (pv 0) (pa_cons (pv 1) (pa_cons (pv 2) pa_nil)))))))), ?_⟩
    obtain ⟨ap, xs, rfl, eap, rp⟩ := is_lst hy
    obtain ⟨ab, ys, rfl, eab, rb⟩ := is_lst hz
    have lp := fr.lp
    have lb := fr.lb
    have hs := fr.frs
    have lpm : (ps.map hfD).length = ps.length := List.length_map ..
    have big : (2000 : Nat) ≤ sizeLine := by decide
    obtain ⟨a, dx, pp, pb, ex, ea, _, _⟩ := id hx
    subst ex
    have fx := hx.ext eg
    refine ⟨_, rfl, a, dx, _, rfl, eg _ _ ea, frF_no _ _ (by decide) (by decide), ps.map hfD, bs, .ref a, rfl, fx, fun l1 zs1 n1 r1 => ?_⟩
    have y1 := Ext.upd (o := HO.lst zs1) n1
    have lz1 := r1.length
    refine ⟨_, rfl, a, dx, _, rfl, y1 _ _ (eg _ _ ea), frF_no _ _ (by decide) (by decide), ps.map hfD, bs, .ref a, rfl, fx.ext y1, fun l2 zs2 n2 r2 => ?_⟩
    have y2 := Ext.upd (o := HO.lst zs2) n2
    have lz2 := r2.length
    have y12 := y1.trans y2
    refine ⟨_, rfl, nl G, ps.map hfD, bs, .ref a, rfl, (nl_ext G).trans (eg.trans y12), frAt_nl hx hs, hs, fun G3 H3 v3 g3 h3 => ?_⟩
    obtain ⟨t, rows, ez, et, rr⟩ := is_lst h3
    subst ez
    have nt := nl_new g3 et
    have lr := rr.length
    have ltd : (tableD (ps.map hfD) bs).length = bs.length := by simp [tableD]
    have e1 : H3 l1 = some (.lst zs1) := g3.get (y2 _ _ upd_same)
    have e2 : H3 l2 = some (.lst zs2) := g3.get upd_same
    have e3 : H3 t = some (.lst rows) := g3.gh _ _ et
    have x3 : Ext H H3 := y12.trans g3.toExt
    have m2 : H l2 = none := y1.none_of n2
    have m3 : H t = none := y12.none_of nt
    refine ⟨(by show 3 ≤ sizeLine; decide), fun l3 n3 => ?_⟩
    have m4 : H l3 = none := x3.none_of n3
    have d1 : l1 ≠ l3 := fun z => by rw [← z, e1] at n3; cases n3
    have d2 : l2 ≠ l3 := fun z => by rw [← z, e2] at n3; cases n3
    have d3 : t ≠ l3 := fun z => by rw [← z, e3] at n3; cases n3
    have hls : ∀ l ∈ [l1, l2, t], l ≠ l3 ∧ H l = none := by
      intro l hl
      rcases List.mem_cons.mp hl with rfl | hl
      · exact ⟨d1, n1⟩
      · rcases List.mem_cons.mp hl with rfl | hl
        · exact ⟨d2, m2⟩
        · rw [List.mem_singleton] at hl
          rw [hl]
          exact ⟨d3, m3⟩
    have y4 := Ext.upd (o := HO.lst [V.ref l1, .ref l2, .ref t]) n3
    have x4 : Ext H (upd H3 l3 (.lst [V.ref l1, .ref l2, .ref t])) := x3.trans y4
    have hin : ∀ l ∈ [l1, l2, t], ∃ zs, (upd H3 l3 (.lst [V.ref l1, .ref l2, .ref t])) l = some (.lst zs) ∧ zs.length ≤ 50 := by
      intro l hl
      rcases List.mem_cons.mp hl with rfl | hl
      · exact ⟨_, y4 _ _ e1, by omega⟩
      · rcases List.mem_cons.mp hl with rfl | hl
        · exact ⟨_, y4 _ _ e2, by omega⟩
        · rw [List.mem_singleton] at hl
          rw [hl]
          exact ⟨_, y4 _ _ e3, by omega⟩
    have e4 : (upd H3 l3 (.lst [V.ref l1, .ref l2, .ref t])) l3 = some (.lst [V.ref l1, .ref l2, .ref t]) := upd_same
    have e3' := y4 _ _ e3
    have x34 : Ext H3 (upd H3 l3 (.lst [V.ref l1, .ref l2, .ref t])) := y4
    generalize upd H3 l3 (.lst [V.ref l1, .ref l2, .ref t]) = H4 at x4 hin e4 e3' x34
    clear y4
    refine ⟨_, rfl, l3, _, 2, .ref t, rfl, rfl, SqL.of e4, atI_nat (j := 2) rfl, Nat.zero_le _, fun z nz => ?_⟩
    have zy := Ext.upd (o := HO.lst []) nz
    refine ⟨t, z, rows, rfl, rfl, zy _ _ e3', upd_same, _, rfl, ite2 (fun eq => ?_) (fun eq => ?_)⟩
    · have rne : rows ≠ [] := of_decide_eq_true eq
      cases rows with
      | nil => exact absurd rfl rne
      | cons row0 rest =>
      obtain ⟨d, hd, isd⟩ := rr.get (i := 0) rfl
      obtain ⟨ds, rfl, hds, _⟩ := hs.rows d (List.mem_of_getElem? hd)
      obtain ⟨r, us, ez, er, ru⟩ := is_lst isd
      subst ez
      have lu := ru.length
      have mr : H r = none := y12.none_of (nl_new g3 er)
      have er3 : H3 r = some (.lst us) := g3.gh _ _ er
      have er4 := zy _ _ (x34 _ _ er3)
      have dr : r ≠ l3 := fun z => by rw [← z, er3] at n3; cases n3
      refine ⟨_, rfl, l3, _, 2, .ref t, rfl, rfl, SqL.of (zy _ _ e4), atI_nat (j := 2) rfl, t, _, 0, .ref r, rfl, rfl, SqL.of (zy _ _ e3'), atI_nat (j := 0) rfl, .inl ⟨rfl, _, SqL.of er4⟩, r, us, _, rfl, rfl, er4, by omega, ?_⟩
      refine ⟨3, rfl, by decide, by decide, ?_⟩
      refine for_range (n := 3) (Nw a ap ab l3 [l1, l2, t] H) ⟨_, rfl, Ext.set (x4.trans zy) mr, by rw [upd_ne dr.symm]; exact zy _ _ e4, fun l hl => by
          obtain ⟨zs, q1, q2⟩ := lists_app (N := 50) (v := V.non) (H := upd H4 z (.lst [])) (fun l hl => by
            obtain ⟨zs, q1, q2⟩ := hin l hl
            exact ⟨zs, zy _ _ q1, q2⟩) (show us.length ≤ 50 by omega) l hl
          exact ⟨zs, q1, by omega⟩⟩ (fun k σ H' hk hw => ?_) (fun σ H' hw => ?_)
      · obtain ⟨y4, rfl, x, e, ls⟩ := hw
        obtain ⟨l, hl, hk'⟩ : ∃ l, l ∈ [l1, l2, t] ∧ ([l1, l2, t].map V.ref)[k]? = some (.ref l) := by
          have hkk : k = 0 ∨ k = 1 ∨ k = 2 := by omega
          rcases hkk with rfl | rfl | rfl
          · exact ⟨l1, by simp, rfl⟩
          · exact ⟨l2, by simp, rfl⟩
          · exact ⟨t, by simp, rfl⟩
        obtain ⟨zs, el, zl⟩ := ls l hl
        obtain ⟨dl, ml⟩ := hls l hl
        refine ⟨_, rfl, _, rfl, l3, _, _, .ref l, rfl, rfl, SqL.of e, by rw [Int.zero_add]; exact atI_nat hk', .inl ⟨rfl, _, SqL.of el⟩, l, zs, _, rfl, rfl, el, by omega, ?_⟩
        exact ⟨_, rfl, Ext.set x ml, by rw [upd_ne dl.symm]; exact e, lists_app ls zl⟩
      · obtain ⟨y4, rfl, x, e, ls⟩ := hw
        exact ⟨_, rfl, _, rfl, _, rfl, G, ps, bs, .ref a, .ref ap, .ref ab, rfl, eg.trans x, hx, hy, hz, fr, fun H'' x'' => q _ (x.trans x'')⟩
    · skip
      refine ⟨3, rfl, by decide, by decide, ?_⟩
      refine for_range (n := 3) (Nw a ap ab l3 [l1, l2, t] H) ⟨_, rfl, x4.trans zy, zy _ _ e4, fun l hl => by
          obtain ⟨zs, q1, q2⟩ := hin l hl
          exact ⟨zs, zy _ _ q1, by omega⟩⟩ (fun k σ H' hk hw => ?_) (fun σ H' hw => ?_)
      · obtain ⟨y4, rfl, x, e, ls⟩ := hw
        obtain ⟨l, hl, hk'⟩ : ∃ l, l ∈ [l1, l2, t] ∧ ([l1, l2, t].map V.ref)[k]? = some (.ref l) := by
          have hkk : k = 0 ∨ k = 1 ∨ k = 2 := by omega
          rcases hkk with rfl | rfl | rfl
          · exact ⟨l1, by simp, rfl⟩
          · exact ⟨l2, by simp, rfl⟩
          · exact ⟨t, by simp, rfl⟩
        obtain ⟨zs, el, zl⟩ := ls l hl
        obtain ⟨dl, ml⟩ := hls l hl
        refine ⟨_, rfl, _, rfl, l3, _, _, .ref l, rfl, rfl, SqL.of e, by rw [Int.zero_add]; exact atI_nat hk', .inl ⟨rfl, _, SqL.of el⟩, l, zs, _, rfl, rfl, el, by omega, ?_⟩
        exact ⟨_, rfl, Ext.set x ml, by rw [upd_ne dl.symm]; exact e, lists_app ls zl⟩
      · obtain ⟨y4, rfl, x, e, ls⟩ := hw
        exact ⟨_, rfl, _, rfl, _, rfl, G, ps, bs, .ref a, .ref ap, .ref ab, rfl, eg.trans x, hx, hy, hz, fr, fun H'' x'' => q _ (x.trans x'')⟩
end
end K84

/-! The law: all is right. -/
namespace K84
open PySem PySem.Spec PyProof.Rows L2

def spRight : Sp := fun vs H Q _ => ∃ (p : Addr), vs = [.ref p] ∧ PotAt H p ∧ ∀ H', Q (.bl true) H'
theorem pti_cmp {d e : Dt} (h : PtI d) (g : PtI e) : d.cmp e := by
  obtain ⟨x, y, rfl, _⟩ := h
  obtain ⟨x', y', rfl, _⟩ := g
  simp only [Dt.cmp, Dt.cmps]
  trivial
theorem pti_cmps : ∀ {ds es : List Dt}, (∀ d ∈ ds, PtI d) → (∀ d ∈ es, PtI d) → Dt.cmps ds es
  | [], _, _, _ => by simp [Dt.cmps]
  | d :: ds, [], _, _ => by simp [Dt.cmps]
  | d :: ds, e :: es, h, g => by
    rw [Dt.cmps]
    exact ⟨pti_cmp (h d (List.mem_cons_self ..)) (g e (List.mem_cons_self ..)), pti_cmps (fun x hx => h x (List.mem_cons_of_mem _ hx)) fun x hx => g x (List.mem_cons_of_mem _ hx)⟩
theorem pti_ht {d : Dt} (h : PtI d) : d.ht ≤ 1 := by
  obtain ⟨x, y, rfl, _⟩ := h
  simp only [Dt.ht, Dt.hts]
  omega
/-- a value of another kind than a Frame -/
def Other (K : PySem.W.Frag) (CF : Addr) (H : Hp) (y : V) : Prop := ∃ t, TyX K H y t ∧ PySem.W.notFirst K CF t = true ∧ PySem.W.kitOne K t (.ref CF) = some false
theorem bl2 {b c : Bool} : Dt.hts [.bl b, .bl c] ≤ 0 ∧ Dt.oks [.bl b, .bl c] ∧ (listText (Dt.texts [.bl b, .bl c])).length ≤ sizeLine := by
  have o : ∀ d ∈ [Dt.bl b, .bl c], d.ok := fun d hd => by
    rcases List.mem_cons.mp hd with rfl | hd
    · simp [Dt.ok]
    · rw [List.mem_singleton] at hd
      rw [hd]
      simp [Dt.ok]
  refine ⟨by simp [Dt.hts, Dt.ht], oks_of o, list_fits o ?_⟩
  simp [cnts, cnt]

/-- .. and x == y of two lists -/
theorem and_eqDt {CR : Addr} {N i j : Nat} {σ : L2.St} {H : Hp} {Q : VK} {x y : V} {c : Bool} {ds es : List Dt} (h1 : σ[i]? = some (some x)) (h2 : σ[j]? = some (some y)) (hi : Is CR H (.lst ds) x ∧ Is CR H (.lst es) y)
    (hc : Dt.cmps ds es) (hh : Dt.hts ds ≤ N) (h : ∀ H', Ext H H' → Q (.bl (c && Dt.sames ds es)) H') :
    if c = true then tOp (rEqDt CR N) (tVar i) (tVar j) σ H Q else Q (.bl false) H := by
  cases c with
  | false => exact iteF (h H Ext.rfl')
  | true => exact iteT ⟨_, h1, _, h2, ds, es, .inl hi, hc, hh, fun H' x' => h H' x'⟩

section
variable {P : Program} {w : World} {K : PySem.W.Frag} {mg : Str → Option Value} {base : Heap}
theorem eqF (T : Tx K mg) {X : Cx} (h1 : X.K = K) (F : FnOk X.prog X.w X.K X.mg X.base CX0 4 T.Frame_eq.f T.Frame_eq.fd ["self", "other"] (spFrameEq K T.CR T.CF)) : OwnEq X T.CF 4 (spFrameEq K T.CR T.CF) := by
  subst h1
  exact ⟨T.Frame_eq.f, T.Frame_eq.fd, F, T.Frame_eq.m.at_, T.Frame_eq.m.fn, T.Frame_eq.b, T.Frame.ne, T.Frame.cm⟩

theorem ok_l_right (T : Tx K mg) : FnG P w K mg base 13 T.l_right.f T.l_right.fd ["_law_pot_here"] spRight := by
  have F1 := ok_l_frame (P := P) (w := w) (base := base) T
  have F2 := ok_l_made (P := P) (w := w) (base := base) T
  have F3 := ok_l_told_right (P := P) (w := w) (base := base) T
  have F4 := ok_l_new_right (P := P) (w := w) (base := base) T
  have F5 := ok_frameEq (P := P) (w := w) (base := base) T
  have F6 := ok_ratRepr (P := P) (w := w) (base := base) T
  have F7 := ok_ratEq (P := P) (w := w) (base := base) T
  have F8 := ok_framePoints (P := P) (w := w) (base := base) T
  refine T.l_right.F.okG sc_l_right (fun vs H Q E h => ?_) (fun cdv A outer s H vs Q E hg hr h => ?_)
  · obtain ⟨p, rfl, _⟩ := h
    rfl
  · obtain ⟨p, rfl, hpot, q⟩ := h
    have nd := sc_l_right.nd
    refine ⟨_, pss_cons (ps_asg (pe_call F1 (hr.mono (by decide)) (by rfl) T.l_frame.g T.l_frame.F.kp T.l_frame.b .nil pass0 (pa_cons (pv 0) (pa_cons pe_int (pa_cons pe_int pa_nil))))
          (pg_tup rfl (pgs_cons (pg_name (i := 1) nd rfl (.inl rfl)) (pgs_cons (pg_name (i := 2) nd rfl (.inl rfl)) pgs_nil))))
      (pss_cons (ps_par (i := 3) (j := 4) rfl nd rfl rfl (by decide) rfl rfl
          (pa_cons (pe_call F2 (hr.mono (by decide)) (by rfl) T.l_made.g T.l_made.F.kp T.l_made.b .nil pass0 (pa_cons (pv 0) (pa_cons (pv 1) (pa_cons (pv 2) pa_nil))))
            (pa_cons (pe_call F2 (hr.mono (by decide)) (by rfl) T.l_made.g T.l_made.F.kp T.l_made.b .nil pass0 (pa_cons (pv 0) (pa_cons (pv 1) (pa_cons (pv 2) pa_nil)))) pa_nil)) (by rfl))
      (pss_cons (ps_if (PW.pt (pw_or (pt_not (pt_val (pe_callG F3 hg (hr.mono (by decide)) (by rfl) T.l_told_right.g T.l_told_right.F.kp T.l_told_right.b (pa_cons (pv 3) (pa_cons (pv 1) (pa_cons (pv 2) pa_nil))))))
          (pw_or1 (pt_not (pt_val (pe_callG F4 hg hr (by rfl) T.l_new_right.g T.l_new_right.F.kp T.l_new_right.b (pa_cons (pv 3) (pa_cons (pv 1) (pa_cons (pv 2) pa_nil))))))))) pss_never pss_nil)
      (pss_cons (ps_if (pt_cmpR op_ne
          (pe_callB (call_reprD (ratRep T rfl F6) 0 hg (hr.mono (by decide))) (by rfl) T.z_repr boot_repr (pa_cons (pe_lst
            (pa_cons (pe_cmpR (op_eqOwn (eqF T rfl F5) (hr.mono (by decide))) (pv 3) (pv 4) (nomark _)) (pa_cons (pe_cmpR (op_neOwn (eqF T rfl F5) (hr.mono (by decide))) (pv 3) (pv 4) (nomark _)) pa_nil))) pa_nil))
          (pe_callB (call_reprD (ratRep T rfl F6) 0 hg (hr.mono (by decide))) (by rfl) T.z_repr boot_repr (pa_cons (pe_lst (pa_cons pe_bl (pa_cons pe_bl pa_nil))) pa_nil)) (nomark _)) pss_never pss_nil)
      (pss_cons (ps_asg (pe_call F1 (hr.mono (by decide)) (by rfl) T.l_frame.g T.l_frame.F.kp T.l_frame.b .nil pass0 (pa_cons (pv 0) (pa_cons pe_int (pa_cons pe_int pa_nil))))
          (pg_tup rfl (pgs_cons (pg_name (i := 5) nd rfl (.inl rfl)) (pgs_cons (pg_name (i := 6) nd rfl (.inl rfl)) pgs_nil))))
      (pss_cons (ps_if (pt_cmpR op_ne
          (pe_cmpR (op_eqOwn (eqF T rfl F5) (hr.mono (by decide))) (pv 3) (pe_call F2 (hr.mono (by decide)) (by rfl) T.l_made.g T.l_made.F.kp T.l_made.b .nil pass0 (pa_cons (pv 0) (pa_cons (pv 5) (pa_cons (pv 6) pa_nil)))) (nomark _))
          (pe_and (pe_cmpR (op_eqDt (ratEq T rfl F7) 1 (hr.mono (by decide))) (pv 1) (pv 5) (nomark _)) (pe_one (pe_cmpR (op_eqDt (ratEq T rfl F7) 1 (hr.mono (by decide))) (pv 2) (pv 6) (nomark _)))) (nomark _)) pss_never pss_nil)
      (pss_cons (ps_if (PW.pt (pw_and (pt_cmpR (op_neL hr.units0) (pv 2) (pe_lst pa_nil) (nomark _))
          (pw_and1 (pt_cmpR (op_eqOwn (eqF T rfl F5) (hr.mono (by decide))) (pv 3) (pe_call F2 (hr.mono (by decide)) (by rfl) T.l_made.g T.l_made.F.kp T.l_made.b .nil pass0
            (pa_cons (pv 0) (pa_cons (pv 1) (pa_cons (pe_slice sl_list (pv 2) (po_some pe_int) po_none) pa_nil)))) (nomark _))))) pss_never pss_nil)
      (pss_cons (ps_for PassesOwn.never rfl (pi_list (pe_lst (pa_cons pe_non (pa_cons pe_int (pa_cons pe_bl (pa_cons pe_str (pa_cons (pe_lst pa_nil) (pa_cons (pe_tup (pa_cons (pv 1) (pa_cons (pv 2) pa_nil))) (pa_cons (pv 1)
          (pa_cons (pe_meth0 (pv 3) T.Frame.cl T.Frame_points.m F8 (hr.mono (by decide)) T.Frame_points.b .nil pass0) pa_nil)))))))))) (pg_name (i := 7) nd rfl (.inl rfl))
        (pss_one (ps_if (pt_cmpR op_ne
          (pe_callB (call_reprD (ratRep T rfl F6) 0 hg (hr.mono (by decide))) (by rfl) T.z_repr boot_repr (pa_cons (pe_lst
            (pa_cons (pe_cmpR (op_eqOwn (eqF T rfl F5) (hr.mono (by decide))) (pv 3) (pv 7) (nomark _)) (pa_cons (pe_cmpR (op_neOwn (eqF T rfl F5) (hr.mono (by decide))) (pv 3) (pv 7) (nomark _)) pa_nil))) pa_nil))
          (pe_callB (call_reprD (ratRep T rfl F6) 0 hg (hr.mono (by decide))) (by rfl) T.z_repr boot_repr (pa_cons (pe_lst (pa_cons pe_bl (pa_cons pe_bl pa_nil))) pa_nil)) (nomark _)) pss_never pss_nil)))
      (pss_one (ps_ret pe_bl))))))))), ?_⟩
    refine ⟨_, rfl, fun _ => none, p, rfl, (fun b o h => nomatch h), rfl, hpot, fun G1 H1 ps bs v1 g1 pot1 n1p fr iv => ?_⟩
    obtain ⟨t, u1, u2, rfl, et, i1, i2⟩ := is_tup2 iv
    refine ⟨t, _, rfl, SqT.of (g1.gh _ _ et), rfl, _, _, rfl, _, _, rfl, rfl, ?_⟩
    have ok := fr.frs.ok
    have hcF : PySem.W.notFirst K T.CF (.ref T.CF) = true := by simp [PySem.W.notFirst]
    -- the frame, and once more
    refine ⟨_, rfl, _, rfl, _, rfl, G1, p, ps, bs, u1, u2, rfl, g1.gh, n1p, pot1, i1, i2, fr, fun G2 H2 v2 g2 pot2 n2p f2 => ?_⟩
    refine ⟨_, rfl, _, rfl, _, rfl, G2, p, ps, bs, u1, u2, rfl, g2.gh, n2p, pot2, i1.ext g2.gg, i2.ext g2.gg, fr, fun G3 H3 v3 g3 pot3 n3p f3 => ⟨_, _, rfl, ?_⟩⟩
    have j1 := (i1.ext g2.gg).ext g3.gg
    have j2 := (i2.ext g2.gg).ext g3.gg
    have k2 := f2.ext g3.gg
    -- it is told right, and anew
    refine ⟨_, rfl, _, rfl, _, rfl, G3, ps, bs, v2, u1, u2, rfl, g3.gh, k2, j1, j2, fr, fun H4 x4 => ⟨true, rfl, iteF ?_⟩⟩
    refine ⟨_, rfl, _, rfl, _, rfl, G3, ps, bs, v2, u1, u2, rfl, g3.gh.trans x4, k2, j1, j2, fr, fun H5 x5 => ⟨true, rfl, iteF ?_⟩⟩
    have e5 := (g3.gh.trans x4).trans x5
    have pot5 := potTo pot3 fun o ho => x5 _ _ (x4 _ _ ho)
    obtain ⟨a, dx, pp, pb, ex, ea, _, _⟩ := id k2
    subst ex
    -- equal to the other
    have ss : (Dt.sames (ps.map hfD) (ps.map hfD) && Dt.sames bs bs) = true := by rw [sames_self, sames_self]; rfl
    refine ⟨_, rfl, _, rfl, a, dx, _, .ref T.CF, rfl, e5 _ _ ea, frTy T (f3.ext e5), hcF, .ref a, v3, rfl, .inl ⟨_, bs, _, bs, k2.ext e5, f3.ext e5, ok, ok, fun H6 x6 => ⟨_, rfl, ?_⟩⟩⟩
    have e6 := e5.trans x6
    refine ⟨_, rfl, _, rfl, a, dx, _, .ref T.CF, rfl, e6 _ _ ea, frTy T (f3.ext e6), hcF, .ref a, v3, rfl, .inl ⟨_, bs, _, bs, k2.ext e6, f3.ext e6, ok, ok, fun H7 x7 => ⟨_, rfl, ?_⟩⟩⟩
    rw [ss]
    refine ⟨(by show 2 ≤ sizeLine; decide), fun l1 nl1 => ⟨[.bl true, .bl false], l1, rfl, .lst upd_same (.cons (.bl true) (.cons (.bl false) .nil)), bl2.1, bl2.2.1, bl2.2.2, fun H8 x8 => ?_⟩⟩
    refine ⟨(by show 2 ≤ sizeLine; decide), fun l2 nl2 => ⟨[.bl true, .bl false], l2, rfl, .lst upd_same (.cons (.bl true) (.cons (.bl false) .nil)), bl2.1, bl2.2.1, bl2.2.2, fun H9 x9 => ⟨rfl, _, rfl, iteNS rfl ?_⟩⟩⟩
    have x59 : Ext H5 H9 := ((x6.trans x7).trans ((Ext.upd nl1).trans x8)).trans ((Ext.upd nl2).trans x9)
    have e9 := e5.trans x59
    have pot9 := potTo pot5 fun o ho => x59 _ _ ho
    clear x8 x9 x6 x7
    -- other data
    refine ⟨_, rfl, G3, p, rfl, e9, n3p, pot9, fun G10 H10 os ls v10 g10 pot10 n10p fr2 iv2 => ?_⟩
    obtain ⟨t2, w1, w2, rfl, et2, m1, m2⟩ := is_tup2 iv2
    refine ⟨t2, _, rfl, SqT.of (g10.gh _ _ et2), rfl, _, _, rfl, _, _, rfl, rfl, ?_⟩
    refine ⟨_, rfl, _, rfl, _, rfl, _, rfl, G10, p, os, ls, w1, w2, rfl, g10.gh, n10p, pot10, m1, m2, fr2, fun G11 H11 v11 g11 pot11 n11p f11 => ?_⟩
    have ok2 := fr2.frs.ok
    have gg11 := g10.gg.trans g11.gg
    refine ⟨a, dx, _, .ref T.CF, rfl, g11.gh _ _ (gg11 _ _ ea), frTy T (f11.ext g11.gh), hcF, .ref a, v11, rfl, .inl ⟨_, bs, _, ls, (k2.ext gg11).ext g11.gh, f11.ext g11.gh, ok, ok2, fun H12 x12 => ⟨_, rfl, ?_⟩⟩⟩
    have e12 := g11.gh.trans x12
    refine ⟨_, rfl, _, rfl, ps, os, .inl ⟨(j1.ext gg11).ext e12, (m1.ext g11.gg).ext e12⟩, pti_cmps fr.pt fr2.pt, hts_le fun d hd => pti_ht (fr.pt d hd), fun H13 x13 => ⟨_, rfl, ?_⟩⟩
    have e13 := e12.trans x13
    refine and_eqDt rfl rfl ⟨(j2.ext gg11).ext e13, (m2.ext g11.gg).ext e13⟩ (bar_cmps fr.bar fr2.bar) (hts_le fun d hd => bar_ht (fr.bar d hd)) fun H14 x14 => ⟨rfl, _, rfl, iteNS ?_ ?_⟩
    · rw [sames_hfD fr.pt fr2.pt]
      rfl
    have e14 := e13.trans x14
    have pot14 := potTo pot11 fun o ho => x14 _ _ (x13 _ _ (x12 _ _ ho))
    have q1 := j1.ext gg11
    have q2 := j2.ext gg11
    have qk := k2.ext gg11
    obtain ⟨ub0, ys0, eu0, ep0, rb0⟩ := is_lst q2
    have ly0 := rb0.length
    refine ⟨_, by rw [eu0]; rfl, Nat.zero_le _, fun z nz => ?_⟩
    have zy := Ext.upd (o := HO.lst []) nz
    refine ⟨ub0, z, ys0, rfl, rfl, zy _ _ (e14 _ _ ep0), upd_same, _, rfl, ite2 (fun eq => ?_) (fun eq => ?_)⟩
    · have yne : ys0 ≠ [] := of_decide_eq_true eq
      have n1 : 1 ≤ ys0.length := List.length_pos_iff.mpr yne
      have ec : cutV ys0 (some 1) none = ys0.drop 1 := by
        unfold cutV
        show List.take (ys0.length - HT.sIx ys0.length 0 (some ((1 : Nat) : Int))) (ys0.drop (HT.sIx ys0.length 0 (some ((1 : Nat) : Int)))) = _
        rw [HT.sIx_nat, Nat.min_eq_left n1]
        exact List.take_of_length_le (by rw [List.length_drop]; omega)
      refine ⟨_, rfl, _, rfl, _, rfl, _, rfl, _, rfl, ub0, ys0, eu0, SqL.of (zy _ _ (e14 _ _ ep0)), fun c nc => ?_⟩
      have g15 : Gr (atP p) G11 (upd H14 z (.lst [])) (upd G11 c (.lst (cutV ys0 (some 1) none))) (upd (upd H14 z (.lst [])) c (.lst (cutV ys0 (some 1) none))) := (Gr.refl (e14.trans zy)).new nc
      have xc := Ext.upd (o := HO.lst (cutV ys0 (some 1) none)) nc
      have pot15 := potTo pot14 fun o ho => xc _ _ (zy _ _ ho)
      have cp : c ≠ p := fun h => (potTo pot14 fun o ho => zy _ _ ho).some (by rw [← h]; exact nc)
      have n15 : (upd G11 c (.lst (cutV ys0 (some 1) none))) p = none := by rw [upd_ne cp.symm]; exact n11p
      have ic : Is T.CR (upd G11 c (.lst (cutV ys0 (some 1) none))) (.lst (bs.drop 1)) (.ref c) := by
        have r0 : Iss T.CR G11 (bs.drop 1) (cutV ys0 (some 1) none) := by
          rw [ec]
          exact rb0.drop 1
        exact .lst upd_same (r0.ext g15.gg)
      have fr3 : FrI ps (bs.drop 1) := ⟨fr.pt, fun d hd => fr.bar d (List.mem_of_mem_drop hd), fr.lp, by have := fr.lb; simp; omega⟩
      refine ⟨_, p, ps, _, u1, .ref c, rfl, g15.gh, n15, pot15, q1.ext g15.gg, ic, fr3, fun G16 H16 v16 g16 pot16 n16p f16 => ?_⟩
      have gg16 := g15.gg.trans g16.gg
      refine ⟨a, dx, _, .ref T.CF, rfl, g16.gh _ _ (gg16 _ _ (gg11 _ _ ea)), frTy T (f16.ext g16.gh), hcF, .ref a, v16, rfl, .inl ⟨_, bs, _, _, (qk.ext gg16).ext g16.gh, f16.ext g16.gh, ok, fr3.frs.ok, fun H17 x17 => ⟨_, rfl, _, rfl, ite2 (fun e => ?_) (fun _ => ?_)⟩⟩⟩
      · have e' : (Dt.sames (ps.map hfD) (ps.map hfD) && Dt.sames bs (bs.drop 1)) = true := e
        rw [sames_len (ds := bs) (es := bs.drop 1) (by rw [List.length_drop]; omega), Bool.and_false] at e'
        cases e'
      · skip
        have es := gg16.trans (g16.gh.trans x17)
        obtain ⟨up, xs, eu1, ep1, rp⟩ := is_lst q1
        subst eu1
        obtain ⟨ub, ys, eu2, ep2, rb⟩ := is_lst q2
        subst eu2
        refine ⟨Nat.zero_le _, fun k1 nk1 => ?_⟩
        have z1 := Ext.upd (o := HO.lst []) nk1
        refine ⟨_, rfl, _, rfl, (by show 2 ≤ sizeLine; decide), fun kt nkt => ?_⟩
        have z2 := Ext.upd (o := HO.tup [V.ref up, .ref ub]) nkt
        have es2 := (es.trans z1).trans z2
        refine ⟨_, rfl, _, rfl, a, dx, _, rfl, es2 _ _ (gg11 _ _ ea), frF_no _ _ (by decide) (by decide), ps.map hfD, bs, .ref a, rfl, qk.ext es2, fun k3 zs nk3 r3 => ?_⟩
        have z3 := Ext.upd (o := HO.lst zs) nk3
        refine ⟨(by show 8 ≤ sizeLine; decide), fun k4 nk4 => ?_⟩
        have z4 := Ext.upd (o := HO.lst [V.non, .int 0, .bl true, .str ("" : Str), .ref k1, .ref kt, .ref up, .ref k3]) nk4
        refine ⟨k4, rfl, ⟨_, SqL.of upd_same⟩, ?_⟩
        have es4 := (es2.trans z3).trans z4
        have y1 := z4 _ _ (z3 _ _ (z2 _ _ (upd_same (a := k1) (o := HO.lst []))))
        have y2 := z4 _ _ (z3 _ _ (upd_same (a := kt) (o := HO.tup [V.ref up, .ref ub])))
        have y3 := z4 _ _ (upd_same (a := k3) (o := HO.lst zs))
        have y4 := es4 _ _ ep1
        have hv : ∀ H', H' k1 = some (.lst []) → H' kt = some (.tup [V.ref up, .ref ub]) → H' up = some (.lst xs) → H' k3 = some (.lst zs) → ∀ x ∈ [V.non, .int 0, .bl true, .str ("" : Str), .ref k1, .ref kt, .ref up, .ref k3], Other K T.CF H' x := by
          intro H' h1 h2 h3 h4 x hx
          simp only [List.mem_cons, List.not_mem_nil, or_false] at hx
          rcases hx with rfl | rfl | rfl | rfl | rfl | rfl | rfl | rfl
          · exact ⟨_, .base .non, T.nof_n0, T.kit_v0⟩
          · exact ⟨_, .base (.int 0), T.nof_n1, T.kit_v1⟩
          · exact ⟨_, .base (.bl true), T.nof_n2, T.kit_v2⟩
          · exact ⟨_, .base (.str _), T.nof_n3, T.kit_v3⟩
          · exact ⟨_, .base (.lst h1), T.nof_n4, T.kit_v4⟩
          · exact ⟨_, .base (.tup h2), T.nof_n5, T.kit_v5⟩
          · exact ⟨_, .base (.lst h3), T.nof_n4, T.kit_v4⟩
          · exact ⟨_, .base (.lst h4), T.nof_n4, T.kit_v4⟩
        refine for_list (K := K) (a := k4) (xs := [V.non, .int 0, .bl true, .str ("" : Str), .ref k1, .ref kt, .ref up, .ref k3])
          (fun _ σ H' => ∃ y7, σ = [some (V.ref p), some (.ref up), some (.ref ub), some (.ref a), some v3, some w1, some w2, y7] ∧ Ext G11 H' ∧ H' k1 = some (.lst []) ∧ H' kt = some (.tup [V.ref up, .ref ub]) ∧ H' up = some (.lst xs) ∧ H' k3 = some (.lst zs) ∧
            H' k4 = some (.lst [V.non, .int 0, .bl true, .str ("" : Str), .ref k1, .ref kt, .ref up, .ref k3]))
          ⟨_, rfl, es4, y1, y2, y4, y3, upd_same⟩ (fun i σ H' _ hw => ?_) (fun i x σ H' hx' hw => ?_) (fun σ H' hw => ?_)
        · obtain ⟨y7, _, _, _, _, _, _, h5⟩ := hw
          exact SqL.of h5
        · obtain ⟨y7, rfl, e, h1, h2, h3, h4, h5⟩ := hw
          obtain ⟨ty, t1, t2, t3⟩ := hv H' h1 h2 h3 h4 x (List.mem_of_getElem? hx')
          refine ⟨_, rfl, _, rfl, a, dx, _, ty, rfl, e _ _ (gg11 _ _ ea), t1, t2, .ref a, x, rfl, .inr ⟨ty, t1, t3, _, rfl, ?_⟩⟩
          refine ⟨_, rfl, _, rfl, a, dx, _, ty, rfl, e _ _ (gg11 _ _ ea), t1, t2, .ref a, x, rfl, .inr ⟨ty, t1, t3, _, rfl, ?_⟩⟩
          refine ⟨(by show 2 ≤ sizeLine; decide), fun l1 nl1 => ⟨[.bl false, .bl true], l1, rfl, .lst upd_same (.cons (.bl false) (.cons (.bl true) .nil)), bl2.1, bl2.2.1, bl2.2.2, fun H8 x8 => ?_⟩⟩
          refine ⟨(by show 2 ≤ sizeLine; decide), fun l2 nl2 => ⟨[.bl false, .bl true], l2, rfl, .lst upd_same (.cons (.bl false) (.cons (.bl true) .nil)), bl2.1, bl2.2.1, bl2.2.2, fun H9 x9 => ⟨rfl, _, rfl, iteNS rfl ?_⟩⟩⟩
          have xx := ((Ext.upd (o := HO.lst [V.bl false, .bl true]) nl1).trans x8).trans ((Ext.upd (o := HO.lst [V.bl false, .bl true]) nl2).trans x9)
          exact ⟨_, rfl, e.trans xx, xx _ _ h1, xx _ _ h2, xx _ _ h3, xx _ _ h4, xx _ _ h5⟩
        · exact q _
    · skip
      have es := e14.trans zy
      obtain ⟨up, xs, eu1, ep1, rp⟩ := is_lst q1
      subst eu1
      obtain ⟨ub, ys, eu2, ep2, rb⟩ := is_lst q2
      subst eu2
      refine ⟨Nat.zero_le _, fun k1 nk1 => ?_⟩
      have z1 := Ext.upd (o := HO.lst []) nk1
      refine ⟨_, rfl, _, rfl, (by show 2 ≤ sizeLine; decide), fun kt nkt => ?_⟩
      have z2 := Ext.upd (o := HO.tup [V.ref up, .ref ub]) nkt
      have es2 := (es.trans z1).trans z2
      refine ⟨_, rfl, _, rfl, a, dx, _, rfl, es2 _ _ (gg11 _ _ ea), frF_no _ _ (by decide) (by decide), ps.map hfD, bs, .ref a, rfl, qk.ext es2, fun k3 zs nk3 r3 => ?_⟩
      have z3 := Ext.upd (o := HO.lst zs) nk3
      refine ⟨(by show 8 ≤ sizeLine; decide), fun k4 nk4 => ?_⟩
      have z4 := Ext.upd (o := HO.lst [V.non, .int 0, .bl true, .str ("" : Str), .ref k1, .ref kt, .ref up, .ref k3]) nk4
      refine ⟨k4, rfl, ⟨_, SqL.of upd_same⟩, ?_⟩
      have es4 := (es2.trans z3).trans z4
      have y1 := z4 _ _ (z3 _ _ (z2 _ _ (upd_same (a := k1) (o := HO.lst []))))
      have y2 := z4 _ _ (z3 _ _ (upd_same (a := kt) (o := HO.tup [V.ref up, .ref ub])))
      have y3 := z4 _ _ (upd_same (a := k3) (o := HO.lst zs))
      have y4 := es4 _ _ ep1
      have hv : ∀ H', H' k1 = some (.lst []) → H' kt = some (.tup [V.ref up, .ref ub]) → H' up = some (.lst xs) → H' k3 = some (.lst zs) → ∀ x ∈ [V.non, .int 0, .bl true, .str ("" : Str), .ref k1, .ref kt, .ref up, .ref k3], Other K T.CF H' x := by
        intro H' h1 h2 h3 h4 x hx
        simp only [List.mem_cons, List.not_mem_nil, or_false] at hx
        rcases hx with rfl | rfl | rfl | rfl | rfl | rfl | rfl | rfl
        · exact ⟨_, .base .non, T.nof_n0, T.kit_v0⟩
        · exact ⟨_, .base (.int 0), T.nof_n1, T.kit_v1⟩
        · exact ⟨_, .base (.bl true), T.nof_n2, T.kit_v2⟩
        · exact ⟨_, .base (.str _), T.nof_n3, T.kit_v3⟩
        · exact ⟨_, .base (.lst h1), T.nof_n4, T.kit_v4⟩
        · exact ⟨_, .base (.tup h2), T.nof_n5, T.kit_v5⟩
        · exact ⟨_, .base (.lst h3), T.nof_n4, T.kit_v4⟩
        · exact ⟨_, .base (.lst h4), T.nof_n4, T.kit_v4⟩
      refine for_list (K := K) (a := k4) (xs := [V.non, .int 0, .bl true, .str ("" : Str), .ref k1, .ref kt, .ref up, .ref k3])
        (fun _ σ H' => ∃ y7, σ = [some (V.ref p), some (.ref up), some (.ref ub), some (.ref a), some v3, some w1, some w2, y7] ∧ Ext G11 H' ∧ H' k1 = some (.lst []) ∧ H' kt = some (.tup [V.ref up, .ref ub]) ∧ H' up = some (.lst xs) ∧ H' k3 = some (.lst zs) ∧
          H' k4 = some (.lst [V.non, .int 0, .bl true, .str ("" : Str), .ref k1, .ref kt, .ref up, .ref k3]))
        ⟨_, rfl, es4, y1, y2, y4, y3, upd_same⟩ (fun i σ H' _ hw => ?_) (fun i x σ H' hx' hw => ?_) (fun σ H' hw => ?_)
      · obtain ⟨y7, _, _, _, _, _, _, h5⟩ := hw
        exact SqL.of h5
      · obtain ⟨y7, rfl, e, h1, h2, h3, h4, h5⟩ := hw
        obtain ⟨ty, t1, t2, t3⟩ := hv H' h1 h2 h3 h4 x (List.mem_of_getElem? hx')
        refine ⟨_, rfl, _, rfl, a, dx, _, ty, rfl, e _ _ (gg11 _ _ ea), t1, t2, .ref a, x, rfl, .inr ⟨ty, t1, t3, _, rfl, ?_⟩⟩
        refine ⟨_, rfl, _, rfl, a, dx, _, ty, rfl, e _ _ (gg11 _ _ ea), t1, t2, .ref a, x, rfl, .inr ⟨ty, t1, t3, _, rfl, ?_⟩⟩
        refine ⟨(by show 2 ≤ sizeLine; decide), fun l1 nl1 => ⟨[.bl false, .bl true], l1, rfl, .lst upd_same (.cons (.bl false) (.cons (.bl true) .nil)), bl2.1, bl2.2.1, bl2.2.2, fun H8 x8 => ?_⟩⟩
        refine ⟨(by show 2 ≤ sizeLine; decide), fun l2 nl2 => ⟨[.bl false, .bl true], l2, rfl, .lst upd_same (.cons (.bl false) (.cons (.bl true) .nil)), bl2.1, bl2.2.1, bl2.2.2, fun H9 x9 => ⟨rfl, _, rfl, iteNS rfl ?_⟩⟩⟩
        have xx := ((Ext.upd (o := HO.lst [V.bl false, .bl true]) nl1).trans x8).trans ((Ext.upd (o := HO.lst [V.bl false, .bl true]) nl2).trans x9)
        exact ⟨_, rfl, e.trans xx, xx _ _ h1, xx _ _ h2, xx _ _ h3, xx _ _ h4, xx _ _ h5⟩
      · exact q _
end
end K84

/-! The law's def. -/
namespace K84
open PySem PySem.Spec PyProof.Rows L2
section
variable {P : Program} {w : World} {K : PySem.W.Frag} {mg : Str → Option Value} {base : Heap}
theorem ok_law (T : Tx K mg) : FnG P w K mg base 18 T.law.f T.law.fd ["_law_script"] (spLaw K) := by
  have F1 := ok_pot (P := P) (w := w) (base := base) T
  have F2 := ok_l_right (P := P) (w := w) (base := base) T
  refine T.law.F.okG sc_law (fun vs H Q E h => ?_) (fun cdv A outer s H vs Q E hg hr h => ?_)
  · obtain ⟨a, ns, rfl, _⟩ := h
    rfl
  · obtain ⟨a, ns, rfl, hS, hl, q⟩ := h
    refine ⟨_, pss_one (ps_ret (pe_callG F2 hg (hr.mono (by decide)) (by rfl) T.l_right.g T.l_right.F.kp T.l_right.b (pa_cons (pe_call F1 (hr.mono (by decide)) (by rfl) T.l_pot.g T.l_pot.F.kp T.l_pot.b .nil pass0 (pa_cons (pv 0) (pa_cons pe_int pa_nil))) pa_nil))), ?_⟩
    exact ⟨_, rfl, a, ns, rfl, hS, hl, fun l b c nl hb hc hc2 => ⟨l, rfl, ⟨b, c, upd_same, hb, hc, hc2⟩, q⟩⟩
end
theorem all_of {P : Program} {w : World} {K : PySem.W.Frag} {mg : Str → Option Value} {fa : Addr} (hfa : mg "law" = some (.ref fa)) (T : Tx K mg) :
    ∃ fd : FuncData, (∀ (s : Shared) (u : Value), BindsTo s fd ⟨[u], []⟩ [("_law_script", u)]) ∧
        ∀ base : Heap, K.In base → base.Ns mainGlobals mg → FnG P w K mg base 18 fa fd ["_law_script"] (spLaw K) := by
  have e : fa = T.law.f := by
    have h := hfa.symm.trans T.law.g
    injection h with h
    injection h
  subst e
  refine ⟨T.law.fd, fun s u => ?_, fun base _ _ => ok_law T⟩
  obtain ⟨oc, od, kV, doc, pm, an, cdv, ct, osl, e, _⟩ := T.law.F.ex
  rw [e]
  exact .of_eq rfl
end K84

open PySem PySem.W PyProof.Rows in
set_option maxRecDepth 100000 in
set_option maxHeartbeats 0 in
theorem PySem.Challenge.cw_pairsfree_k84_whole_frames_and_their_tab_holds : PySem.Challenge.rw_pairsfree_k84_whole_frames_and_their_tab.Holds := by
  w_on; o_law; k_head; (case hw => w_witness2)
  k_fill
  refine K84.walkG (l := PySem.Challenge.rw_pairsfree_k84_whole_frames_and_their_tab) rfl rfl (fun w h Y => PySem.W.kIn_of Y) ?F
  case F =>
    intro w mg fa h KX G hmg
    refine' K84.all_of hmg (K84.mkTx KX G ?a_is_integer ?l_is_integer ?c_is_integer ?k_is_integer ?a_is_count ?l_is_count ?c_is_count ?k_is_count ?a_is_list ?l_is_list ?c_is_list ?k_is_list ?a_digits_of ?l_digits_of ?c_digits_of ?k_digits_of ?a_common_part ?l_common_part ?c_common_part ?k_common_part ?a_told_pair ?l_told_pair ?c_told_pair ?k_told_pair ?a_is_number ?l_is_number ?c_is_number ?k_is_number ?a_ratio_of ?l_ratio_of ?c_ratio_of ?k_ratio_of ?a_wholes ?l_wholes ?c_wholes ?k_wholes ?a_are_numbers ?l_are_numbers ?c_are_numbers ?k_are_numbers ?a_ratios_of ?l_ratios_of ?c_ratios_of ?k_ratios_of ?a_ints_of ?l_ints_of ?c_ints_of ?k_ints_of ?a_is_pair ?l_is_pair ?c_is_pair ?k_is_pair ?a_right_pairs ?l_right_pairs ?c_right_pairs ?k_right_pairs ?a_is_point ?l_is_point ?c_is_point ?k_is_point ?a_is_bar ?l_is_bar ?c_is_bar ?k_is_bar ?a_want_frame ?l_want_frame ?c_want_frame ?k_want_frame ?a_bar_row ?l_bar_row ?c_bar_row ?k_bar_row ?a_table_of ?l_table_of ?c_table_of ?k_table_of ?a_pairs_of_frame ?l_pairs_of_frame ?c_pairs_of_frame ?k_pairs_of_frame ?a_bar_table ?l_bar_table ?c_bar_table ?k_bar_table ?a_frame_pairs ?l_frame_pairs ?c_frame_pairs ?k_frame_pairs ?a_l_pot ?l_l_pot ?c_l_pot ?k_l_pot ?a_l_draw ?l_l_draw ?c_l_draw ?k_l_draw ?a_l_pick ?l_l_pick ?c_l_pick ?k_l_pick ?a_l_frame ?l_l_frame ?c_l_frame ?k_l_frame ?a_l_made ?l_l_made ?c_l_made ?k_l_made ?a_l_table ?l_l_table ?c_l_table ?k_l_table ?a_l_halves ?l_l_halves ?c_l_halves ?k_l_halves ?a_l_told_right ?l_l_told_right ?c_l_told_right ?k_l_told_right ?a_l_new_right ?l_l_new_right ?c_l_new_right ?k_l_new_right ?a_l_right ?l_l_right ?c_l_right ?k_l_right ?a_law ?l_law ?c_law ?k_law ?aCR ?pgCR ?hdCR ?poCR ?saCR ?mkCR ?kcCR ?caCR ?cmCR ?neCR ?aCP ?pgCP ?hdCP ?poCP ?saCP ?mkCP ?kcCP ?caCP ?cmCP ?neCP ?aCF ?pgCF ?hdCF ?poCF ?saCF ?mkCF ?kcCF ?caCF ?cmCF ?neCF ?aCK ?sfR ?cn ?ct ?a_Ratio_init ?i_Ratio_init ?l_Ratio_init ?c_Ratio_init ?k_Ratio_init ?d_Ratio_init ?e_Ratio_init ?r_Ratio_init ?a_Ratio_sub ?i_Ratio_sub ?l_Ratio_sub ?c_Ratio_sub ?k_Ratio_sub ?a_Ratio_eq ?i_Ratio_eq ?l_Ratio_eq ?c_Ratio_eq ?k_Ratio_eq ?a_Ratio_repr ?i_Ratio_repr ?l_Ratio_repr ?c_Ratio_repr ?k_Ratio_repr ?a_Pairs_init ?i_Pairs_init ?l_Pairs_init ?c_Pairs_init ?k_Pairs_init ?d_Pairs_init ?e_Pairs_init ?r_Pairs_init ?a_Pairs_eq ?i_Pairs_eq ?l_Pairs_eq ?c_Pairs_eq ?k_Pairs_eq ?a_Frame_init ?i_Frame_init ?l_Frame_init ?c_Frame_init ?k_Frame_init ?a_Frame_points ?i_Frame_points ?l_Frame_points ?c_Frame_points ?k_Frame_points ?a_Frame_bars ?i_Frame_bars ?l_Frame_bars ?c_Frame_bars ?k_Frame_bars ?a_Frame_eq ?i_Frame_eq ?l_Frame_eq ?c_Frame_eq ?k_Frame_eq ?a_Frame_repr ?i_Frame_repr ?l_Frame_repr ?c_Frame_repr ?k_Frame_repr ?a_Pairs_size ?g_Pairs_size ?t_Pairs_size ?r_Pairs_size ?l_Pairs_size ?c_Pairs_size ?k_Pairs_size ?a_Frame_many ?g_Frame_many ?t_Frame_many ?r_Frame_many ?l_Frame_many ?c_Frame_many ?k_Frame_many ?nf_own_top ?nf_own_bottom ?nf_own_size ?nf_own_rows ?nf_own_ints ?nf_own_points ?nf_own_bars ?z_isinstance ?z_len ?z_all ?z_tuple ?z_list ?z_repr ?z_range ?z_abs ?z_max ?z_int ?z_divmod ?z_bool ?m_gcd ?m_lcm ?m_MOST_POINTS ?m_MOST_BARS ?m_MOST_SIZE ?m_MOST_PAIRS ?m_PART ?kit_rI ?kit_rB ?kit_rR ?kit_iR ?kit_fF ?kit_pP ?kit_iK ?kit_v0 ?kit_v1 ?kit_v2 ?kit_v3 ?kit_v4 ?kit_v5 ?nof_n0 ?nof_n1 ?nof_n2 ?nof_n3 ?nof_n4 ?nof_n5)
    (case a_is_integer => k_is)
    (case l_is_integer => k_is)
    (case c_is_integer => k_is)
    (case k_is_integer => k_is)
    (case a_is_count => k_is)
    (case l_is_count => k_is)
    (case c_is_count => k_is)
    (case k_is_count => k_is)
    (case a_is_list => k_is)
    (case l_is_list => k_is)
    (case c_is_list => k_is)
    (case k_is_list => k_is)
    (case a_digits_of => k_is)
    (case l_digits_of => k_is)
    (case c_digits_of => k_is)
    (case k_digits_of => k_is)
    (case a_common_part => k_is)
    (case l_common_part => k_is)
    (case c_common_part => k_is)
    (case k_common_part => k_is)
    (case a_told_pair => k_is)
    (case l_told_pair => k_is)
    (case c_told_pair => k_is)
    (case k_told_pair => k_is)
    (case a_is_number => k_is)
    (case l_is_number => k_is)
    (case c_is_number => k_is)
    (case k_is_number => k_is)
    (case a_ratio_of => k_is)
    (case l_ratio_of => k_is)
    (case c_ratio_of => k_is)
    (case k_ratio_of => k_is)
    (case a_wholes => k_is)
    (case l_wholes => k_is)
    (case c_wholes => k_is)
    (case k_wholes => k_is)
    (case a_are_numbers => k_is)
    (case l_are_numbers => k_is)
    (case c_are_numbers => k_is)
    (case k_are_numbers => k_is)
    (case a_ratios_of => k_is)
    (case l_ratios_of => k_is)
    (case c_ratios_of => k_is)
    (case k_ratios_of => k_is)
    (case a_ints_of => k_is)
    (case l_ints_of => k_is)
    (case c_ints_of => k_is)
    (case k_ints_of => k_is)
    (case a_is_pair => k_is)
    (case l_is_pair => k_is)
    (case c_is_pair => k_is)
    (case k_is_pair => k_is)
    (case a_right_pairs => k_is)
    (case l_right_pairs => k_is)
    (case c_right_pairs => k_is)
    (case k_right_pairs => k_is)
    (case a_is_point => k_is)
    (case l_is_point => k_is)
    (case c_is_point => k_is)
    (case k_is_point => k_is)
    (case a_is_bar => k_is)
    (case l_is_bar => k_is)
    (case c_is_bar => k_is)
    (case k_is_bar => k_is)
    (case a_want_frame => k_is)
    (case l_want_frame => k_is)
    (case c_want_frame => k_is)
    (case k_want_frame => k_is)
    (case a_bar_row => k_is)
    (case l_bar_row => k_is)
    (case c_bar_row => k_is)
    (case k_bar_row => k_is)
    (case a_table_of => k_is)
    (case l_table_of => k_is)
    (case c_table_of => k_is)
    (case k_table_of => k_is)
    (case a_pairs_of_frame => k_is)
    (case l_pairs_of_frame => k_is)
    (case c_pairs_of_frame => k_is)
    (case k_pairs_of_frame => k_is)
    (case a_bar_table => k_is)
    (case l_bar_table => k_is)
    (case c_bar_table => k_is)
    (case k_bar_table => k_is)
    (case a_frame_pairs => k_is)
    (case l_frame_pairs => k_is)
    (case c_frame_pairs => k_is)
    (case k_frame_pairs => k_is)
    (case a_l_pot => k_is)
    (case l_l_pot => k_is)
    (case c_l_pot => k_is)
    (case k_l_pot => k_is)
    (case a_l_draw => k_is)
    (case l_l_draw => k_is)
    (case c_l_draw => k_is)
    (case k_l_draw => k_is)
    (case a_l_pick => k_is)
    (case l_l_pick => k_is)
    (case c_l_pick => k_is)
    (case k_l_pick => k_is)
    (case a_l_frame => k_is)
    (case l_l_frame => k_is)
    (case c_l_frame => k_is)
    (case k_l_frame => k_is)
    (case a_l_made => k_is)
    (case l_l_made => k_is)
    (case c_l_made => k_is)
    (case k_l_made => k_is)
    (case a_l_table => k_is)
    (case l_l_table => k_is)
    (case c_l_table => k_is)
    (case k_l_table => k_is)
    (case a_l_halves => k_is)
    (case l_l_halves => k_is)
    (case c_l_halves => k_is)
    (case k_l_halves => k_is)
    (case a_l_told_right => k_is)
    (case l_l_told_right => k_is)
    (case c_l_told_right => k_is)
    (case k_l_told_right => k_is)
    (case a_l_new_right => k_is)
    (case l_l_new_right => k_is)
    (case c_l_new_right => k_is)
    (case k_l_new_right => k_is)
    (case a_l_right => k_is)
    (case l_l_right => k_is)
    (case c_l_right => k_is)
    (case k_l_right => k_is)
    (case a_law => k_is)
    (case l_law => k_is)
    (case c_law => k_is)
    (case k_law => k_is)
    (case aCR => k_is)
    (case pgCR => k_is)
    (case hdCR => k_is)
    (case poCR => k_is)
    (case saCR => k_is)
    (case mkCR => k_is)
    (case kcCR => k_is)
    (case caCR => k_is)
    (case cmCR => k_is)
    (case neCR => k_is)
    (case aCP => k_is)
    (case pgCP => k_is)
    (case hdCP => k_is)
    (case poCP => k_is)
    (case saCP => k_is)
    (case mkCP => k_is)
    (case kcCP => k_is)
    (case caCP => k_is)
    (case cmCP => k_is)
    (case neCP => k_is)
    (case aCF => k_is)
    (case pgCF => k_is)
    (case hdCF => k_is)
    (case poCF => k_is)
    (case saCF => k_is)
    (case mkCF => k_is)
    (case kcCF => k_is)
    (case caCF => k_is)
    (case cmCF => k_is)
    (case neCF => k_is)
    (case aCK => k_is)
    (case sfR => k_is)
    (case cn => k_is)
    (case ct => k_is)
    (case a_Ratio_init => k_is)
    (case i_Ratio_init => k_is)
    (case l_Ratio_init => k_is)
    (case c_Ratio_init => k_is)
    (case k_Ratio_init => k_is)
    (case d_Ratio_init => k_is)
    (case e_Ratio_init => rfl)
    (case r_Ratio_init => exact ⟨_, rfl⟩)
    (case a_Ratio_sub => k_is)
    (case i_Ratio_sub => k_is)
    (case l_Ratio_sub => k_is)
    (case c_Ratio_sub => k_is)
    (case k_Ratio_sub => k_is)
    (case a_Ratio_eq => k_is)
    (case i_Ratio_eq => k_is)
    (case l_Ratio_eq => k_is)
    (case c_Ratio_eq => k_is)
    (case k_Ratio_eq => k_is)
    (case a_Ratio_repr => k_is)
    (case i_Ratio_repr => k_is)
    (case l_Ratio_repr => k_is)
    (case c_Ratio_repr => k_is)
    (case k_Ratio_repr => k_is)
    (case a_Pairs_init => k_is)
    (case i_Pairs_init => k_is)
    (case l_Pairs_init => k_is)
    (case c_Pairs_init => k_is)
    (case k_Pairs_init => k_is)
    (case d_Pairs_init => k_is)
    (case e_Pairs_init => rfl)
    (case r_Pairs_init => exact rfl)
    (case a_Pairs_eq => k_is)
    (case i_Pairs_eq => k_is)
    (case l_Pairs_eq => k_is)
    (case c_Pairs_eq => k_is)
    (case k_Pairs_eq => k_is)
    (case a_Frame_init => k_is)
    (case i_Frame_init => k_is)
    (case l_Frame_init => k_is)
    (case c_Frame_init => k_is)
    (case k_Frame_init => k_is)
    (case a_Frame_points => k_is)
    (case i_Frame_points => k_is)
    (case l_Frame_points => k_is)
    (case c_Frame_points => k_is)
    (case k_Frame_points => k_is)
    (case a_Frame_bars => k_is)
    (case i_Frame_bars => k_is)
    (case l_Frame_bars => k_is)
    (case c_Frame_bars => k_is)
    (case k_Frame_bars => k_is)
    (case a_Frame_eq => k_is)
    (case i_Frame_eq => k_is)
    (case l_Frame_eq => k_is)
    (case c_Frame_eq => k_is)
    (case k_Frame_eq => k_is)
    (case a_Frame_repr => k_is)
    (case i_Frame_repr => k_is)
    (case l_Frame_repr => k_is)
    (case c_Frame_repr => k_is)
    (case k_Frame_repr => k_is)
    (case a_Pairs_size => k_is)
    (case g_Pairs_size => k_is)
    (case t_Pairs_size => k_is)
    (case r_Pairs_size => k_is)
    (case l_Pairs_size => k_is)
    (case c_Pairs_size => k_is)
    (case k_Pairs_size => k_is)
    (case a_Frame_many => k_is)
    (case g_Frame_many => k_is)
    (case t_Frame_many => k_is)
    (case r_Frame_many => k_is)
    (case l_Frame_many => k_is)
    (case c_Frame_many => k_is)
    (case k_Frame_many => k_is)
    (case nf_own_top => k_is)
    (case nf_own_bottom => k_is)
    (case nf_own_size => k_is)
    (case nf_own_rows => k_is)
    (case nf_own_ints => k_is)
    (case nf_own_points => k_is)
    (case nf_own_bars => k_is)
    (case z_isinstance => k_is)
    (case z_len => k_is)
    (case z_all => k_is)
    (case z_tuple => k_is)
    (case z_list => k_is)
    (case z_repr => k_is)
    (case z_range => k_is)
    (case z_abs => k_is)
    (case z_max => k_is)
    (case z_int => k_is)
    (case z_divmod => k_is)
    (case z_bool => k_is)
    (case m_gcd => k_is)
    (case m_lcm => k_is)
    (case m_MOST_POINTS => k_is)
    (case m_MOST_BARS => k_is)
    (case m_MOST_SIZE => k_is)
    (case m_MOST_PAIRS => k_is)
    (case m_PART => k_is)
    (case kit_rI => kit_is)
    (case kit_rB => kit_is)
    (case kit_rR => kit_is)
    (case kit_iR => kit_is)
    (case kit_fF => kit_is)
    (case kit_pP => kit_is)
    (case kit_iK => kit_is)
    (case kit_v0 => kit_is)
    (case kit_v1 => kit_is)
    (case kit_v2 => kit_is)
    (case kit_v3 => kit_is)
    (case kit_v4 => kit_is)
    (case kit_v5 => kit_is)
    (case nof_n0 => k_is)
    (case nof_n1 => k_is)
    (case nof_n2 => k_is)
    (case nof_n3 => k_is)
    (case nof_n4 => k_is)
    (case nof_n5 => k_is)

