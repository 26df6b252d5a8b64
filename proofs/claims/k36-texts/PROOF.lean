import PyProof.Rows.All
import Wide.All
import OpenK.AllK
import Wide.FinOn
import HandS.ForMost
import HandS.ForExc
import HandS.Lambda
import KE.KNestM
import HandS.SuiteRaise
import HandS.RaiseFrom
import HandS.ExcInitHot
import HandS.Wide
import HandS.IsInst
import HandS.More
import HandS.TupAny
import KE.DataMinMax
import HandS.SortKw
import HandS.Text
import KE.DataFind
import HandS.ExcIs
import HandS.ExcField
import HandS.ExcOwn
import HandS.ExcInit
import KE.KExcSuper
import HandS.ExcSuper
import KE.KSuper
import HandS.Walk
import HandS.Style
import HandS.SetFor
import HandS.Defaults
import HandS.MakeKwOnly
import HandS.CallSlots
import HandS.OwnIter
import HandS.IterVal
import HandS.Conv
import HandS.Deep
import HandS.Small
import HandS.Iter
import HandS.DictComp
import KE.KDictList
import HandS.SlotsOwn
import PyProof.ExcBaseAll.ValueError
import HandS.Finally
import KE.GoesMore
import PyProof.Draws
import HandS.SortInts
import HandS.ListItems
import HandS.Flow
import HandS.StrMore
import OpenK.KMeth
import HandS.EndTab
import PyProof.WalkInts
import HandS.ReplaceLit
import HandS.ReplaceList
import HandS.Codes
import PySem.Challenge.RW_dyevats_k36_texts_of_orders
set_option Elab.async false
set_option linter.all false
set_option maxRecDepth 100000
set_option maxHeartbeats 8000000
namespace VL
open PySem PySem.Spec PyProof.Rows L2
def badE (c : String) : Bool := c == "BadDeed" || c == "BadLine"
def BadC (mg : Str → Option Value) (c : Value) : Prop := ∃ n, badE n = true ∧ mg (Str.ofString n) = some c
def onBad (mg : Str → Option Value) (W : WX) : WX := fun cls d σ H => BadC mg cls ∧ W cls d σ H
structure Takes (X : Cx) (W : WX) : Prop where
  n : L2N.Takes X W
  b : L2.Takes X (onBad X.mg W)
def CXv (mg : Str → Option Value) (P : Program) (w : World) : CXT := fun outer H s E u s' => L2N.CX P w outer H s E u s' ∨ L2.CX P w outer H s (fun c d H => BadC mg c ∧ E c d H) u s'
theorem sky_zc {B h : Heap} {l : List Env} {a L : Addr} {cls : Value} {d : Option Addr} (x : Sky B l a (L2N.Zn cls d) L h) : Sky B l a (Zc cls d) L h := by
  rcases x with ⟨k1, k2, k3, ob, vs, k4, z, k5⟩ | f | ⟨k1, k2, k3, t⟩
  · exact .inl ⟨k1, k2, k3, ob, vs, k4, z.zc, k5⟩
  · exact .inr (.inl (L2H.flyingZ_imp (fun _ z => z.zc) f))
  · exact .inr (.inr ⟨k1, k2, k3, L2H.tracedZ_imp (fun _ z => z.zc) t⟩)
section
variable {X : Cx} {W W' : WX} {u : Value} {s' : Shared} {E : XK}
theorem xe_zc : L2N.XE X W u s' → L2.XE X W u s' := fun ⟨a, B, sI, pins, σ, H, cls, d, k1, k2, k3, k4, sky, r⟩ => ⟨a, B, sI, pins, σ, H, cls, d, k1, k2, k3, k4, sky_zc sky, r⟩
theorem Takes.of (t : L2.Takes X W) : Takes X W := ⟨fun u s' x => t u s' (xe_zc x), t.imp fun _ _ _ _ h => h.2⟩
theorem Takes.imp (t : Takes X W) (h : ∀ c d σ H, W' c d σ H → W c d σ H) : Takes X W' := ⟨t.n.imp h, t.b.imp fun c d σ H z => ⟨z.1, h c d σ H z.2⟩⟩
theorem passAt (tk : Takes X W) (σ : L2.St) : PassesAt (CXv X.mg X.prog X.w) X σ (WE W σ) := fun pins H s e s' I c => c.elim (fun c => L2N.passAt tk.n σ pins H s e s' I c) fun c => L2.passAt (W := onBad X.mg W) tk.b σ pins H s e s' I c
theorem takes_of (hs : X.stack = X.env :: X.outer) (hf : X.env.frame = some X.env.locals) (hex : X.ex = []) {E₁ : Value → Shared → Prop}
    (hx : X.xe = fun e s' => wpAny (model X.prog X.w) X.A (leaving X.env e) (fun _ s'' => CXv X.mg X.prog X.w X.outer X.H_0 X.s_0 E e s'') E₁ s') : Takes X (fun cls d _ H => E cls d H) :=
  ⟨fun u s' x => by
    rw [hx]
    exact wpAny_mono (L2N.XE.leave (E := E) (E₁ := E₁) hs hf hex (fun _ _ _ _ h => h) x) (fun _ _ c => .inl c) fun _ _ h => h,
  fun u s' x => by
    rw [hx]
    exact wpAny_mono (L2.XE.leave (E := fun c d H => BadC X.mg c ∧ E c d H) (E₁ := E₁) hs hf hex (fun _ _ _ _ h => h) x) (fun _ _ c => .inr c) fun _ _ h => h⟩
theorem cxv_false {mg : Str → Option Value} {P : Program} {w : World} {outer : List Env} {H : Hp} {s : Shared} {e : Value} {s' : Shared} (h : CXv mg P w outer H s (fun _ _ _ => False) e s') : False := by
  rcases h with ⟨_, _, _, _, _, _, _, _, _, _, _, _, z⟩ | ⟨_, _, _, _, _, _, _, _, _, _, _, _, z⟩
  · exact z
  · exact z.2
theorem pmk_oexN {CX : CXT} {x : Str} {e : Expr} {es : List Expr} {ta : TA} {p pos : Pos} {C fI : Addr} {k : Nat} {fd : FuncData} {ps : List Str} {sp : Sp} {ds : List Value} {dvs : List V} (T : OexC X.K C) (iC : PySem.W.findIn X.K (.ref C) "__init__" = some (some (.ref fI))) (tI : PySem.W.typeIn X.K (.ref fI) = some (.type "function"))
    (F1 : FnOk X.prog X.w X.K X.mg X.base CX k fI fd ps sp) (hr : Room (k + 1) X.A) (hb : Binds X.K fd ps ds) (hd : Vals dvs ds) (hx : Passes CX X (fun _ _ _ => False)) (hg : Gl X x) (hm : X.mg x = some (.ref C)) (ha : PA X (e :: es) ta)
    (hdb : (x == ("__debug__" : Str)) = false := by decide) (hs : starEach (e :: es) X.env = (false, eval e X.env) :: starEach es X.env := by rfl) (hpl : (backTo pos (starEach es X.env)).any (·.1) = false := by rfl) : L2N.PMk X (.Call (.Name x p) (e :: es) [] pos) (tMkO C sp dvs ta) := fun pins s σ H Q I h => by
  obtain ⟨nC, qC, NC, bC, mC, snC, subC, abC, colC, ddC, c0, c1, c2, c3, c5, objC, refC⟩ := T.cls
  refine wpAny_Call_Name_kw (ld_glob I hg hm (PySem.W.callWith_K (h₀ := X.base) I.ok.mod.kin T.kC (thn (ha.run pos pins s σ H _ I h) fun us t ⟨vs, G, J, rv, _, q⟩ => ⟨J.kIn, ?_⟩) hs hpl) hdb)
  show wpAny _ _ (call (.ref C) us) _ _ _
  obtain ⟨g0, gens, dw, tt, oo⟩ := t
  obtain ⟨at_, eat⟩ : ∃ a : Addr, a = g0.objs.size + 1 := ⟨_, rfl⟩
  have le1 : g0.objs.size ≤ g0.objs.size + 1 := by omega
  have free1 : G (g0.objs.size + 1) = none := J.hok.fresh le1
  have keep2 : ∀ b o, g0.get? b = some o → ((g0.push (PySem.W.kdv_tup us)).push (PySem.HandSPX.excO C g0.objs.size)).get? b = some o := fun b o z => Heap.get?_push_of_some _ (Heap.get?_push_of_some _ z)
  have got : ((g0.push (PySem.W.kdv_tup us)).push (PySem.HandSPX.excO C g0.objs.size)).get? (g0.objs.size + 1) = some (PySem.HandSPX.excO C g0.objs.size) := by heap_get
  have J2 : Inv X pins σ (upd G (g0.objs.size + 1) (exo (g0.objs.size + 1) C none)) ⟨(g0.push (PySem.W.kdv_tup us)).push (PySem.HandSPX.excO C g0.objs.size), gens, dw, tt, oo⟩ :=
    J.laid (t' := tt) (a := g0.objs.size + 1) (o := exo (g0.objs.size + 1) C none) (h' := (g0.push (PySem.W.kdv_tup us)).push (PySem.HandSPX.excO C g0.objs.size)) keep2 le1 (exo_ok got)
  have rv2 : Vals (V.ref (g0.objs.size + 1) :: (vs ++ dvs)) (Value.ref (g0.objs.size + 1) :: (us ++ ds)) := .cons rfl (rv.append hd)
  have q1 := q (g0.objs.size + 1) free1
  have len2 : (Value.ref (g0.objs.size + 1) :: us ++ ds).length = ps.length := by
    rw [← F1.len _ _ _ _ q1]
    exact rv2.length.symm
  have few : us.length ≤ sizeLine := by
    have z := Paired.length rv
    rw [sizeLine_eq]
    omega
  have isb := fun Y => PySem.HandSPX.refsVE_contains Y mC refC
  have run := F1.run _ X.stack _ _ ⟨Value.ref (g0.objs.size + 1) :: us, []⟩ (Value.ref (g0.objs.size + 1) :: (us ++ ds)) _ _ (fun _ _ _ => False) (hr.make C us []) (J2.env0.make C us []) (hb _ (Value.ref (g0.objs.size + 1) :: us) J2.kIn len2) rv2 q1
  refine wpAny_call (PySem.HandSPX.call_own F.excBase_ValueError isb (J.kIn _ _ objC) (PySem.W.looks_findIn J.kIn iC) (fun self => PySem.W.bind_fn J.kIn self tI) few (codeAny_mono run fun r s' qq => ?_))
  cases r with
  | error er => exact hx pins σ _ _ er s' J2 qq
  | ok fl =>
    cases fl with
    | ret u =>
      obtain ⟨v, G2, o2, b2, un2, ok2, rr, rfl, d, fs, ea, ed, nd, q2⟩ := qq
      obtain ⟨h2, gn2, d2, t2, os'⟩ := s'
      obtain ⟨t0, G3, J3, k3, e3, he3, na⟩ := mk_end0 (d2 := d2) (t2 := t2) J le1 keep2 un2 ok2 o2 b2 ea ed nd
      exact ⟨rr, g0.objs.size + 1, _, _, ⟨G3, gn2, d2, t2, os'⟩, _, .ref C, some d, rfl, J3, k3, e3, he3, ⟨rfl, rfl, fun vs hv => by cases hv; rfl⟩, rfl, rfl, na, rfl, b2, raises_own T.exC T.tyC, q2⟩
    | next => exact qq.elim
    | brk => exact qq.elim
    | cont => exact qq.elim
end
end VL
namespace VL
open PySem PySem.Spec PyProof.Rows L2
def mkrN : Str := "stretch_of"
def lamN : Str := mkrN ++ ".<locals>." ++ "<lambda>"
def TabL (H : Hp) (ps : Array Value) (q : Str) : Prop := q = lamN ∧ TriplesOk ps.toList ∧ ∀ (pos : Pos) (cv : Value), codeAmong pos ps.toList = some cv → ∃ c, cv = .ref c ∧ H c = some (LamX.CodeO c q)
def TabAt (H : Hp) (P : Addr) (q : Str) : Prop := ∃ ps, H P = some (.tbl ps) ∧ TabL H ps q
def nTb : HO → Prop
  | .tbl _ => False
  | _ => True
def Kp (H H' : Hp) (b : Addr) : HO → Prop
  | .tbl ps => ∃ ps', H' b = some (.tbl ps') ∧ ∀ q, TabL H ps q → TabL H' ps' q
  | o => H' b = some o
def Same (H H' : Hp) : Prop := ∀ b o, H b = some o → Kp H H' b o
section
variable {H H1 H2 H' : Hp}
theorem Kp.nt {b : Addr} {o : HO} (n : nTb o) (h : Kp H H' b o) : H' b = some o := by
  cases o <;> first | exact h | exact n.elim
theorem Kp.of {b : Addr} {o : HO} (n : nTb o) (h : H' b = some o) : Kp H H' b o := by
  cases o <;> first | exact h | exact n.elim
theorem TabL.to {ps : Array Value} {q : Str} (h : TabL H ps q) (k : ∀ c, H c = some (LamX.CodeO c q) → H' c = some (LamX.CodeO c q)) : TabL H' ps q := ⟨h.1, h.2.1, fun pos cv e => let ⟨c, e1, e2⟩ := h.2.2 pos cv e; ⟨c, e1, k c e2⟩⟩
theorem Kp.all {b : Addr} {o : HO} (k : ∀ c q, H c = some (LamX.CodeO c q) → H' c = some (LamX.CodeO c q)) (h : H' b = some o) : Kp H H' b o := by
  cases o <;> first | exact h | exact ⟨_, h, fun q t => t.to fun c => k c q⟩
theorem Same.of (k : ∀ b o, H b = some o → H' b = some o) : Same H H' := fun b o e => Kp.all (fun c q => k c _) (k b o e)
theorem Same.refl (H : Hp) : Same H H := Same.of fun _ _ e => e
theorem Same.nt (s : Same H H') {b : Addr} {o : HO} (n : nTb o) (e : H b = some o) : H' b = some o := (s b o e).nt n
theorem Kp.trans {b : Addr} {o : HO} (h : Kp H H1 b o) (s : Same H1 H2) : Kp H H2 b o := by
  cases o
  case tbl ps =>
    obtain ⟨p1, e1, t1⟩ := h
    obtain ⟨p2, e2, t2⟩ := s b _ e1
    exact ⟨p2, e2, fun q t => t2 q (t1 q t)⟩
  all_goals exact s b _ h
theorem Same.trans (s : Same H H1) (s' : Same H1 H2) : Same H H2 := fun b o e => (s b o e).trans s'
theorem Kp.ne {b : Addr} {o : HO} (h : Kp H H' b o) : H' b ≠ none := by
  cases o
  case tbl ps =>
    obtain ⟨p1, e1, _⟩ := h
    rw [e1]; exact fun z => nomatch z
  all_goals exact fun z => by rw [show H' b = _ from h] at z; cases z
theorem Kp.ex {b : Addr} {o : HO} (h : Kp H H' b o) : ∃ u, H' b = some u := Option.ne_none_iff_exists'.mp h.ne
theorem Same.free (s : Same H H') {l : Addr} (h : H' l = none) : H l = none := by
  cases e : H l with
  | none => rfl
  | some o => exact absurd h (s l o e).ne
theorem Same.tab (s : Same H H') {P : Addr} {q : Str} (h : TabAt H P q) : TabAt H' P q := by
  obtain ⟨ps, e, t⟩ := h
  obtain ⟨p1, e1, t1⟩ := s P _ e
  exact ⟨p1, e1, t1 q t⟩
theorem Same.seq {K : PySem.W.Frag} {a : Addr} {xs : List V} (e : Same H H') (h : SqL K H a xs) : SqL K H' a xs := by
  rcases h with (h | ⟨o, h⟩) | h
  · exact .inl (.inl (e.nt True.intro h))
  · exact .inl (.inr ⟨o, e.nt True.intro h⟩)
  · exact .inr h
end
inductive D where
  | non | bl (b : Bool) | int (i : Int) | str (x : Str)
  | lst (xs : List D) | tup (xs : List D)
  | dct (ks : List Key) (xs : List D) | dcT (ks : List (List Key)) (xs : List D)
  | obj (C : String) (fs : List String) (xs : List D)
  /-- the script: a list that is locked from the outside -/
  | scr (xs : List D)
  /-- the empty tuple of the written part (a default) -/
  | kt
  /-- anything; nothing is said of it -/
  | opq
inductive Kd where
  | fz | bo | tb
  deriving DecidableEq
inductive O where
  | lf (k : Kd) (d : D)
  | lst (xs : List O) | tup (xs : List O)
  | dct (ks : List Key) (xs : List O) | dcT (ks : List (List Key)) (xs : List O)
  | obj (C : String) (fs : List String) (xs : List O)
  /-- the error that an except suite holds -/
  | xn (C : String) (fs : List String) (ds : List D)
  /-- the same, what it holds is owned -/
  | xo (C : String) (fs : List String) (xs : List O)
structure Cb where
  at_ : String → Option Addr
  kl : Addr → List V → Prop
  kt : Addr → Prop
  /-- the tables of code objects that the program's lambdas use -/
  tb : Addr → Str → Prop
structure Cl where
  b : Cb
  ex : Addr → Addr → Option Addr → Prop
structure Wd where
  cl : Cl
  Z : Addr → Prop
  B : Addr → Prop
  T : Addr → Prop
def Wd.S (w : Wd) : Kd → Addr → Prop
  | .fz => w.Z
  | .bo => w.B
  | .tb => w.T
section
variable (cl : Cl) (H : Hp) (S : Addr → Prop)
mutual
def Rep : D → V → Prop
  | .non, v => v = .non
  | .bl b, v => v = .bl b
  | .int i, v => v = .int i
  | .str x, v => v = .str x
  | .lst xs, v => ∃ a vs, v = .ref a ∧ S a ∧ H a = some (.lst vs) ∧ Reps xs vs
  | .scr xs, v => ∃ a vs, v = .ref a ∧ ((S a ∧ Rd H a (.lst vs)) ∨ cl.b.kl a vs) ∧ Reps xs vs
  | .tup xs, v => ∃ a vs, v = .ref a ∧ H a = some (.tup vs) ∧ Reps xs vs
  | .dct ks xs, v => ∃ a kvs, v = .ref a ∧ S a ∧ Rd H a (.dK kvs) ∧ kvs.map (·.1) = ks ∧ Reps xs (kvs.map (·.2))
  | .dcT ks xs, v => ∃ a kvs, v = .ref a ∧ S a ∧ Rd H a (.dT kvs) ∧ kvs.map (·.1) = ks ∧ Reps xs (kvs.map (·.2))
  | .obj C fs xs, v => ∃ a Ca dx kvs, v = .ref a ∧ S a ∧ cl.b.at_ C = some Ca ∧ H a = some (.ins Ca dx kvs) ∧ kvs.map (·.1) = fs.map Str.ofString ∧ Reps xs (kvs.map (·.2))
  | .kt, v => ∃ a, v = .ref a ∧ cl.b.kt a
  | .opq, _ => True
def Reps : List D → List V → Prop
  | [], vs => vs = []
  | d :: ds, vs => ∃ v r, vs = v :: r ∧ Rep d v ∧ Reps ds r
end
end
mutual
/-- data all of tuples and atoms: nobody can write them -/
def D.imm : D → Bool
  | .non => true | .bl _ => true | .int _ => true | .str _ => true
  | .tup xs => D.imms xs
  | _ => false
def D.imms : List D → Bool
  | [] => true
  | d :: ds => d.imm && D.imms ds
end
section
variable (w : Wd) (H : Hp)
def RepXn (C : String) (fs : List String) (ds : List D) (v : V) : Prop := ∃ a Ca d, v = .ref a ∧ w.cl.ex a Ca d ∧ w.cl.b.at_ C = some Ca ∧ ((fs = [] ∧ ds = [] ∧ d = none) ∨ (∃ dd kvs, d = some dd ∧ w.Z dd ∧ H dd = some (.xd kvs) ∧ kvs.map (·.1) = fs.map Str.ofString ∧ Reps w.cl H w.Z ds (kvs.map (·.2))) ∨ (fs = [] ∧ ds = [] ∧ ∃ dd kvs, d = some dd ∧ w.T dd ∧ H dd = some (.xd kvs)))
def Disj (F G : Addr → Prop) : Prop := ∀ a, F a → ¬ G a
def Sub (F G : Addr → Prop) : Prop := ∀ a, F a → G a
mutual
def RepO : O → V → (Addr → Prop) → Prop
  | .lf k d, v, _ => Rep w.cl H (w.S k) d v
  | .lst xs, v, F => ∃ a vs G, v = .ref a ∧ H a = some (.lst vs) ∧ F a ∧ ¬ G a ∧ Sub G F ∧ RepOs xs vs G
  | .tup xs, v, F => ∃ a vs, v = .ref a ∧ H a = some (.tup vs) ∧ RepOs xs vs F
  | .dct ks xs, v, F => ∃ a kvs G, v = .ref a ∧ H a = some (.dK kvs) ∧ kvs.map (·.1) = ks ∧ F a ∧ ¬ G a ∧ Sub G F ∧ RepOs xs (kvs.map (·.2)) G
  | .dcT ks xs, v, F => ∃ a kvs G, v = .ref a ∧ H a = some (.dT kvs) ∧ kvs.map (·.1) = ks ∧ F a ∧ ¬ G a ∧ Sub G F ∧ RepOs xs (kvs.map (·.2)) G
  | .obj C fs xs, v, F => ∃ a Ca dx kvs G, v = .ref a ∧ w.cl.b.at_ C = some Ca ∧ H a = some (.ins Ca dx kvs) ∧ kvs.map (·.1) = fs.map Str.ofString ∧ F a ∧ ¬ G a ∧ Sub G F ∧ RepOs xs (kvs.map (·.2)) G
  | .xn C fs ds, v, _ => RepXn w H C fs ds v
  | .xo C fs xs, v, F => ∃ a Ca dd kvs G, v = .ref a ∧ w.cl.ex a Ca (some dd) ∧ w.cl.b.at_ C = some Ca ∧ H dd = some (.xd kvs) ∧ kvs.map (·.1) = fs.map Str.ofString ∧ F dd ∧ ¬ G dd ∧ Sub G F ∧ RepOs xs (kvs.map (·.2)) G
def RepOs : List O → List V → (Addr → Prop) → Prop
  | [], vs, _ => vs = []
  | o :: os, vs, F => ∃ v r F1 F2, vs = v :: r ∧ Sub F1 F ∧ Sub F2 F ∧ Disj F1 F2 ∧ RepO o v F1 ∧ RepOs os r F2
end
end
mutual
/-- the data, without who owns it -/
def O.er : O → D
  | .lf _ d => d
  | .lst xs => .lst (O.ers xs)
  | .tup xs => .tup (O.ers xs)
  | .dct ks xs => .dct ks (O.ers xs)
  | .dcT ks xs => .dcT ks (O.ers xs)
  | .obj C fs xs => .obj C fs (O.ers xs)
  | .xn _ _ _ => .opq
  | .xo _ _ _ => .opq
def O.ers : List O → List D
  | [] => []
  | o :: os => o.er :: O.ers os
end
mutual
/-- no leaf of the kinds that p names -/
def O.no (p : Kd → Bool) : O → Bool
  | .lf k _ => !p k
  | .lst xs => O.nos p xs
  | .tup xs => O.nos p xs
  | .dct _ xs => O.nos p xs
  | .dcT _ xs => O.nos p xs
  | .obj _ _ xs => O.nos p xs
  | .xn _ _ _ => !p .tb && !p .fz
  | .xo _ _ xs => !p .tb && !p .fz && O.nos p xs
def O.nos (p : Kd → Bool) : List O → Bool
  | [] => true
  | o :: os => o.no p && O.nos p os
end
def lfk (k : Kd) (d : D) : O := if d.imm then .lf .fz d else .lf k d
theorem O.ers_eq (xs : List O) : O.ers xs = xs.map O.er := by
  induction xs with
  | nil => rfl
  | cons x r ih => rw [O.ers, ih]; rfl
theorem O.nos_eq (p : Kd → Bool) (xs : List O) : O.nos p xs = xs.all (O.no p) := by
  induction xs with
  | nil => rfl
  | cons x r ih => rw [O.nos, ih]; rfl
theorem D.imms_eq (xs : List D) : D.imms xs = xs.all D.imm := by
  induction xs with
  | nil => rfl
  | cons x r ih => rw [D.imms, ih]; rfl
section
variable {cl : Cl} {H H' : Hp} {S S' : Addr → Prop}
theorem Reps.length : ∀ {ds : List D} {vs : List V}, Reps cl H S ds vs → vs.length = ds.length
  | [], vs, h => by simp only [Reps] at h; subst h; rfl
  | d :: ds, vs, h => by
    simp only [Reps] at h
    obtain ⟨v, r, rfl, _, h2⟩ := h
    simp [Reps.length h2]
def KeepS (H H' : Hp) (S S' : Addr → Prop) : Prop := (∀ a u, S a → Rd H a u → nTb u → S' a ∧ Rd H' a u) ∧ (∀ a C dx fs, S a → H a = some (.ins C dx fs) → H' a = some (.ins C dx fs)) ∧ (∀ a xs, H a = some (.tup xs) → H' a = some (.tup xs)) ∧ (∀ a xs, S a → H a = some (.lst xs) → H' a = some (.lst xs)) ∧ ∀ a xs, S a → H a = some (.xd xs) → H' a = some (.xd xs)
mutual
theorem Rep.keep (k : KeepS H H' S S') : ∀ {d : D} {v : V}, Rep cl H S d v → Rep cl H' S' d v
  | .non, v, h => h
  | .bl _, v, h => h
  | .int _, v, h => h
  | .str _, v, h => h
  | .lst xs, v, h => by
    simp only [Rep] at h ⊢
    obtain ⟨a, vs, e, s, r, q⟩ := h
    exact ⟨a, vs, e, (k.1 a _ s (.inl r) True.intro).1, k.2.2.2.1 a _ s r, Reps.keep k q⟩
  | .scr xs, v, h => by
    simp only [Rep] at h ⊢
    obtain ⟨a, vs, e, r, q⟩ := h
    exact ⟨a, vs, e, r.imp (fun z => k.1 a _ z.1 z.2 True.intro) id, Reps.keep k q⟩
  | .tup xs, v, h => by
    simp only [Rep] at h ⊢
    obtain ⟨a, vs, e, r, q⟩ := h
    exact ⟨a, vs, e, k.2.2.1 a _ r, Reps.keep k q⟩
  | .dct ks xs, v, h => by
    simp only [Rep] at h ⊢
    obtain ⟨a, vs, e, s, r, z, q⟩ := h
    exact ⟨a, vs, e, (k.1 a _ s r True.intro).1, (k.1 a _ s r True.intro).2, z, Reps.keep k q⟩
  | .dcT ks xs, v, h => by
    simp only [Rep] at h ⊢
    obtain ⟨a, vs, e, s, r, z, q⟩ := h
    exact ⟨a, vs, e, (k.1 a _ s r True.intro).1, (k.1 a _ s r True.intro).2, z, Reps.keep k q⟩
  | .obj C fs xs, v, h => by
    simp only [Rep] at h ⊢
    obtain ⟨a, Ca, dx, vs, e, s, c, r, z, q⟩ := h
    exact ⟨a, Ca, dx, vs, e, (k.1 a _ s (.inl r) True.intro).1, c, k.2.1 a _ _ _ s r, z, Reps.keep k q⟩
  | .kt, v, h => h
  | .opq, v, h => by simp only [Rep]
theorem Reps.keep (k : KeepS H H' S S') : ∀ {ds : List D} {vs : List V}, Reps cl H S ds vs → Reps cl H' S' ds vs
  | [], vs, h => h
  | d :: ds, vs, h => by
    simp only [Reps] at h ⊢
    obtain ⟨v, r, e, h1, h2⟩ := h
    exact ⟨v, r, e, Rep.keep k h1, Reps.keep k h2⟩
end
mutual
theorem Rep.imm (k : ∀ a xs, H a = some (.tup xs) → H' a = some (.tup xs)) : ∀ {d : D} {v : V}, d.imm = true → Rep cl H S d v → Rep cl H' S' d v
  | .non, v, _, h => h
  | .bl _, v, _, h => h
  | .int _, v, _, h => h
  | .str _, v, _, h => h
  | .lst xs, v, i, h => by simp [D.imm] at i
  | .scr xs, v, i, h => by simp [D.imm] at i
  | .tup xs, v, i, h => by
    simp only [Rep] at h ⊢
    obtain ⟨a, vs, e, r, q⟩ := h
    exact ⟨a, vs, e, k a _ r, Reps.imm k (by simpa [D.imm] using i) q⟩
  | .dct ks xs, v, i, h => by simp [D.imm] at i
  | .dcT ks xs, v, i, h => by simp [D.imm] at i
  | .obj C fs xs, v, i, h => by simp [D.imm] at i
  | .kt, v, i, h => by simp [D.imm] at i
  | .opq, v, i, h => by simp [D.imm] at i
theorem Reps.imm (k : ∀ a xs, H a = some (.tup xs) → H' a = some (.tup xs)) : ∀ {ds : List D} {vs : List V}, D.imms ds = true → Reps cl H S ds vs → Reps cl H' S' ds vs
  | [], vs, _, h => h
  | d :: ds, vs, i, h => by
    simp only [Reps] at h ⊢
    simp only [D.imms, Bool.and_eq_true] at i
    obtain ⟨v, r, e, h1, h2⟩ := h
    exact ⟨v, r, e, Rep.imm k i.1 h1, Reps.imm k i.2 h2⟩
end
end
section
variable {w w' : Wd} {H H' : Hp}
theorem Rd.same {H H' : Hp} {a : Addr} {u : HO} (s : Same H H') (n : nTb u) (r : Rd H a u) : Rd H' a u := r.elim (fun e => .inl (s.nt n e)) fun ⟨o, e⟩ => .inr ⟨o, s _ _ e⟩
theorem KeepS.same {S S' : Addr → Prop} (s : Same H H') (h : Sub S S') : KeepS H H' S S' := ⟨fun a u z r n => ⟨h a z, Rd.same s n r⟩, fun _ _ _ _ _ e => s _ _ e, fun _ _ e => s _ _ e, fun _ _ _ e => s _ _ e, fun _ _ _ e => s _ _ e⟩
theorem RepOs.length : ∀ {os : List O} {vs : List V} {F : Addr → Prop}, RepOs w H os vs F → vs.length = os.length
  | [], vs, F, h => by simp only [RepOs] at h; subst h; rfl
  | o :: os, vs, F, h => by
    simp only [RepOs] at h
    obtain ⟨v, r, F1, F2, rfl, _, _, _, _, h2⟩ := h
    simp [RepOs.length h2]
theorem RepXn.keep {C : String} {fs : List String} {ds : List D} {v : V} (hc : w'.cl = w.cl) (k : KeepS H H' w.Z w'.Z) (kt : KeepS H H' w.T w'.T) (h : RepXn w H C fs ds v) : RepXn w' H' C fs ds v := by
  obtain ⟨a, Ca, d, e, x, c, h⟩ := h
  refine ⟨a, Ca, d, e, by rw [hc]; exact x, by rw [hc]; exact c, ?_⟩
  rcases h with h | ⟨dd, kvs, e1, z, r, e2, q⟩ | ⟨e1, e2, dd, kvs, e3, z, r⟩
  · exact .inl h
  · exact .inr (.inl ⟨dd, kvs, e1, (k.1 dd _ z (.inl r) True.intro).1, k.2.2.2.2 dd _ z r, e2, by rw [hc]; exact Reps.keep k q⟩)
  · exact .inr (.inr ⟨e1, e2, dd, kvs, e3, (kt.1 dd _ z (.inl r) True.intro).1, kt.2.2.2.2 dd _ z r⟩)
mutual
/-- p: the kinds of leaves that occur not -/
theorem RepO.keep {p : Kd → Bool} (hc : w'.cl = w.cl) (k : ∀ x, p x = false → KeepS H H' (w.S x) (w'.S x)) (t : ∀ a xs, H a = some (.tup xs) → H' a = some (.tup xs)) :
    ∀ {o : O} {v : V} {F : Addr → Prop}, o.no p = true → (∀ a u, F a → H a = some u → nTb u → H' a = some u) → RepO w H o v F → RepO w' H' o v F
  | .lf x d, v, F, n, f, h => by
    simp only [RepO] at h ⊢
    rw [hc]
    exact Rep.keep (k x (by simpa [O.no] using n)) h
  | .lst xs, v, F, n, f, h => by
    simp only [RepO] at h ⊢
    obtain ⟨a, vs, G, e, r, fa, ga, sg, q⟩ := h
    exact ⟨a, vs, G, e, f a _ fa r True.intro, fa, ga, sg, RepOs.keep hc k t (by simpa [O.no] using n) (fun b u z => f b u (sg b z)) q⟩
  | .tup xs, v, F, n, f, h => by
    simp only [RepO] at h ⊢
    obtain ⟨a, vs, e, r, q⟩ := h
    exact ⟨a, vs, e, t a _ r, RepOs.keep hc k t (by simpa [O.no] using n) f q⟩
  | .dct ks xs, v, F, n, f, h => by
    simp only [RepO] at h ⊢
    obtain ⟨a, vs, G, e, r, z, fa, ga, sg, q⟩ := h
    exact ⟨a, vs, G, e, f a _ fa r True.intro, z, fa, ga, sg, RepOs.keep hc k t (by simpa [O.no] using n) (fun b u z => f b u (sg b z)) q⟩
  | .dcT ks xs, v, F, n, f, h => by
    simp only [RepO] at h ⊢
    obtain ⟨a, vs, G, e, r, z, fa, ga, sg, q⟩ := h
    exact ⟨a, vs, G, e, f a _ fa r True.intro, z, fa, ga, sg, RepOs.keep hc k t (by simpa [O.no] using n) (fun b u z => f b u (sg b z)) q⟩
  | .obj C fs xs, v, F, n, f, h => by
    simp only [RepO] at h ⊢
    obtain ⟨a, Ca, dx, vs, G, e, c, r, z, fa, ga, sg, q⟩ := h
    exact ⟨a, Ca, dx, vs, G, e, by rw [hc]; exact c, f a _ fa r True.intro, z, fa, ga, sg, RepOs.keep hc k t (by simpa [O.no] using n) (fun b u z => f b u (sg b z)) q⟩
  | .xn C fs ds, v, F, n, f, h => by
    simp only [RepO] at h ⊢
    simp only [O.no, Bool.and_eq_true, Bool.not_eq_true'] at n
    exact RepXn.keep hc (k .fz n.2) (k .tb n.1) h
  | .xo C fs xs, v, F, n, f, h => by
    simp only [RepO] at h ⊢
    simp only [O.no, Bool.and_eq_true] at n
    obtain ⟨a, Ca, dd, vs, G, e, x, c, r, z, fa, ga, sg, q⟩ := h
    exact ⟨a, Ca, dd, vs, G, e, by rw [hc]; exact x, by rw [hc]; exact c, f dd _ fa r True.intro, z, fa, ga, sg, RepOs.keep hc k t n.2 (fun b u z => f b u (sg b z)) q⟩
theorem RepOs.keep {p : Kd → Bool} (hc : w'.cl = w.cl) (k : ∀ x, p x = false → KeepS H H' (w.S x) (w'.S x)) (t : ∀ a xs, H a = some (.tup xs) → H' a = some (.tup xs)) :
    ∀ {os : List O} {vs : List V} {F : Addr → Prop}, O.nos p os = true → (∀ a u, F a → H a = some u → nTb u → H' a = some u) → RepOs w H os vs F → RepOs w' H' os vs F
  | [], vs, F, _, _, h => h
  | o :: os, vs, F, n, f, h => by
    simp only [RepOs] at h ⊢
    simp only [O.nos, Bool.and_eq_true] at n
    obtain ⟨v, r, F1, F2, e, s1, s2, d, h1, h2⟩ := h
    exact ⟨v, r, F1, F2, e, s1, s2, d, RepO.keep hc k t n.1 (fun a u z => f a u (s1 a z)) h1, RepOs.keep hc k t n.2 (fun a u z => f a u (s2 a z)) h2⟩
end
mutual
theorem RepO.mono : ∀ {o : O} {v : V} {F G : Addr → Prop}, Sub F G → RepO w H o v F → RepO w H o v G
  | .lf x d, v, F, G, s, h => h
  | .lst xs, v, F, G, s, h => by
    simp only [RepO] at h ⊢
    obtain ⟨a, vs, E, e, r, fa, ga, sg, q⟩ := h
    exact ⟨a, vs, E, e, r, s a fa, ga, fun b z => s b (sg b z), q⟩
  | .tup xs, v, F, G, s, h => by
    simp only [RepO] at h ⊢
    obtain ⟨a, vs, e, r, q⟩ := h
    exact ⟨a, vs, e, r, RepOs.mono s q⟩
  | .dct ks xs, v, F, G, s, h => by
    simp only [RepO] at h ⊢
    obtain ⟨a, vs, E, e, r, z, fa, ga, sg, q⟩ := h
    exact ⟨a, vs, E, e, r, z, s a fa, ga, fun b z => s b (sg b z), q⟩
  | .dcT ks xs, v, F, G, s, h => by
    simp only [RepO] at h ⊢
    obtain ⟨a, vs, E, e, r, z, fa, ga, sg, q⟩ := h
    exact ⟨a, vs, E, e, r, z, s a fa, ga, fun b z => s b (sg b z), q⟩
  | .obj C fs xs, v, F, G, s, h => by
    simp only [RepO] at h ⊢
    obtain ⟨a, Ca, dx, vs, E, e, c, r, z, fa, ga, sg, q⟩ := h
    exact ⟨a, Ca, dx, vs, E, e, c, r, z, s a fa, ga, fun b z => s b (sg b z), q⟩
  | .xn C fs ds, v, F, G, s, h => h
  | .xo C fs xs, v, F, G, s, h => by
    simp only [RepO] at h ⊢
    obtain ⟨a, Ca, dd, vs, E, e, x, c, r, z, fa, ga, sg, q⟩ := h
    exact ⟨a, Ca, dd, vs, E, e, x, c, r, z, s dd fa, ga, fun b z => s b (sg b z), q⟩
theorem RepOs.mono : ∀ {os : List O} {vs : List V} {F G : Addr → Prop}, Sub F G → RepOs w H os vs F → RepOs w H os vs G
  | [], vs, F, G, _, h => h
  | o :: os, vs, F, G, s, h => by
    simp only [RepOs] at h ⊢
    obtain ⟨v, r, F1, F2, e, s1, s2, d, h1, h2⟩ := h
    exact ⟨v, r, F1, F2, e, fun a z => s a (s1 a z), fun a z => s a (s2 a z), d, h1, h2⟩
end
mutual
/-- an owned tree as data: S holds what it owns and what its leaves hold -/
theorem RepO.toRep {S : Addr → Prop} {p : Kd → Bool} (k : ∀ x, p x = false → Sub (w.S x) S) : ∀ {o : O} {v : V} {F : Addr → Prop}, o.no p = true → Sub F S → RepO w H o v F → Rep w.cl H S o.er v
  | .lf x d, v, F, n, s, h => by
    simp only [RepO] at h
    exact Rep.keep (KeepS.same (Same.refl _) (k x (by simpa [O.no] using n))) h
  | .lst xs, v, F, n, s, h => by
    simp only [RepO] at h
    simp only [O.er, Rep]
    obtain ⟨a, vs, E, e, r, fa, ga, sg, q⟩ := h
    exact ⟨a, vs, e, s a fa, r, RepOs.toRep k (by simpa [O.no] using n) (fun b z => s b (sg b z)) q⟩
  | .tup xs, v, F, n, s, h => by
    simp only [RepO] at h
    simp only [O.er, Rep]
    obtain ⟨a, vs, e, r, q⟩ := h
    exact ⟨a, vs, e, r, RepOs.toRep k (by simpa [O.no] using n) s q⟩
  | .dct ks xs, v, F, n, s, h => by
    simp only [RepO] at h
    simp only [O.er, Rep]
    obtain ⟨a, vs, E, e, r, z, fa, ga, sg, q⟩ := h
    exact ⟨a, vs, e, s a fa, .inl r, z, RepOs.toRep k (by simpa [O.no] using n) (fun b z => s b (sg b z)) q⟩
  | .dcT ks xs, v, F, n, s, h => by
    simp only [RepO] at h
    simp only [O.er, Rep]
    obtain ⟨a, vs, E, e, r, z, fa, ga, sg, q⟩ := h
    exact ⟨a, vs, e, s a fa, .inl r, z, RepOs.toRep k (by simpa [O.no] using n) (fun b z => s b (sg b z)) q⟩
  | .obj C fs xs, v, F, n, s, h => by
    simp only [RepO] at h
    simp only [O.er, Rep]
    obtain ⟨a, Ca, dx, vs, E, e, c, r, z, fa, ga, sg, q⟩ := h
    exact ⟨a, Ca, dx, vs, e, s a fa, c, r, z, RepOs.toRep k (by simpa [O.no] using n) (fun b z => s b (sg b z)) q⟩
  | .xn C fs ds, v, F, n, s, h => by simp only [O.er, Rep]
  | .xo C fs ds, v, F, n, s, h => by simp only [O.er, Rep]
theorem RepOs.toRep {S : Addr → Prop} {p : Kd → Bool} (k : ∀ x, p x = false → Sub (w.S x) S) : ∀ {os : List O} {vs : List V} {F : Addr → Prop}, O.nos p os = true → Sub F S → RepOs w H os vs F → Reps w.cl H S (O.ers os) vs
  | [], vs, F, _, _, h => by simpa [RepOs, O.ers, Reps] using h
  | o :: os, vs, F, n, s, h => by
    simp only [RepOs] at h
    simp only [O.ers, Reps]
    simp only [O.nos, Bool.and_eq_true] at n
    obtain ⟨v, r, F1, F2, e, s1, s2, d, h1, h2⟩ := h
    exact ⟨v, r, e, RepO.toRep k n.1 (fun a z => s a (s1 a z)) h1, RepOs.toRep k n.2 (fun a z => s a (s2 a z)) h2⟩
end
theorem O.no_none : ∀ (o : O), o.no (fun _ => false) = true := by
  intro o
  induction o using O.rec (motive_2 := fun os => O.nos (fun _ => false) os = true) with
  | lf k d => rfl
  | lst xs ih => simpa [O.no] using ih
  | tup xs ih => simpa [O.no] using ih
  | dct ks xs ih => simpa [O.no] using ih
  | dcT ks xs ih => simpa [O.no] using ih
  | obj C fs xs ih => simpa [O.no] using ih
  | xn C fs ds => rfl
  | xo C fs xs ih => simpa [O.no] using ih
  | nil => rfl
  | cons o os h1 h2 => simp [O.nos, h1, h2]
end
end VL
namespace VL
open PySem PySem.Spec PyProof.Rows L2
structure Exn where
  cls : String
  fs : List String
  xs : List O
inductive R (α : Type) where
  | ok (a : α) | ex (x : Exn) | no
def R.bind {α β : Type} (r : R α) (f : α → R β) : R β := match r with
  | .ok a => f a
  | .ex x => .ex x
  | .no => .no
abbrev DEnv := List (Option O)
def clM (mg : Str → Option Value) (C : String) : Option Addr := match mg (Str.ofString C) with
  | some (.ref a) => some a
  | _ => none
def KL (K : PySem.W.Frag) (a : Addr) (xs : List V) : Prop := ∃ (o : Obj) (its : Array Value) (n : Nat), K.lookup a = some o ∧ o.cls = .type "list" ∧ o.dict = none ∧ o.data = .seq its n ∧ its.size ≤ sizeLine ∧ Vals xs its.toList
def KT (K : PySem.W.Frag) (a : Addr) : Prop := ∃ (o : Obj) (n : Nat), K.lookup a = some o ∧ o.cls = .type "tuple" ∧ o.data = .seq #[] n
def KTb (K : PySem.W.Frag) (mg : Str → Option Value) (P : Addr) (q : Str) : Prop := q = lamN ∧ ∃ f o fd c, mg mkrN = some (.ref f) ∧ K.lookup f = some o ∧ o.data = .func fd ∧ fd.code = .ref c ∧ PySem.W.codeHdIn K c P = true
def CbOk (K : PySem.W.Frag) (mg : Str → Option Value) (b : Cb) : Prop := (b.at_ = clM mg ∧ (∀ a, b.kt a ↔ KT K a) ∧ ∀ P q, KTb K mg P q → b.tb P q) ∧ ∀ a xs, b.kl a xs → KL K a xs
def ClOk (X : Cx) (c : Cl) : Prop := CbOk X.K X.mg c.b ∧ ∀ a Ca d, c.ex a Ca d → X.calm = false ∧ ∃ oe pn, X.pn = (a, oe) :: pn ∧ Zc (.ref Ca) d oe ∧ ∃ vs, oe.data = .fields vs
section
variable (w : Wd) (H : Hp)
def RepX (x : Exn) (cls : Value) (d : Option Addr) (F : Addr → Prop) : Prop :=
  ∃ Ca, w.cl.b.at_ x.cls = some Ca ∧ cls = .ref Ca ∧ ((x.fs = [] ∧ x.xs = [] ∧ d = none) ∨ ∃ a kvs G, d = some a ∧ H a = some (.xd kvs) ∧ kvs.map (·.1) = x.fs.map Str.ofString ∧ F a ∧ ¬ G a ∧ Sub G F ∧ RepOs w H x.xs (kvs.map (·.2)) G)
end
def ntO : HO → Prop
  | .tup _ => False
  | .tbl _ => False
  | .ext _ => False
  | _ => True
def NT (o : Option HO) : Prop := ∃ u, o = some u ∧ ntO u
theorem ntO.nTb {u : HO} (n : ntO u) : nTb u := by
  cases u <;> first | exact True.intro | exact n
theorem NT.ne {o : Option HO} (h : NT o) : o ≠ none := fun e => by
  obtain ⟨u, e', _⟩ := h
  rw [e] at e'; cases e'
theorem NT.same {H H' : Hp} {a : Addr} (s : Same H H') (h : NT (H a)) : NT (H' a) := by
  obtain ⟨u, e, n⟩ := h
  exact ⟨u, s.nt n.nTb e, n⟩
theorem NT.ntup {o : Option HO} {xs : List V} (h : NT o) (e : o = some (.tup xs)) : False := by
  obtain ⟨u, e', n⟩ := h
  rw [e] at e'; cases e'; exact n
theorem NT.ntbl {o : Option HO} {xs : Array Value} (h : NT o) (e : o = some (.tbl xs)) : False := by
  obtain ⟨u, e', n⟩ := h
  rw [e] at e'; cases e'; exact n
theorem NT.next {o : Option HO} {x : Heap → Prop} (h : NT o) (e : o = some (.ext x)) : False := by
  obtain ⟨u, e', n⟩ := h
  rw [e] at e'; cases e'; exact n
theorem TabL.but {H H' : Hp} {x : Addr} {ps : Array Value} {q : Str} (h : TabL H ps q) (nx : NT (H x) ∨ H x = none) (k : ∀ b o, b ≠ x → H b = some o → H' b = some o) : TabL H' ps q := h.to fun c e => k c _ (fun z => by
  rw [z] at e
  exact nx.elim (fun n => n.next e) fun n => by rw [n] at e; cases e) e
theorem Kp.but {H0 H H' : Hp} {a x : Addr} {u : HO} (h : Kp H0 H a u) (nx : NT (H x) ∨ H x = none) (k : ∀ b o, b ≠ x → H b = some o → H' b = some o) (na : nTb u → a ≠ x) : Kp H0 H' a u := by
  cases u
  case tbl ps =>
    obtain ⟨ps', e, t⟩ := h
    exact ⟨ps', k a _ (fun z => by
      rw [z] at e
      exact nx.elim (fun n => n.ntbl e) fun n => by rw [n] at e; cases e) e, fun q z => (t q z).but nx k⟩
  all_goals exact k a _ (na True.intro) h
theorem TabL.butF {H H' : Hp} {F : Addr → Prop} {ps : Array Value} {q : Str} (h : TabL H ps q) (nx : ∀ b, F b → NT (H b)) (k : ∀ b o, H b = some o → ¬ F b → H' b = some o) : TabL H' ps q := h.to fun c e => k c _ e fun z => (nx c z).next e
theorem TabAt.butF {H H' : Hp} {F : Addr → Prop} {P : Addr} {q : Str} (h : TabAt H P q) (nx : ∀ b, F b → NT (H b)) (k : ∀ b o, H b = some o → ¬ F b → H' b = some o) : TabAt H' P q := by
  obtain ⟨ps, e, t⟩ := h
  exact ⟨ps, k P _ e fun z => (nx P z).ntbl e, t.butF nx k⟩
theorem Kp.butF {H0 H H' : Hp} {a : Addr} {u : HO} {F : Addr → Prop} (h : Kp H0 H a u) (nx : ∀ b, F b → NT (H b)) (k : ∀ b o, H b = some o → ¬ F b → H' b = some o) (na : nTb u → ¬ F a) : Kp H0 H' a u := by
  cases u
  case tbl ps =>
    obtain ⟨ps', e, t⟩ := h
    exact ⟨ps', k a _ e fun z => (nx a z).ntbl e, fun q z => (t q z).butF nx k⟩
  all_goals exact k a _ h (na True.intro)
theorem TabL.upd {H : Hp} {a : Addr} {u : HO} {ps : Array Value} {q : Str} (h : TabL H ps q) (n : NT (H a) ∨ H a = none) : TabL (upd H a u) ps q := h.but n fun b o n e => by rw [upd_ne n]; exact e
theorem TabAt.upd {H : Hp} {a : Addr} {u : HO} {P : Addr} {q : Str} (h : TabAt H P q) (n : NT (H a) ∨ H a = none) : TabAt (upd H a u) P q := by
  obtain ⟨ps, e, t⟩ := h
  refine ⟨ps, ?_, t.upd n⟩
  rw [upd_ne fun z => ?_]
  · exact e
  · rw [z] at e
    exact n.elim (fun n => n.ntbl e) fun n => by rw [n] at e; cases e
theorem Same.updN {H0 H : Hp} {x : Addr} {u : HO} (s : Same H0 H) (hx : H0 x = none) (nx : NT (H x) ∨ H x = none) : Same H0 (upd H x u) := fun b o e => (s b o e).but nx (fun c v n e => by rw [upd_ne n]; exact e) (fun _ z => by rw [z, hx] at e; cases e)
theorem Kp.thn {H0 H H' : Hp} {a : Addr} {u : HO} (h : Kp H0 H a u) (k : ∀ o, H a = some o → Kp H H' a o) : Kp H0 H' a u := by
  cases u
  case tbl ps =>
    obtain ⟨ps', e, t⟩ := h
    obtain ⟨ps2, e2, t2⟩ := k _ e
    exact ⟨ps2, e2, fun q z => t2 q (t q z)⟩
  all_goals exact k _ h
theorem NT.lst {o : Option HO} {xs : List V} (h : o = some (.lst xs)) : NT o := ⟨_, h, True.intro⟩
def Fresh (H0 H' : Hp) (F : Addr → Prop) : Prop := ∀ a, F a → H0 a = none ∧ NT (H' a)
def OutE {α : Type} (w : Wd) (W : WX) (σ : L2.St) (H0 H : Hp) (rep : Hp → α → V → (Addr → Prop) → Prop) (r : R α) (Q : VK) : Prop := match r with
  | .ok o => ∀ v H' F, Same H H' → rep H' o v F → Fresh H0 H' F → Q v H'
  | .ex x => ∀ cls d H' F, Same H H' → RepX w H' x cls d F → Fresh H0 H' F → W cls d σ H'
  | .no => False
def AlT (w : Wd) (H : Hp) : Prop := (∀ a, w.T a → H a ≠ none) ∧ ∀ P q, w.cl.b.tb P q → TabAt H P q
theorem AlT.same {w : Wd} {H H' : Hp} (s : Same H H') (h : AlT w H) : AlT w H' := ⟨fun a t z => h.1 a t (s.free z), fun P q t => s.tab (h.2 P q t)⟩
structure GoodE (w : Wd) (env : DEnv) (σ : L2.St) (H : Hp) : Prop where
  at_ : ∀ (i : Nat) (o : O), env[i]? = some (some o) → ∃ v, σ[i]? = some (some v) ∧ RepO w H o v (fun _ => False)
  zt : Sub w.Z w.T
  bt : Sub w.B w.T
  al : AlT w H
  len : σ.length = env.length
theorem RepO.same {w : Wd} {H H' : Hp} {o : O} {v : V} {F : Addr → Prop} (s : Same H H') (h : RepO w H o v F) : RepO w H' o v F :=
  RepO.keep (w' := w) (p := fun _ => false) rfl (fun x _ => KeepS.same s fun _ z => z) (fun _ _ e => s _ _ e) (O.no_none o) (fun _ _ _ e n => s.nt n e) h
theorem GoodE.same {w : Wd} {env : DEnv} {σ : L2.St} {H H' : Hp} (s : Same H H') (G : GoodE w env σ H) : GoodE w env σ H' :=
  ⟨fun i o e => let ⟨v, e1, r⟩ := G.at_ i o e; ⟨v, e1, RepO.same s r⟩, G.zt, G.bt, G.al.same s, G.len⟩
def rE (w : Wd) (W : WX) (m : DEnv → R O) : TE := fun σ H Q => ∃ env, GoodE w env σ H ∧ OutE w W σ H H (RepO w) (m env) Q
def rT (w : Wd) (W : WX) (m : DEnv → R Bool) : TT := fun σ H Q => ∃ env, GoodE w env σ H ∧ match m env with
  | .ok b => ∀ H', Same H H' → Q b H'
  | .ex x => ∀ cls d H' F, Same H H' → RepX w H' x cls d F → Fresh H H' F → W cls d σ H'
  | .no => False
def rA (w : Wd) (W : WX) (m : DEnv → R (List O)) : TA := fun σ H Q => ∃ env, GoodE w env σ H ∧ match m env with
  | .ok os => ∀ vs H' F, Same H H' → RepOs w H' os vs F → Fresh H H' F → Q vs H'
  | .ex x => ∀ cls d H' F, Same H H' → RepX w H' x cls d F → Fresh H H' F → W cls d σ H'
  | .no => False
theorem Fresh.base {H0 H1 H' : Hp} {F : Addr → Prop} (s : Same H0 H1) (f : Fresh H1 H' F) : Fresh H0 H' F := fun a z => ⟨s.free (f a z).1, (f a z).2⟩
theorem Fresh.up {H0 H1 H' : Hp} {F : Addr → Prop} (s : Same H1 H') (f : Fresh H0 H1 F) : Fresh H0 H' F := fun a z => ⟨(f a z).1, (f a z).2.same s⟩
theorem RepX.same {w : Wd} {H H' : Hp} {x : Exn} {cls : Value} {d : Option Addr} {F : Addr → Prop} (s : Same H H') (h : RepX w H x cls d F) : RepX w H' x cls d F := by
  obtain ⟨Ca, c, e, h⟩ := h
  refine ⟨Ca, c, e, ?_⟩
  rcases h with h | ⟨a, kvs, G, e1, e2, e3, f, g, sg, r⟩
  · exact .inl h
  · exact .inr ⟨a, kvs, G, e1, s _ _ e2, e3, f, g, sg, RepOs.keep (w' := w) (p := fun _ => false) rfl (fun x _ => KeepS.same s fun _ z => z) (fun _ _ e => s _ _ e) (by rw [O.nos_eq]; exact List.all_eq_true.mpr fun o _ => O.no_none o) (fun _ _ _ e n => s.nt n e) r⟩
theorem O.nos_none (os : List O) : O.nos (fun _ => false) os = true := by
  rw [O.nos_eq]; exact List.all_eq_true.mpr fun o _ => O.no_none o
theorem RepOs.same {w : Wd} {H H' : Hp} {o : List O} {v : List V} {F : Addr → Prop} (s : Same H H') (h : RepOs w H o v F) : RepOs w H' o v F :=
  RepOs.keep (w' := w) (p := fun _ => false) rfl (fun x _ => KeepS.same s fun _ z => z) (fun _ _ e => s _ _ e) (O.nos_none o) (fun _ _ _ e n => s.nt n e) h
theorem RepO.at {w : Wd} {H : Hp} {o : O} {v : V} {F : Addr → Prop} (h : RepO w H o v F) : Rep w.cl H (fun _ => True) o.er v :=
  RepO.toRep (p := fun _ => false) (fun _ _ _ _ => True.intro) (O.no_none o) (fun _ _ => True.intro) h
theorem RepOs.at {w : Wd} {H : Hp} {o : List O} {v : List V} {F : Addr → Prop} (h : RepOs w H o v F) : Reps w.cl H (fun _ => True) (O.ers o) v :=
  RepOs.toRep (p := fun _ => false) (fun _ _ _ _ => True.intro) (O.nos_none o) (fun _ _ => True.intro) h
def Out {α β : Type} (w : Wd) (W : WX) (σ : L2.St) (H0 H : Hp) (P : Hp → α → β → (Addr → Prop) → Prop) (r : R α) (Q : β → Hp → Prop) : Prop := match r with
  | .ok o => ∀ v H' F, Same H H' → P H' o v F → Fresh H0 H' F → Q v H'
  | .ex x => ∀ cls d H' F, Same H H' → RepX w H' x cls d F → Fresh H0 H' F → W cls d σ H'
  | .no => False
abbrev PB : Hp → Bool → Bool → (Addr → Prop) → Prop := fun _ b c _ => c = b
theorem Out.step {α β : Type} {w : Wd} {W : WX} {σ : L2.St} {H0 H H1 : Hp} {P : Hp → α → β → (Addr → Prop) → Prop} {r : R α} {Q : β → Hp → Prop} (s : Same H H1) (h : Out w W σ H0 H P r Q) : Out w W σ H0 H1 P r Q := by
  cases r with
  | ok o => exact fun v H' F s' => h v H' F (s.trans s')
  | ex x => exact fun cls d H' F s' => h cls d H' F (s.trans s')
  | no => exact h
theorem Out.bind {α β γ δ : Type} {w : Wd} {W : WX} {σ : L2.St} {H0 H : Hp} {P : Hp → α → β → (Addr → Prop) → Prop} {P' : Hp → γ → δ → (Addr → Prop) → Prop} {r : R α} {f : α → R γ} {Q : δ → Hp → Prop} {Q1 : β → Hp → Prop}
    (s0 : Same H0 H) (h : Out w W σ H0 H P' (r.bind f) Q) (k : ∀ o v H1 F1, r = .ok o → Same H H1 → P H1 o v F1 → Fresh H H1 F1 → Out w W σ H0 H1 P' (f o) Q → Q1 v H1) : Out w W σ H H P r Q1 := by
  cases r with
  | ok o => exact fun v H1 F1 s p fr => k o v H1 F1 rfl s p fr (Out.step s h)
  | ex x => exact fun cls d H' F s p fr => h cls d H' F s p (fr.base s0)
  | no => exact h
theorem rE_of {w : Wd} {W : WX} {m : DEnv → R O} {env : DEnv} {σ : L2.St} {H : Hp} {Q : VK} (G : GoodE w env σ H) (h : Out w W σ H H (RepO w) (m env) Q) : rE w W m σ H Q := by
  refine ⟨env, G, ?_⟩
  cases e : m env <;> rw [e] at h <;> exact h
theorem rE_to {w : Wd} {W : WX} {m : DEnv → R O} {σ : L2.St} {H : Hp} {Q : VK} (h : rE w W m σ H Q) : ∃ env, GoodE w env σ H ∧ Out w W σ H H (RepO w) (m env) Q := by
  obtain ⟨env, G, h⟩ := h
  refine ⟨env, G, ?_⟩
  cases e : m env <;> rw [e] at h <;> exact h
theorem rT_of {w : Wd} {W : WX} {m : DEnv → R Bool} {env : DEnv} {σ : L2.St} {H : Hp} {Q : Bool → Hp → Prop} (G : GoodE w env σ H) (h : Out w W σ H H PB (m env) Q) : rT w W m σ H Q := by
  refine ⟨env, G, ?_⟩
  cases e : m env with
  | ok b => rw [e] at h; exact fun H' s => h b H' (fun _ => False) s rfl fun _ z => z.elim
  | ex x => rw [e] at h; exact h
  | no => rw [e] at h; exact h
theorem rT_to {w : Wd} {W : WX} {m : DEnv → R Bool} {σ : L2.St} {H : Hp} {Q : Bool → Hp → Prop} (h : rT w W m σ H Q) : ∃ env, GoodE w env σ H ∧ Out w W σ H H PB (m env) Q := by
  obtain ⟨env, G, h⟩ := h
  refine ⟨env, G, ?_⟩
  cases e : m env with
  | ok b =>
    rw [e] at h
    intro c H' F s ec _
    rw [ec]
    exact h H' s
  | ex x => rw [e] at h; exact h
  | no => rw [e] at h; exact h
theorem rA_of {w : Wd} {W : WX} {m : DEnv → R (List O)} {env : DEnv} {σ : L2.St} {H : Hp} {Q : List V → Hp → Prop} (G : GoodE w env σ H) (h : Out w W σ H H (RepOs w) (m env) Q) : rA w W m σ H Q := by
  refine ⟨env, G, ?_⟩
  cases e : m env <;> rw [e] at h <;> exact h
theorem rA_to {w : Wd} {W : WX} {m : DEnv → R (List O)} {σ : L2.St} {H : Hp} {Q : List V → Hp → Prop} (h : rA w W m σ H Q) : ∃ env, GoodE w env σ H ∧ Out w W σ H H (RepOs w) (m env) Q := by
  obtain ⟨env, G, h⟩ := h
  refine ⟨env, G, ?_⟩
  cases e : m env <;> rw [e] at h <;> exact h
def VE (X : Cx) (e : Expr) (m : DEnv → R O) : Prop := ∀ (W : WX), Takes X W → ∀ w : Wd, ClOk X w.cl → PE X e (rE w W m)
def VT (X : Cx) (e : Expr) (m : DEnv → R Bool) : Prop := ∀ (W : WX), Takes X W → ∀ w : Wd, ClOk X w.cl → PT X e (rT w W m)
def VW (X : Cx) (e : Expr) (m : DEnv → R Bool) : Prop := ∀ (W : WX), Takes X W → ∀ w : Wd, ClOk X w.cl → PW X e (rT w W m)
def VA (X : Cx) (es : List Expr) (m : DEnv → R (List O)) : Prop := ∀ (W : WX), Takes X W → ∀ w : Wd, ClOk X w.cl → PA X es (rA w W m)
theorem _root_.L2.PE.imp {X : Cx} {e : Expr} {t t' : TE} (h : PE X e t) (k : ∀ σ H Q, t' σ H Q → t σ H Q) : PE X e t' := ⟨fun pins s σ H Q I q => h.run pins s σ H Q I (k σ H Q q)⟩
theorem _root_.L2.PT.imp {X : Cx} {e : Expr} {t t' : TT} (h : PT X e t) (k : ∀ σ H Q, t' σ H Q → t σ H Q) : PT X e t' := ⟨fun pins s σ H Q I q => h.run pins s σ H Q I (k σ H Q q)⟩
theorem _root_.L2.PW.imp {X : Cx} {e : Expr} {t t' : TT} (h : PW X e t) (k : ∀ σ H Q, t' σ H Q → t σ H Q) : PW X e t' := ⟨fun whole pins s σ H Q I q => h.run whole pins s σ H Q I (k σ H Q q)⟩
theorem _root_.L2.PA.imp {X : Cx} {es : List Expr} {t t' : TA} (h : PA X es t) (k : ∀ σ H Q, t' σ H Q → t σ H Q) : PA X es t' := ⟨fun pos pins s σ H Q I q => h.run pos pins s σ H Q I (k σ H Q q)⟩
theorem _root_.L2.PS.imp {X : Cx} {st : Stmt} {t t' : TS} (h : PS X st t) (k : ∀ D σ H, t' D σ H → t D σ H) : PS X st t' := ⟨fun pins s σ H D I q => h.run pins s σ H D I (k D σ H q)⟩
theorem _root_.L2.PSs.imp {X : Cx} {st : List Stmt} {t t' : TS} (h : PSs X st t) (k : ∀ D σ H, t' D σ H → t D σ H) : PSs X st t' := ⟨fun pins s σ H D I q => h.run pins s σ H D I (k D σ H q)⟩
section
variable {X : Cx} {a b : Expr} {ma mb : DEnv → R O} {pos : Pos}
def eVar (i : Nat) : DEnv → R O := fun env => match env[i]? with
  | some (some (.lf k d)) => .ok (lfk k d)
  | some (some (.xn C fs ds)) => .ok (.xn C fs ds)
  | _ => .no
def eC (d : D) : DEnv → R O := fun _ => .ok (.lf .fz d)
theorem lfk_rep {w : Wd} {H : Hp} {k : Kd} {d : D} {v : V} {F : Addr → Prop} (h : Rep w.cl H (w.S k) d v) : RepO w H (lfk k d) v F := by
  unfold lfk
  cases e : d.imm with
  | true =>
    rw [if_pos rfl]; simp only [RepO]; exact Rep.imm (fun _ _ q => q) e h
  | false =>
    rw [if_neg Bool.false_ne_true]; simpa only [RepO] using h
theorem lfk_er (k : Kd) (d : D) : (lfk k d).er = d := by
  unfold lfk; split <;> rfl
theorem ve_var (i : Nat) {x : Str} {pos : Pos} (hN : X.N[i]? = some x := by rfl) (hv : Vis X.env.scope x := by first | exact Or.inl rfl | exact Or.inr (Or.inl rfl) | exact Or.inr (Or.inr rfl)) (hd : (x == ("__debug__" : Str)) = false := by decide)
    (hcd : (x == ("__classdict__" : Str)) = false := by decide) : VE X (.Name x pos) (eVar i) := fun W tk w hc => (pe_var hN hv hd hcd).imp fun σ H Q h => by
  obtain ⟨env, G, h⟩ := rE_to h
  unfold eVar at h
  split at h
  · rename_i k d e
    obtain ⟨v, e1, r⟩ := G.at_ i _ e
    simp only [RepO] at r
    exact ⟨v, e1, h v H (fun _ => False) (Same.refl H) (lfk_rep r) fun _ z => z.elim⟩
  · rename_i C fs ds e
    obtain ⟨v, e1, r⟩ := G.at_ i _ e
    exact ⟨v, e1, h v H (fun _ => False) (Same.refl H) r fun _ z => z.elim⟩
  · exact h.elim
theorem ve_const {e : Expr} {d : D} {v : V} (hp : PE X e (tC v)) (hr : ∀ cl H S, Rep cl H S d v) : VE X e (eC d) := fun W tk w hc => hp.imp fun σ H Q h => by
  obtain ⟨env, G, h⟩ := rE_to h
  exact h v H (fun _ => False) (Same.refl H) (by simp only [RepO]; exact hr _ _ _) fun _ z => z.elim
theorem ve_int {i : Int} {j : Nat} {pos : Pos} : VE X (.Constant (.int i) j pos) (eC (.int i)) := ve_const pe_int fun _ _ _ => rfl
theorem ve_bl {i : Bool} {j : Nat} {pos : Pos} : VE X (.Constant (.bool i) j pos) (eC (.bl i)) := ve_const pe_bl fun _ _ _ => rfl
theorem ve_str {i : Str} {j : Nat} {pos : Pos} : VE X (.Constant (.str i) j pos) (eC (.str i)) := ve_const pe_str fun _ _ _ => rfl
theorem ve_non {j : Nat} {pos : Pos} : VE X (.Constant .none j pos) (eC .non) := ve_const pe_non fun _ _ _ => rfl
def e2 (g : O → O → R O) (ma mb : DEnv → R O) : DEnv → R O := fun env => (ma env).bind fun x => (mb env).bind fun y => g x y
def Op2 (X : Cx) (r : R2) (g : O → O → R O) : Prop := ∀ (w : Wd) (W : WX) (σ : L2.St) (H0 H : Hp) (o1 o2 : O) (x y : V) (F1 F2 : Addr → Prop) (Q : VK), ClOk X w.cl → Same H0 H → RepO w H o1 x F1 → RepO w H o2 y F2 → Disj F1 F2 → Fresh H0 H F1 → Fresh H0 H F2 →
  Out w W σ H0 H (RepO w) (g o1 o2) Q → r x y H Q
theorem seq2 {w : Wd} {W : WX} {σ : L2.St} {H : Hp} {env : DEnv} {r : R2} {g : O → O → R O} (hr : Op2 X r g) (hc : ClOk X w.cl) {Q : VK} (G : GoodE w env σ H) (h : Out w W σ H H (RepO w) (e2 g ma mb env) Q) :
    rE w W ma σ H fun x H1 => rE w W mb σ H1 fun y H2 => r x y H2 Q :=
  rE_of G (Out.bind (Same.refl H) h fun o1 x H1 F1 _ s1 p1 f1 h1 => rE_of (G.same s1) (Out.bind s1 h1 fun o2 y H2 F2 _ s2 p2 f2 h2 =>
    hr w W σ H H2 o1 o2 x y F1 F2 Q hc (s1.trans s2) (RepO.same s2 p1) p2 (fun a z z2 => (f1 a z).2.ne (f2 a z2).1) (f1.up s2) (f2.base s1) h2))
theorem ve_op {op : Operator} {r : R2} {g : O → O → R O} (ho : OpR X (binaryOp op) r) (hr : Op2 X r g) (ha : VE X a ma) (hb : VE X b mb) : VE X (.BinOp a op b pos) (e2 g ma mb) := fun W tk w hc =>
  (pe_op ho (ha W tk w hc) (hb W tk w hc)).imp fun σ H Q h => let ⟨env, G, h⟩ := rE_to h; seq2 hr hc G h
theorem ve_cmp {op : CmpOp} {r : R2} {g : O → O → R O} (ho : OpR X (compareOp op) r) (hr : Op2 X r g) (ha : VE X a ma) (hb : VE X b mb) (hm : behindInMarks op b = false) : VE X (.Compare a [op] [b] pos) (e2 g ma mb) := fun W tk w hc =>
  (pe_cmpR ho (ha W tk w hc) (hb W tk w hc) hm).imp fun σ H Q h => let ⟨env, G, h⟩ := rE_to h; seq2 hr hc G h
def asB (o : O) : R Bool := match o.er with
  | .bl b => .ok b
  | _ => .no
def tOfE (m : DEnv → R O) : DEnv → R Bool := fun env => (m env).bind asB
theorem vt_cmp {op : CmpOp} {r : R2} {g : O → O → R O} (ho : OpR X (compareOp op) r) (hr : Op2 X r g) (ha : VE X a ma) (hb : VE X b mb) (hm : behindInMarks op b = false) : VT X (.Compare a [op] [b] pos) (tOfE (e2 g ma mb)) := fun W tk w hc =>
  (pt_cmpR ho (ha W tk w hc) (hb W tk w hc) hm).imp fun σ H Q h => by
    obtain ⟨env, G, h⟩ := rT_to h
    refine seq2 (W := W) hr hc G ?_
    refine Out.bind (Same.refl H) h fun o v H1 F1 _ s1 p1 f1 h1 => ?_
    have z := RepO.at p1
    unfold asB at h1
    cases e : o.er with
    | bl b =>
      rw [e] at h1 z
      exact ⟨b, z, h1 b H1 (fun _ => False) (Same.refl H1) rfl fun _ z => z.elim⟩
    | _ => rw [e] at h1; exact h1.elim
def opI (f : Int → Int → D) (c : Int → Int → Bool) (x y : O) : R O := match x.er, y.er with
  | .int i, .int j => if c i j then .ok (.lf .fz (f i j)) else .no
  | _, _ => .no
theorem op2_I {r : R2} {f : Int → Int → D} {c : Int → Int → Bool} {fv : Int → Int → V} (hf : ∀ cl H S i j, Rep cl H S (f i j) (fv i j)) (hr : ∀ i j H Q, c i j = true → Q (fv i j) H → r (.int i) (.int j) H Q) : Op2 X r (opI f c) := by
  intro w W σ H0 H o1 o2 x y F1 F2 Q hc s p1 p2 dj f1 f2 h
  have z1 := RepO.at p1
  have z2 := RepO.at p2
  unfold opI at h
  split at h
  · rename_i i j e1 e2
    rw [e1] at z1
    rw [e2] at z2
    simp only [Rep] at z1 z2
    subst z1
    subst z2
    by_cases hcd : c i j = true
    · rw [if_pos hcd] at h
      exact hr i j H Q hcd (h _ H (fun _ => False) (Same.refl H) (by simp only [RepO]; exact hf _ _ _ i j) fun _ z => z.elim)
    · rw [if_neg hcd] at h
      exact h.elim
  · exact h.elim
def cT (_ _ : Int) : Bool := true
def gSub := opI (fun i j => .int (i - j)) cT
def gLt := opI (fun i j => .bl (decide (i < j))) cT
def gLe := opI (fun i j => .bl (decide (i ≤ j))) cT
def gGt := opI (fun i j => .bl (decide (j < i))) cT
def gGe := opI (fun i j => .bl (decide (j ≤ i))) cT
theorem o_lt : Op2 X (rI0 fun i j => .bl (decide (i < j))) gLt := op2_I (fun _ _ _ _ _ => rfl) fun i j H Q _ q => ⟨i, j, rfl, rfl, q⟩
theorem o_le : Op2 X (rI0 fun i j => .bl (decide (i ≤ j))) gLe := op2_I (fun _ _ _ _ _ => rfl) fun i j H Q _ q => ⟨i, j, rfl, rfl, q⟩
theorem o_gt : Op2 X (rI0 fun i j => .bl (decide (j < i))) gGt := op2_I (fun _ _ _ _ _ => rfl) fun i j H Q _ q => ⟨i, j, rfl, rfl, q⟩
theorem vt_lt (ha : VE X a ma) (hb : VE X b mb) : VT X (.Compare a [.Lt] [b] pos) (tOfE (e2 gLt ma mb)) := vt_cmp op_lt o_lt ha hb (nomark _)
end
end VL
namespace VL
open PySem PySem.Spec PyProof.Rows L2
def D.isL : D → Bool
  | .lst _ => true
  | _ => false
def D.isTp : D → Bool
  | .tup _ => true
  | _ => false
def elems : O → Option (List O)
  | .lf k (.lst ds) => some (ds.map (lfk k))
  | .lf k (.tup ds) => some (ds.map (lfk k))
  | .lst os => some os
  | .tup os => some os
  | _ => none
section
variable {w : Wd} {H : Hp}
theorem RepOs.leafs {k : Kd} : ∀ {ds : List D} {vs : List V} {F : Addr → Prop}, Reps w.cl H (w.S k) ds vs → RepOs w H (ds.map (lfk k)) vs F
  | [], vs, F, h => by simpa [RepOs, Reps] using h
  | d :: ds, vs, F, h => by
    simp only [Reps] at h
    obtain ⟨v, r, e, h1, h2⟩ := h
    simp only [List.map_cons, RepOs]
    exact ⟨v, r, fun _ => False, F, e, fun _ z => z.elim, fun _ z => z, fun _ z => z.elim, lfk_rep h1, RepOs.leafs h2⟩
theorem RepOs.get : ∀ {os : List O} {vs : List V} {F : Addr → Prop} {i : Nat} {o : O}, RepOs w H os vs F → os[i]? = some o → ∃ v F', vs[i]? = some v ∧ RepO w H o v F' ∧ Sub F' F
  | [], vs, F, i, o, h, e => by simp at e
  | x :: os, vs, F, 0, o, h, e => by
    simp only [RepOs] at h
    obtain ⟨v, r, F1, F2, rfl, s1, s2, d, h1, h2⟩ := h
    simp at e; subst e
    exact ⟨v, F1, rfl, h1, s1⟩
  | x :: os, vs, F, i + 1, o, h, e => by
    simp only [RepOs] at h
    obtain ⟨v, r, F1, F2, rfl, s1, s2, d, h1, h2⟩ := h
    obtain ⟨v', F', e', h', s'⟩ := RepOs.get h2 (show os[i]? = some o by simpa using e)
    exact ⟨v', F', by simpa using e', h', fun a z => s2 a (s' a z)⟩
theorem RepOs.take : ∀ (n : Nat) {os : List O} {vs : List V} {F : Addr → Prop}, RepOs w H os vs F → RepOs w H (os.take n) (vs.take n) F
  | 0, os, vs, F, h => by simp [RepOs]
  | n + 1, [], vs, F, h => by
    simp only [RepOs] at h; subst h; simp [RepOs]
  | n + 1, x :: os, vs, F, h => by
    simp only [RepOs] at h
    obtain ⟨v, r, F1, F2, rfl, s1, s2, d, h1, h2⟩ := h
    simp only [List.take_succ_cons, RepOs]
    exact ⟨v, r.take n, F1, F2, rfl, s1, s2, d, h1, RepOs.take n h2⟩
theorem RepOs.drop : ∀ (n : Nat) {os : List O} {vs : List V} {F : Addr → Prop}, RepOs w H os vs F → RepOs w H (os.drop n) (vs.drop n) F
  | 0, os, vs, F, h => by simpa using h
  | n + 1, [], vs, F, h => by
    simp only [RepOs] at h; subst h; simp [RepOs]
  | n + 1, x :: os, vs, F, h => by
    simp only [RepOs] at h
    obtain ⟨v, r, F1, F2, rfl, s1, s2, d, h1, h2⟩ := h
    simp only [List.drop_succ_cons]
    exact RepOs.mono s2 (RepOs.drop n h2)
theorem RepOs.append : ∀ {os ps : List O} {vs us : List V} {F G : Addr → Prop}, Disj F G → RepOs w H os vs F → RepOs w H ps us G → RepOs w H (os ++ ps) (vs ++ us) (fun a => F a ∨ G a)
  | [], ps, vs, us, F, G, d, h, h' => by
    simp only [RepOs] at h; subst h
    exact RepOs.mono (fun _ z => .inr z) h'
  | x :: os, ps, vs, us, F, G, d, h, h' => by
    simp only [RepOs] at h
    obtain ⟨v, r, F1, F2, rfl, s1, s2, d2, h1, h2⟩ := h
    simp only [List.cons_append, RepOs]
    exact ⟨v, r ++ us, F1, fun a => F2 a ∨ G a, rfl, fun a z => .inl (s1 a z), fun a z => z.elim (fun q => .inl (s2 a q)) .inr, fun a z q => q.elim (d2 a z) (d a (s1 a z)), h1, RepOs.append (fun a z => d a (s2 a z)) h2 h'⟩
def allLf : List O → Bool
  | [] => true
  | .lf _ _ :: r => allLf r
  | _ => false
theorem RepOs.free : ∀ {os : List O} {vs : List V} {F : Addr → Prop} (G : Addr → Prop), allLf os = true → RepOs w H os vs F → RepOs w H os vs G
  | [], vs, F, G, _, h => h
  | .lf k d :: os, vs, F, G, a, h => by
    simp only [RepOs] at h ⊢
    obtain ⟨v, r, F1, F2, rfl, s1, s2, d2, h1, h2⟩ := h
    exact ⟨v, r, fun _ => False, G, rfl, fun _ z => z.elim, fun _ z => z, fun _ z => z.elim, by simpa only [RepO] using h1, RepOs.free G (by simpa [allLf] using a) h2⟩
theorem RepOs.rep {os : List O} {vs : List V} {F : Addr → Prop} (a : allLf os = true) (h : RepOs w H os vs F) : ∀ n : Nat, RepOs w H (List.replicate n os).flatten (List.replicate n vs).flatten (fun _ => False)
  | 0 => by simp [RepOs]
  | n + 1 => by
    rw [List.replicate_succ, List.replicate_succ, List.flatten_cons, List.flatten_cons]
    exact RepOs.mono (fun _ z => z.elim id id) (RepOs.append (fun _ z => z.elim) (RepOs.free (fun _ => False) a h) (RepOs.rep a h n))
theorem elems_rep {o : O} {os : List O} {v : V} {F : Addr → Prop} (e : elems o = some os) (h : RepO w H o v F) : ∃ a vs, v = .ref a ∧ ((o.er.isL = true ∧ H a = some (.lst vs)) ∨ (o.er.isL = false ∧ o.er.isTp = true ∧ H a = some (.tup vs))) ∧ RepOs w H os vs F := by
  unfold elems at e
  split at e
  · cases e
    simp only [RepO, Rep] at h
    obtain ⟨a, vs, e, _, r, q⟩ := h
    exact ⟨a, vs, e, .inl ⟨rfl, r⟩, RepOs.leafs q⟩
  · cases e
    simp only [RepO, Rep] at h
    obtain ⟨a, vs, e, r, q⟩ := h
    exact ⟨a, vs, e, .inr ⟨rfl, rfl, r⟩, RepOs.leafs q⟩
  · cases e
    simp only [RepO] at h
    obtain ⟨a, vs, G, e, r, _, _, s, q⟩ := h
    exact ⟨a, vs, e, .inl ⟨rfl, r⟩, RepOs.mono s q⟩
  · cases e
    simp only [RepO] at h
    obtain ⟨a, vs, e, r, q⟩ := h
    exact ⟨a, vs, e, .inr ⟨rfl, rfl, r⟩, q⟩
  · cases e
end
def szOk (n : Nat) : Bool := decide (n ≤ 16777216)
theorem szOk_le {n : Nat} (h : szOk n = true) : n ≤ sizeLine := by
  rw [sizeLine_eq]; exact of_decide_eq_true h
section
variable {X : Cx} {a b c : Expr} {es : List Expr} {ma mb mc : DEnv → R O} {mA : DEnv → R (List O)} {pos p : Pos} {x : Str}
def aNil : DEnv → R (List O) := fun _ => .ok []
def aCons (m : DEnv → R O) (r : DEnv → R (List O)) : DEnv → R (List O) := fun env => (m env).bind fun o => (r env).bind fun os => .ok (o :: os)
theorem va_nil : VA X [] aNil := fun W tk w hc => pa_nil.imp fun σ H Q h => by
  obtain ⟨env, G, h⟩ := rA_to h
  exact h [] H (fun _ => False) (Same.refl H) (by simp [RepOs]) fun _ z => z.elim
theorem va_cons (ha : VE X a ma) (hr : VA X es mA) (hs : starEach (a :: es) X.env = (false, eval a X.env) :: starEach es X.env := by rfl) : VA X (a :: es) (aCons ma mA) := fun W tk w hc => (pa_cons (ha W tk w hc) (hr W tk w hc) hs).imp fun σ H Q h => by
  obtain ⟨env, G, h⟩ := rA_to h
  refine rE_of G (Out.bind (Same.refl H) h fun o v H1 F1 _ s1 p1 f1 h1 => rA_of (G.same s1) (Out.bind s1 h1 fun os vs H2 F2 _ s2 p2 f2 h2 => ?_))
  refine h2 (v :: vs) H2 (fun a => F1 a ∨ F2 a) (Same.refl H2) ?_ fun a z => z.elim (fun q => (f1.up s2) a q) fun q => (f2.base s1) a q
  simp only [RepOs]
  exact ⟨v, vs, F1, F2, rfl, fun _ z => .inl z, fun _ z => .inr z, fun a z z2 => (f1 a z).2.ne (f2 a z2).1, RepO.same s2 p1, p2⟩
def eN (g : List O → R O) (m : DEnv → R (List O)) : DEnv → R O := fun env => (m env).bind g
def OpN (X : Cx) (r : List V → Hp → VK → Prop) (g : List O → R O) : Prop := ∀ (w : Wd) (W : WX) (σ : L2.St) (H0 H : Hp) (os : List O) (vs : List V) (F : Addr → Prop) (Q : VK), ClOk X w.cl → Same H0 H → RepOs w H os vs F → Fresh H0 H F → Out w W σ H0 H (RepO w) (g os) Q → r vs H Q
theorem ve_callB {id : String} {r : List V → Hp → VK → Prop} {g : List O → R O} (hc : CallR X (.builtin id) r) (hr : OpN X r g) (hm : X.mg x = none) (hv : bootBuiltins x = some (.builtin id)) (ha : VA X (a :: es) mA) (hg : Gl X x := by rfl) (hn : x ≠ "__name__" := by decide) (hdb : (x == ("__debug__" : Str)) = false := by decide)
    (he : starEach (a :: es) X.env = (false, eval a X.env) :: starEach es X.env := by rfl) (hpl : (backTo pos (starEach es X.env)).any (·.1) = false := by rfl) : VE X (.Call (.Name x p) (a :: es) [] pos) (eN g mA) := fun W tk w hcl =>
  (pe_callB hc hg hm hv (ha W tk w hcl) hn hdb he hpl).imp fun σ H Q h => by
    obtain ⟨env, G, h⟩ := rE_to h
    exact rA_of G (Out.bind (Same.refl H) h fun os vs H1 F1 _ s1 p1 f1 h1 => hr w W σ H H1 os vs F1 Q hcl s1 p1 f1 h1)
theorem ve_callTy {T : String} {r : List V → Hp → VK → Prop} {g : List O → R O} (hc : CallR X (.type T) r) (hr : OpN X r g) (hm : X.mg x = none) (hv : bootBuiltins x = some (.type T)) (ha : VA X (a :: es) mA) (hg : Gl X x := by rfl) (hn : x ≠ "__name__" := by decide) (hdb : (x == ("__debug__" : Str)) = false := by decide)
    (he : starEach (a :: es) X.env = (false, eval a X.env) :: starEach es X.env := by rfl) (hpl : (backTo pos (starEach es X.env)).any (·.1) = false := by rfl) : VE X (.Call (.Name x p) (a :: es) [] pos) (eN g mA) := fun W tk w hcl =>
  (pe_callTy hc hg hm hv (ha W tk w hcl) hn hdb he hpl).imp fun σ H Q h => by
    obtain ⟨env, G, h⟩ := rE_to h
    exact rA_of G (Out.bind (Same.refl H) h fun os vs H1 F1 _ s1 p1 f1 h1 => hr w W σ H H1 os vs F1 Q hcl s1 p1 f1 h1)
theorem out_at {w : Wd} {W : WX} {σ : L2.St} {H0 H : Hp} {d : D} {v : V} {Q : VK} (hr : ∀ cl H S, Rep cl H S d v) (h : Out w W σ H0 H (RepO w) (.ok (.lf .fz d)) Q) : Q v H :=
  h v H (fun _ => False) (Same.refl H) (by simp only [RepO]; exact hr _ _ _) fun _ z => z.elim
theorem out_int {w : Wd} {W : WX} {σ : L2.St} {H0 H : Hp} {i : Int} {Q : VK} (h : Out w W σ H0 H (RepO w) (.ok (.lf .fz (.int i))) Q) : Q (.int i) H := out_at (d := .int i) (fun _ _ _ => rfl) h
theorem out_bl {w : Wd} {W : WX} {σ : L2.St} {H0 H : Hp} {i : Bool} {Q : VK} (h : Out w W σ H0 H (RepO w) (.ok (.lf .fz (.bl i))) Q) : Q (.bl i) H := out_at (d := .bl i) (fun _ _ _ => rfl) h
theorem out_str {w : Wd} {W : WX} {σ : L2.St} {H0 H : Hp} {i : Str} {Q : VK} (h : Out w W σ H0 H (RepO w) (.ok (.lf .fz (.str i))) Q) : Q (.str i) H := out_at (d := .str i) (fun _ _ _ => rfl) h
instance (i j : Int) : Decidable (CMul i j) := by unfold CMul; infer_instance
instance (i j : Int) : Decidable (CMulW i j) := by unfold CMulW; infer_instance
instance (i j : Int) : Decidable (CDiv i j) := by unfold CDiv; infer_instance
instance (i j : Int) : Decidable (CDivW i j) := by unfold CDivW; infer_instance
instance (i j : Int) : Decidable (CPow i j) := by unfold CPow; infer_instance
def cMulB (i j : Int) : Bool := decide (CMul i j) || decide (CMulW i j)
def cDivB (i j : Int) : Bool := decide (CDivW i j)
def cModB (_ j : Int) : Bool := decide (0 < j)
def cPowB (i j : Int) : Bool := decide (CPow i j)
def gMul := opI (fun i j => .int (i * j)) cMulB
def gDiv := opI (fun i j => .int (i / j)) cDivB
def gMod := opI (fun i j => .int (i % j)) cModB
def gPow := opI (fun i j => .int (i ^ j.toNat)) cPowB
theorem ve_div (ha : VE X a ma) (hb : VE X b mb) : VE X (.BinOp a .FloorDiv b pos) (e2 gDiv ma mb) := ve_op op_fdivW (op2_I (fv := fun i j => .int (i / j)) (fun _ _ _ _ _ => rfl) fun i j H Q h q => ⟨i, j, rfl, rfl, of_decide_eq_true h, q⟩) ha hb
theorem ve_mod (ha : VE X a ma) (hb : VE X b mb) : VE X (.BinOp a .Mod b pos) (e2 gMod ma mb) := ve_op op_mod (op2_I (fv := fun i j => .int (i % j)) (fun _ _ _ _ _ => rfl) fun i j H Q h q => ⟨i, j, rfl, rfl, of_decide_eq_true h, q⟩) ha hb
theorem ve_pow (ha : VE X a ma) (hb : VE X b mb) : VE X (.BinOp a .Pow b pos) (e2 gPow ma mb) := ve_op op_pow (op2_I (fv := fun i j => .int (i ^ j.toNat)) (fun _ _ _ _ _ => rfl) fun i j H Q h q => ⟨i, j, rfl, rfl, of_decide_eq_true h, q⟩) ha hb
def e1 (g : O → R O) (ma : DEnv → R O) : DEnv → R O := fun env => (ma env).bind g
def gNeg (o : O) : R O := match o.er with
  | .int i => .ok (.lf .fz (.int (-i)))
  | _ => .no
theorem vt_gt (ha : VE X a ma) (hb : VE X b mb) : VT X (.Compare a [.Gt] [b] pos) (tOfE (e2 gGt ma mb)) := vt_cmp op_gt o_gt ha hb (nomark _)
def tNotM (m : DEnv → R Bool) : DEnv → R Bool := fun env => (m env).bind fun b => .ok (!b)
def tAndM (m m' : DEnv → R Bool) : DEnv → R Bool := fun env => (m env).bind fun b => if b then m' env else .ok false
def tOrM (m m' : DEnv → R Bool) : DEnv → R Bool := fun env => (m env).bind fun b => if b then .ok true else m' env
variable {tA tB' tC' : DEnv → R Bool} {rest : List Expr}
theorem vt_not (ha : VT X a tA) : VT X (.UnaryOp .Not a pos) (tNotM tA) := fun W tk w hc => (pt_not (ha W tk w hc)).imp fun σ H Q h => by
  obtain ⟨env, G, h⟩ := rT_to h
  exact rT_of G (Out.bind (Same.refl H) h fun b c H1 F1 _ s1 e f1 h1 => h1 (!c) H1 (fun _ => False) (Same.refl H1) (by rw [e]) fun _ z => z.elim)
theorem VW.vt (h : VW X a tA) : VT X a tA := fun W tk w hc => (h W tk w hc).pt
theorem vw_and1 (ha : VT X a tA) : VW X (.BoolOp .And [a] pos) tA := fun W tk w hc => pw_and1 (ha W tk w hc)
theorem vw_or1 (ha : VT X a tA) : VW X (.BoolOp .Or [a] pos) tA := fun W tk w hc => pw_or1 (ha W tk w hc)
theorem vw_and (ha : VT X a tA) (hb : VW X (.BoolOp .And (b :: rest) pos) tB') : VW X (.BoolOp .And (a :: b :: rest) pos) (tAndM tA tB') := fun W tk w hc => (pw_and (ha W tk w hc) (hb W tk w hc)).imp fun σ H Q h => by
  obtain ⟨env, G, h⟩ := rT_to h
  refine rT_of G (Out.bind (Same.refl H) h fun b c H1 F1 _ s1 e f1 h1 => ?_)
  subst e
  cases c with
  | true => rw [if_pos rfl] at h1; rw [if_pos rfl]; exact rT_of (G.same s1) (Out.bind s1 (f := R.ok) (by cases q : tB' env <;> rw [q] at h1 <;> exact h1) fun b' c' H2 F2 _ s2 e2 f2 h2 => by subst e2; exact h2 c' H2 (fun _ => False) (Same.refl H2) rfl fun _ z => z.elim)
  | false => rw [if_neg Bool.false_ne_true] at h1; rw [if_neg Bool.false_ne_true]; exact h1 false H1 (fun _ => False) (Same.refl H1) rfl fun _ z => z.elim
theorem vw_or (ha : VT X a tA) (hb : VW X (.BoolOp .Or (b :: rest) pos) tB') : VW X (.BoolOp .Or (a :: b :: rest) pos) (tOrM tA tB') := fun W tk w hc => (pw_or (ha W tk w hc) (hb W tk w hc)).imp fun σ H Q h => by
  obtain ⟨env, G, h⟩ := rT_to h
  refine rT_of G (Out.bind (Same.refl H) h fun b c H1 F1 _ s1 e f1 h1 => ?_)
  subst e
  cases c with
  | false => rw [if_neg Bool.false_ne_true] at h1; rw [if_neg Bool.false_ne_true]; exact rT_of (G.same s1) (Out.bind s1 (f := R.ok) (by cases q : tB' env <;> rw [q] at h1 <;> exact h1) fun b' c' H2 F2 _ s2 e2 f2 h2 => by subst e2; exact h2 c' H2 (fun _ => False) (Same.refl H2) rfl fun _ z => z.elim)
  | true => rw [if_pos rfl] at h1; rw [if_pos rfl]; exact h1 true H1 (fun _ => False) (Same.refl H1) rfl fun _ z => z.elim
def truD : D → Option Bool
  | .non => some false
  | .bl b => some b
  | .int i => some (i != 0)
  | .str z => if szOk z.length then some ((z.length : Int) != 0) else none
  | .lst xs => some (!xs.isEmpty)
  | .tup xs => some (!xs.isEmpty)
  | _ => none
def asT (o : O) : R Bool := match truD o.er with
  | some b => .ok b
  | none => .no
def tTru (m : DEnv → R O) : DEnv → R Bool := fun env => (m env).bind asT
theorem Reps.isEmpty {cl : Cl} {H : Hp} {S : Addr → Prop} {ds : List D} {vs : List V} (h : Reps cl H S ds vs) : vs.isEmpty = ds.isEmpty := by
  cases ds with
  | nil => simp only [Reps] at h; subst h; rfl
  | cons d ds => simp only [Reps] at h; obtain ⟨v, r, rfl, _⟩ := h; rfl
theorem tru_rep {cl : Cl} {K : PySem.W.Frag} {H : Hp} {S : Addr → Prop} {d : D} {v : V} {b : Bool} (h : Rep cl H S d v) (e : truD d = some b) : TruV K v H b := by
  unfold truD at e
  split at e
  · cases e; simp only [Rep] at h; subst h; exact rfl
  · cases e; simp only [Rep] at h; subst h; exact rfl
  · cases e; simp only [Rep] at h; subst h; exact rfl
  · simp only [Rep] at h; subst h
    split at e
    · rename_i z hz
      cases e
      exact ⟨szOk_le hz, rfl⟩
    · cases e
  · cases e; simp only [Rep] at h
    obtain ⟨a, vs, rfl, _, r, q⟩ := h
    exact .inl ⟨vs, SqL.of r, by rw [q.isEmpty]⟩
  · cases e; simp only [Rep] at h
    obtain ⟨a, vs, rfl, r, q⟩ := h
    exact .inr (.inl ⟨vs, SqT.of r, by rw [q.isEmpty]⟩)
  · cases e
theorem vt_tru (ha : VE X a ma) (he : ∀ whole, isTrue a X.env whole = (do let v ← whole; standAt a.pos; holding [v] (truthy v)) := by intro _; rfl) : VT X a (tTru ma) := fun W tk w hc => (pt_truth (ha W tk w hc) he).imp fun σ H Q h => by
  obtain ⟨env, G, h⟩ := rT_to h
  refine rE_of (W := W) G (Out.bind (Same.refl H) h fun o v H1 F1 _ s1 p1 f1 h1 => ?_)
  unfold asT at h1
  cases e : truD o.er with
  | some b => rw [e] at h1; exact ⟨b, tru_rep (RepO.at p1) e, h1 b H1 (fun _ => False) (Same.refl H1) rfl fun _ z => z.elim⟩
  | none => rw [e] at h1; exact h1.elim
def bAnd (m m' : DEnv → R O) : DEnv → R O := fun env => ((m env).bind asB).bind fun b => if b then m' env else .ok (.lf .fz (.bl false))
def bOr (m m' : DEnv → R O) : DEnv → R O := fun env => ((m env).bind asB).bind fun b => if b then .ok (.lf .fz (.bl true)) else m' env
def bNot (o : O) : R O := match o.er with
  | .bl b => .ok (.lf .fz (.bl !b))
  | _ => .no
theorem ve_not (ha : VE X a ma) : VE X (.UnaryOp .Not a pos) (e1 bNot ma) := fun W tk w hc => (pe_not (ha W tk w hc)).imp fun σ H Q h => by
  obtain ⟨env, G, h⟩ := rE_to h
  refine rE_of G (Out.bind (Same.refl H) h fun o v H1 F1 _ s1 p1 f1 h1 => ?_)
  have z := RepO.at p1
  unfold bNot at h1
  cases e : o.er with
  | bl i => rw [e] at h1 z; exact ⟨i, z, out_bl h1⟩
  | _ => rw [e] at h1; exact h1.elim
theorem ve_one {op : BoolOp} (ha : VE X a ma) : VE X (.BoolOp op [a] pos) ma := fun W tk w hc => pe_one (ha W tk w hc)
theorem R.bind_bind {α β γ : Type} (r : R α) (f : α → R β) (g : β → R γ) : (r.bind f).bind g = r.bind fun x => (f x).bind g := by cases r <;> rfl
theorem Out.ret {α β : Type} {w : Wd} {W : WX} {σ : L2.St} {H0 H : Hp} {P : Hp → α → β → (Addr → Prop) → Prop} {r : R α} {Q : β → Hp → Prop} (s0 : Same H0 H) (h : Out w W σ H0 H P r Q) : Out w W σ H H P r Q := by
  cases r with
  | ok o => exact fun v H1 F1 s p fr => h v H1 F1 s p (fr.base s0)
  | ex x => exact fun cls d H' F s p fr => h cls d H' F s p (fr.base s0)
  | no => exact h
theorem ve_and (ha : VE X a ma) (hb : VE X (.BoolOp .And (b :: rest) pos) mb) : VE X (.BoolOp .And (a :: b :: rest) pos) (bAnd ma mb) := fun W tk w hc => (pe_and (ha W tk w hc) (hb W tk w hc)).imp fun σ H Q h => by
  obtain ⟨env, G, h⟩ := rE_to h
  unfold bAnd at h
  rw [R.bind_bind] at h
  refine rE_of G (Out.bind (Same.refl H) h fun o v H1 F1 _ s1 p1 f1 h1 => ?_)
  have z := RepO.at p1
  unfold asB at h1
  cases e : o.er with
  | bl i =>
    rw [e] at h1 z
    refine ⟨i, z, ?_⟩
    cases i with
    | true => rw [if_pos rfl]; exact rE_of (G.same s1) (Out.ret s1 (by exact h1))
    | false => rw [if_neg Bool.false_ne_true]; exact out_bl (by exact h1)
  | _ => rw [e] at h1; exact h1.elim
def eIf (t : DEnv → R Bool) (m m' : DEnv → R O) : DEnv → R O := fun env => (t env).bind fun b => if b then m env else m' env
def D.isNon : D → Option Bool
  | .non => some true
  | .opq => none
  | _ => some false
def gIsN (ma : DEnv → R O) : DEnv → R O := e1 (fun o => match o.er.isNon with
  | some b => .ok (.lf .fz (.bl b))
  | none => .no) ma
def gNotN (ma : DEnv → R O) : DEnv → R O := e1 (fun o => match o.er.isNon with
  | some b => .ok (.lf .fz (.bl (!b)))
  | none => .no) ma
end
end VL
namespace VL
open PySem PySem.Spec PyProof.Rows L2
section
variable {X : Cx} {a b c : Expr} {es : List Expr} {ma mb mc : DEnv → R O} {mA : DEnv → R (List O)} {pos p : Pos} {x : Str}
def gLst (os : List O) : R O := if szOk os.length then .ok (.lst os) else .no
def gTup (os : List O) : R O := if szOk os.length then .ok (.tup os) else .no
theorem new_lst {w : Wd} {W : WX} {σ : L2.St} {H0 H : Hp} {os : List O} {vs : List V} {F : Addr → Prop} {Q : VK} (s : Same H0 H) (p1 : RepOs w H os vs F) (f1 : Fresh H0 H F) (h : Out w W σ H0 H (RepO w) (.ok (.lst os)) Q) {q : Addr} (nq : H q = none) :
    Q (.ref q) (upd H q (.lst vs)) := by
  have sm : Same H (upd H q (.lst vs)) := Same.of fun b o e => by rw [upd_ne (ne_of_none e nq)]; exact e
  refine h (.ref q) _ (fun a => a = q ∨ F a) sm ?_ fun a z => ?_
  · simp only [RepO]
    exact ⟨q, vs, F, rfl, upd_same, .inl rfl, fun z => (f1 q z).2.ne nq, fun _ z => .inr z, RepOs.same sm p1⟩
  · rcases z with rfl | z
    · exact ⟨s.free nq, NT.lst upd_same⟩
    · exact ⟨(f1 a z).1, (f1 a z).2.same sm⟩
theorem new_tup {w : Wd} {W : WX} {σ : L2.St} {H0 H : Hp} {os : List O} {vs : List V} {F : Addr → Prop} {Q : VK} (s : Same H0 H) (p1 : RepOs w H os vs F) (f1 : Fresh H0 H F) (h : Out w W σ H0 H (RepO w) (.ok (.tup os)) Q) {q : Addr} (nq : H q = none) :
    Q (.ref q) (upd H q (.tup vs)) := by
  have sm : Same H (upd H q (.tup vs)) := Same.of fun b o e => by rw [upd_ne (ne_of_none e nq)]; exact e
  refine h (.ref q) _ F sm ?_ fun a z => ⟨(f1 a z).1, (f1 a z).2.same sm⟩
  simp only [RepO]
  exact ⟨q, vs, rfl, upd_same, RepOs.same sm p1⟩
theorem ve_lst (ha : VA X es mA) : VE X (.List es pos) (eN gLst mA) := fun W tk w hc => (pe_lst (ha W tk w hc)).imp fun σ H Q h => by
  obtain ⟨env, G, h⟩ := rE_to h
  refine rA_of G (Out.bind (Same.refl H) h fun os vs H1 F1 _ s1 p1 f1 h1 => ?_)
  unfold gLst at h1
  split at h1
  · rename_i z
    exact ⟨by rw [RepOs.length p1]; exact szOk_le z, fun q nq => new_lst s1 p1 f1 h1 nq⟩
  · exact h1.elim
theorem ve_tup {k : Nat} (ha : VA X es mA) : VE X (.Tuple es k pos) (eN gTup mA) := fun W tk w hc => (pe_tup (ha W tk w hc)).imp fun σ H Q h => by
  obtain ⟨env, G, h⟩ := rE_to h
  refine rA_of G (Out.bind (Same.refl H) h fun os vs H1 F1 _ s1 p1 f1 h1 => ?_)
  unfold gTup at h1
  split at h1
  · rename_i z
    exact ⟨by rw [RepOs.length p1]; exact szOk_le z, fun q nq => new_tup s1 p1 f1 h1 nq⟩
  · exact h1.elim
theorem atI_zip {w : Wd} {H : Hp} {os : List O} {vs : List V} {F : Addr → Prop} {i : Int} {o : O} (h : RepOs w H os vs F) (e : atI os i = some o) : ∃ v F', atI vs i = some v ∧ RepO w H o v F' ∧ Sub F' F := by
  unfold atI at e ⊢
  rw [RepOs.length h]
  cases q : ixN os.length i with
  | none => rw [q] at e; cases e
  | some j =>
    rw [q] at e
    exact RepOs.get h e
def gIx (o1 o2 : O) : R O := match elems o1, o2.er with
  | some os, .int i => (match atI os i with
    | some o => .ok o
    | none => .no)
  | none, .int i => (match o1.er with
    | .scr ds => (match atI ds i with
      | some d => if d.imm then .ok (.lf .fz d) else .no
      | none => .no)
    | .str z => if szOk z.length then (match atI z.cps.toList i with
      | some c => .ok (.lf .fz (.str ⟨#[c]⟩))
      | none => .no) else .no
    | _ => .no)
  | _, _ => .no
theorem Reps.get {cl : Cl} {H : Hp} {S : Addr → Prop} : ∀ {ds : List D} {vs : List V} {i : Nat} {d : D}, Reps cl H S ds vs → ds[i]? = some d → ∃ v, vs[i]? = some v ∧ Rep cl H S d v
  | [], vs, i, d, h, e => by simp at e
  | x :: ds, vs, 0, d, h, e => by
    simp only [Reps] at h
    obtain ⟨v, r, rfl, h1, h2⟩ := h
    simp at e; subst e
    exact ⟨v, rfl, h1⟩
  | x :: ds, vs, i + 1, d, h, e => by
    simp only [Reps] at h
    obtain ⟨v, r, rfl, h1, h2⟩ := h
    obtain ⟨v', e', h'⟩ := Reps.get h2 (show ds[i]? = some d by simpa using e)
    exact ⟨v', by simpa using e', h'⟩
theorem ix_op : Op2 X (rIx X.K) gIx := by
  intro w W σ H0 H o1 o2 x y F1 F2 Q hc s p1 p2 dj f1 f2 h
  have z2 := RepO.at p2
  unfold gIx at h
  split at h
  · rename_i os i e1 e2
    rw [e2] at z2
    obtain ⟨a, vs, rfl, hk, q⟩ := elems_rep e1 p1
    split at h
    · rename_i o e3
      obtain ⟨v, F', e4, q', sb⟩ := atI_zip q e3
      have fin := h v H F' (Same.refl H) q' fun a z => f1 a (sb a z)
      rcases hk with ⟨_, hk⟩ | ⟨_, _, hk⟩
      · exact .inl ⟨a, vs, i, v, rfl, z2, SqL.of hk, e4, fin⟩
      · exact .inr (.inl ⟨a, vs, i, v, rfl, z2, SqT.of hk, e4, fin⟩)
    · exact h.elim
  · rename_i i e1 e2
    rw [e2] at z2
    have z1 := RepO.at p1
    split at h
    · rename_i ds e3
      rw [e3] at z1
      simp only [Rep] at z1
      obtain ⟨a, vs, rfl, r, q⟩ := z1
      split at h
      · rename_i d e4
        split at h
        · rename_i im
          have : ∃ v, atI vs i = some v ∧ Rep w.cl H (fun _ => True) d v := by
            unfold atI at e4 ⊢
            rw [Reps.length q]
            cases qq : ixN ds.length i with
            | none => rw [qq] at e4; cases e4
            | some j => rw [qq] at e4; exact Reps.get q e4
          obtain ⟨v, e5, q5⟩ := this
          exact .inl ⟨a, vs, i, v, rfl, z2, r.imp (fun z => z.2) (hc.1.2 a vs), e5, h v H (fun _ => False) (Same.refl H) (by simp only [RepO]; exact Rep.imm (fun _ _ q => q) im q5) fun _ z => z.elim⟩
        · exact h.elim
      · exact h.elim
    · rename_i z e3
      rw [e3] at z1
      split at h
      · rename_i hz
        split at h
        · rename_i cc e4
          exact .inr (.inr ⟨z, i, cc, z1, z2, szOk_le hz, e4, out_str h⟩)
        · exact h.elim
      · exact h.elim
    · exact h.elim
  · exact h.elim
theorem ve_ix (ha : VE X a ma) (hb : VE X b mb) (hs : PlainIx b := by exact fun _ _ => rfl) : VE X (.Subscript a b pos) (e2 gIx ma mb) := fun W tk w hc =>
  (pe_ix ix_seq (ha W tk w hc) (hb W tk w hc) hs).imp fun σ H Q h => let ⟨env, G, h⟩ := rE_to h; seq2 ix_op hc G h
def VO (X : Cx) (e : Option Expr) (m : DEnv → R (Option Int)) : Prop := ∀ (W : WX), Takes X W → ∀ w : Wd, ClOk X w.cl → PO X e (fun σ H Q => ∃ env, GoodE w env σ H ∧ Out w W σ H H (fun _ o v _ => v = o) (m env) Q)
def oNo : DEnv → R (Option Int) := fun _ => .ok none
def oYes (m : DEnv → R O) : DEnv → R (Option Int) := fun env => (m env).bind fun o => match o.er with
  | .int i => .ok (some i)
  | _ => .no
theorem _root_.L2.PO.imp {X : Cx} {e : Option Expr} {t t' : TO} (h : PO X e t) (k : ∀ σ H Q, t' σ H Q → t σ H Q) : PO X e t' := ⟨fun pins s σ H Q I q => h.run pins s σ H Q I (k σ H Q q)⟩
theorem vo_none : VO X none oNo := fun W tk w hc => po_none.imp fun σ H Q h => by
  obtain ⟨env, G, h⟩ := h
  exact h none H (fun _ => False) (Same.refl H) rfl fun _ z => z.elim
theorem vo_some (ha : VE X a ma) : VO X (some a) (oYes ma) := fun W tk w hc => (po_some (ha W tk w hc)).imp fun σ H Q h => by
  obtain ⟨env, G, h⟩ := h
  refine rE_of G (Out.bind (Same.refl H) h fun o v H1 F1 _ s1 p1 f1 h1 => ?_)
  have z := RepO.at p1
  cases e : o.er with
  | int i => rw [e] at h1 z; exact ⟨i, z, h1 (some i) H1 (fun _ => False) (Same.refl H1) rfl fun _ z => z.elim⟩
  | _ => rw [e] at h1; exact h1.elim
def cutA {α : Type} (xs : List α) (lo hi : Option Int) : List α := (xs.drop (HT.sIx xs.length 0 lo)).take (HT.sIx xs.length xs.length hi - HT.sIx xs.length 0 lo)
def gSl (o : O) (lo hi : Option Int) : R O := match elems o with
  | some os => if o.er.isL then .ok (.lst (cutA os lo hi)) else .ok (.tup (cutA os lo hi))
  | none => (match o.er with
    | .str z => if szOk z.length then .ok (.lf .fz (.str (cutS z lo hi))) else .no
    | .scr ds => if D.imms ds then .ok (.lst (cutA (ds.map (O.lf .fz)) lo hi)) else .no
    | _ => .no)
theorem RepOs.ofImms {w : Wd} {H : Hp} {S : Addr → Prop} : ∀ {ds : List D} {vs : List V}, Reps w.cl H S ds vs → D.imms ds = true → RepOs w H (ds.map (O.lf .fz)) vs (fun _ => False)
  | [], vs, h, _ => by simp only [Reps] at h; subst h; rfl
  | d :: ds, vs, h, im => by
    simp only [Reps] at h
    obtain ⟨v, r, rfl, h1, h2⟩ := h
    simp only [D.imms, Bool.and_eq_true] at im
    refine ⟨v, r, fun _ => False, fun _ => False, rfl, fun _ z => z, fun _ z => z, fun _ z => z.elim, ?_, RepOs.ofImms h2 im.2⟩
    simp only [RepO]
    exact Rep.imm (fun _ _ q => q) im.1 h1
def eSl (m : DEnv → R O) (l u : DEnv → R (Option Int)) : DEnv → R O := fun env => (m env).bind fun o => (l env).bind fun lo => (u env).bind fun hi => gSl o lo hi
theorem ve_slice {lo hi : Option Expr} {ml mh : DEnv → R (Option Int)} {p2 : Pos} (ha : VE X a ma) (hl : VO X lo ml) (hh : VO X hi mh) : VE X (.Subscript a (.Slice lo hi none p2) pos) (eSl ma ml mh) := fun W tk w hc =>
  (pe_slice (SlR.or sl_list (SlR.or sl_tupA sl_str)) (ha W tk w hc) (hl W tk w hc) (hh W tk w hc)).imp fun σ H Q h => by
    obtain ⟨env, G, h⟩ := rE_to h
    refine rE_of G (Out.bind (Same.refl H) h fun o v H1 F1 _ s1 p1 f1 h1 => ⟨env, G.same s1, Out.bind s1 h1 fun lo' lo'' H2 F2 _ s2 e2 f2 h2 => ⟨env, G.same (s1.trans s2), Out.bind (s1.trans s2) h2 fun hi' hi'' H3 F3 _ s3 e3 f3 h3 => ?_⟩⟩)
    subst e2
    subst e3
    have s12 := s2.trans s3
    have p1 := RepO.same s12 p1
    have f1 := f1.up s12
    unfold gSl at h3
    split at h3
    · rename_i os e
      obtain ⟨a, vs, rfl, hk, q⟩ := elems_rep e p1
      have q' : RepOs w H3 (cutA os lo'' hi'') (cutV vs lo'' hi'') F1 := by
        unfold cutA cutV
        rw [RepOs.length q]
        exact RepOs.take _ (RepOs.drop _ q)
      rcases hk with ⟨hi, hk⟩ | ⟨hi, _, hk⟩
      · rw [if_pos hi] at h3
        exact .inl ⟨a, vs, rfl, SqL.of hk, fun p np => new_lst (s1.trans s12) q' f1 h3 np⟩
      · rw [if_neg (by rw [hi]; exact Bool.false_ne_true)] at h3
        refine .inr (.inl ⟨a, vs, rfl, SqT.of hk, fun hw => ?_, fun _ p np => new_tup (s1.trans s12) q' f1 h3 np⟩)
        refine h3 (.ref a) H3 F1 (Same.refl H3) ?_ f1
        simp only [RepO]
        have e : cutV vs lo'' hi'' = vs := by
          unfold cutV
          rw [hw.1, hw.2, List.drop_zero, Nat.sub_zero, List.take_length]
        rw [e] at q'
        exact ⟨a, vs, rfl, hk, q'⟩
    · split at h3
      · rename_i z ez
        split at h3
        · rename_i hz
          have q1 := RepO.at p1
          rw [ez] at q1
          exact .inr (.inr ⟨z, q1, szOk_le hz, out_str h3⟩)
        · exact h3.elim
      · rename_i ds ez
        split at h3
        · rename_i im
          have q1 := RepO.at p1
          rw [ez] at q1
          simp only [Rep] at q1
          obtain ⟨a, vs, rfl, r, q⟩ := q1
          have qs := RepOs.ofImms (w := w) q im
          have q' : RepOs w H3 (cutA (ds.map (O.lf .fz)) lo'' hi'') (cutV vs lo'' hi'') (fun _ => False) := by
            unfold cutA cutV
            rw [RepOs.length qs]
            exact RepOs.take _ (RepOs.drop _ qs)
          exact .inl ⟨a, vs, rfl, r.imp (fun z => z.2) (hc.1.2 a vs), fun p np => new_lst (s1.trans s12) q' (fun _ z => z.elim) h3 np⟩
        · exact h3.elim
      · exact h3.elim
def gPlus (o1 o2 : O) : R O := match elems o1, elems o2 with
  | some os, some ps => if szOk (os.length + ps.length) then (if o1.er.isL && o2.er.isL then .ok (.lst (os ++ ps)) else if o1.er.isTp && o2.er.isTp then .ok (.tup (os ++ ps)) else .no) else .no
  | _, _ => (match o1.er, o2.er with
    | .int i, .int j => .ok (.lf .fz (.int (i + j)))
    | .str z, .str y => if szOk (z.length + y.length) then .ok (.lf .fz (.str (z ++ y))) else .no
    | _, _ => .no)
theorem D.not_both {d : D} (h : d.isL = true) (h' : d.isTp = true) : False := by cases d <;> simp [D.isL, D.isTp] at h h'
theorem plus_op : Op2 X (fun x y H Q => (rI0 fun i j => .int (i + j)) x y H Q ∨ rCat x y H Q ∨ rCatA X.K x y H Q ∨ (∃ i j, x = .str i ∧ y = .str j ∧ i.length + j.length ≤ sizeLine ∧ Q (.str (i ++ j)) H)) gPlus := by
  intro w W σ H0 H o1 o2 x y F1 F2 Q hc s p1 p2 dj f1 f2 h
  unfold gPlus at h
  split at h
  · rename_i os ps e1 e2
    obtain ⟨a, vs, rfl, hk, q⟩ := elems_rep e1 p1
    obtain ⟨b, us, rfl, hk2, q2⟩ := elems_rep e2 p2
    have qq := RepOs.append dj q q2
    have ff : Fresh H0 H (fun a => F1 a ∨ F2 a) := fun a z => z.elim (f1 a) (f2 a)
    split at h
    · rename_i hz
      have hz' : vs.length + us.length ≤ sizeLine := by rw [RepOs.length q, RepOs.length q2]; exact szOk_le hz
      split at h
      · rename_i hl
        rw [Bool.and_eq_true] at hl
        rcases hk with ⟨_, hk⟩ | ⟨hn, _, _⟩
        · rcases hk2 with ⟨_, hk2⟩ | ⟨hn, _, _⟩
          · exact .inr (.inl ⟨a, b, vs, us, rfl, rfl, hk, hk2, hz', fun p np => new_lst s qq ff h np⟩)
          · rw [hn] at hl; exact Bool.noConfusion hl.2
        · rw [hn] at hl; exact Bool.noConfusion hl.1
      · split at h
        · rename_i hl
          rw [Bool.and_eq_true] at hl
          rcases hk with ⟨hn, hk⟩ | ⟨_, _, hk⟩
          · exact (D.not_both hn hl.1).elim
          · rcases hk2 with ⟨hn, hk2⟩ | ⟨_, _, hk2⟩
            · exact (D.not_both hn hl.2).elim
            · refine .inr (.inr (.inl ⟨a, b, vs, us, rfl, rfl, SqT.of hk, SqT.of hk2, hz', fun e => ?_, fun e e' => ?_, fun _ _ p np => new_tup s qq ff h np⟩))
              · subst e
                refine h (.ref b) H (fun a => F1 a ∨ F2 a) (Same.refl H) ?_ ff
                simp only [RepO]
                exact ⟨b, us, rfl, hk2, qq⟩
              · subst e'
                refine h (.ref a) H (fun a => F1 a ∨ F2 a) (Same.refl H) ?_ ff
                simp only [RepO]
                rw [List.append_nil] at qq
                exact ⟨a, vs, rfl, hk, qq⟩
        · exact h.elim
    · exact h.elim
  · have z1 := RepO.at p1
    have z2 := RepO.at p2
    split at h
    · rename_i i j e1 e2
      rw [e1] at z1
      rw [e2] at z2
      exact .inl ⟨i, j, z1, z2, out_int h⟩
    · rename_i i j e1 e2
      rw [e1] at z1
      rw [e2] at z2
      split at h
      · rename_i hz
        exact .inr (.inr (.inr ⟨i, j, z1, z2, szOk_le hz, out_str h⟩))
      · exact h.elim
    · exact h.elim
theorem ve_plus (ha : VE X a ma) (hb : VE X b mb) : VE X (.BinOp a .Add b pos) (e2 gPlus ma mb) := ve_op (OpR.or op_add (OpR.or op_cat (OpR.or op_catA op_add_str))) plus_op ha hb
def repS (z : Str) (n : Nat) : Str := ⟨(List.replicate n z.cps.toList).flatten.toArray⟩
theorem foldl_rep (c : Array Nat) : ∀ (n : Nat) (acc : Array Nat), ((List.replicate n c).foldl (· ++ ·) acc).toList = acc.toList ++ (List.replicate n c.toList).flatten
  | 0, acc => by simp
  | n + 1, acc => by rw [List.replicate_succ, List.foldl_cons, foldl_rep c n, List.replicate_succ, List.flatten_cons, Array.toList_append, List.append_assoc]
theorem repS_fold {z : Str} {n : Nat} : (⟨(List.replicate n z.cps).foldl (· ++ ·) #[]⟩ : Str) = repS z n := by
  unfold repS
  congr 1
  apply Array.toList_inj.mp
  rw [foldl_rep]
  simp
theorem repS_len {z : Str} {n : Nat} : (repS z n).length = z.length * n := by
  show ((List.replicate n z.cps.toList).flatten.toArray).size = z.cps.size * n
  simp [Nat.mul_comm]
theorem op_mulS : OpR X (binaryOp .Mult) (fun x y H Q => ∃ (z : Str) (k : Int), x = .str z ∧ y = .int k ∧ -(2 ^ 63) ≤ k ∧ k < 2 ^ 63 ∧ z.length * k.toNat ≤ sizeLine ∧ Q (.str (repS z k.toNat)) H) := by
  intro pins s σ H x y v u Q I rx ry h
  obtain ⟨z, k, rfl, rfl, h1, h2, h3, q⟩ := h
  obtain ⟨t, rfl⟩ := rx
  obtain ⟨t', rfl⟩ := ry
  have hs : sizeLine < 2 ^ 63 - 1 := by rw [sizeLine_eq]; decide
  refine PySem.P.mul_str (by rw [decide_eq_false (by omega), decide_eq_false (by omega)]; rfl) (fun k1 _ hb => ?_) (fun _ _ => ?_) ?_
  · have hk : (k.toNat : Int) = k := by omega
    have h4 : (z.length : Int) * k ≤ 2 ^ 63 - 1 := by
      have : ((z.length * k.toNat : Nat) : Int) ≤ 2 ^ 63 - 1 := by omega
      rw [Int.natCast_mul, hk] at this
      exact this
    have := (Int.le_ediv_iff_mul_le (show (0 : Int) < k by omega)).mpr h4
    omega
  · unfold Builtin.Str.tooLong
    exact decide_eq_false (by omega)
  · have len : (repS z k.toNat).length ≤ sizeLine := by rw [repS_len]; exact h3
    split
    · rename_i k0
      have e : repS z k.toNat = Str.empty := by
        rw [show k.toNat = 0 by omega]; rfl
      rw [e] at q
      exact ⟨by decide, ⟨V.str Str.empty, H, I.tok _, ⟨_, rfl⟩, q⟩⟩
    · split
      · rename_i hk
        have e : repS z k.toNat = z := by
          simp only [Bool.or_eq_true, beq_iff_eq] at hk
          rcases hk with hk | hk
          · rw [hk]
            unfold repS
            simp
          · unfold repS
            have h0 : z.cps.toList = [] := by
              apply List.eq_nil_of_length_eq_zero
              rw [Array.length_toList]; exact hk
            have : z = ⟨#[]⟩ := by
              cases z; congr 1; exact Array.toList_inj.mp (by simpa using h0)
            rw [h0, this]
            simp
        rw [e] at q
        exact ⟨V.str z, H, I, ⟨t, rfl⟩, q⟩
      · rw [repS_fold]
        exact ⟨len, ⟨V.str (repS z k.toNat), H, I.tok _, ⟨_, rfl⟩, q⟩⟩
def gTimes (o1 o2 : O) : R O := match elems o1, o2.er with
  | some os, .int k => if o1.er.isL && allLf os && decide (-(2 ^ 63) ≤ k) && decide (k < 2 ^ 63) && szOk (os.length * k.toNat) then .ok (.lst (List.replicate k.toNat os).flatten) else .no
  | _, _ => (match o1.er, o2.er with
    | .str z, .int k => if decide (-(2 ^ 63) ≤ k) && decide (k < 2 ^ 63) && szOk (z.length * k.toNat) then .ok (.lf .fz (.str (repS z k.toNat))) else .no
    | _, _ => gMul o1 o2)
theorem times_op : Op2 X (fun x y H Q => rRep x y H Q ∨ (rI CMul fun i j => .int (i * j)) x y H Q ∨ (rI CMulW fun i j => .int (i * j)) x y H Q ∨ ∃ (z : Str) (k : Int), x = .str z ∧ y = .int k ∧ -(2 ^ 63) ≤ k ∧ k < 2 ^ 63 ∧ z.length * k.toNat ≤ sizeLine ∧ Q (.str (repS z k.toNat)) H) gTimes := by
  intro w W σ H0 H o1 o2 x y F1 F2 Q hc s p1 p2 dj f1 f2 h
  unfold gTimes at h
  split at h
  · rename_i os k e1 e2
    have z2 := RepO.at p2
    rw [e2] at z2
    obtain ⟨a, vs, rfl, hk, q⟩ := elems_rep e1 p1
    split at h
    · rename_i hl
      simp only [Bool.and_eq_true, decide_eq_true_eq] at hl
      obtain ⟨⟨⟨⟨l1, l2⟩, l3⟩, l4⟩, l5⟩ := hl
      rcases hk with ⟨_, hk⟩ | ⟨hn, _, _⟩
      · exact .inl ⟨a, k, vs, rfl, z2, hk, l3, l4, by rw [RepOs.length q]; exact szOk_le l5, fun p np => new_lst s (RepOs.rep l2 q _) (fun _ z => z.elim) h np⟩
      · rw [hn] at l1; exact Bool.noConfusion l1
    · exact h.elim
  · split at h
    · rename_i z k e1 e2
      have z1 := RepO.at p1
      have z2 := RepO.at p2
      rw [e1] at z1
      rw [e2] at z2
      split at h
      · rename_i hb
        simp only [Bool.and_eq_true, decide_eq_true_eq] at hb
        exact .inr (.inr (.inr ⟨z, k, z1, z2, hb.1.1, hb.1.2, szOk_le hb.2, out_str h⟩))
      · exact h.elim
    have : Op2 X (fun x y H Q => (rI CMul fun i j => .int (i * j)) x y H Q ∨ (rI CMulW fun i j => .int (i * j)) x y H Q) gMul := op2_I (fv := fun i j => .int (i * j)) (fun _ _ _ _ _ => rfl) fun i j H Q h q => by
      unfold cMulB at h
      rw [Bool.or_eq_true] at h
      exact h.elim (fun h => .inl ⟨i, j, rfl, rfl, of_decide_eq_true h, q⟩) fun h => .inr ⟨i, j, rfl, rfl, of_decide_eq_true h, q⟩
    exact .inr ((this w W σ H0 H o1 o2 x y F1 F2 Q hc s p1 p2 dj f1 f2 h).imp id .inl)
theorem ve_times (ha : VE X a ma) (hb : VE X b mb) : VE X (.BinOp a .Mult b pos) (e2 gTimes ma mb) := ve_op (OpR.or op_rep (OpR.or op_mul (OpR.or op_mulW op_mulS))) times_op ha hb
theorem opN_1 {r : List V → Hp → VK → Prop} {g : O → R O} (hr : ∀ (w : Wd) (W : WX) (σ : L2.St) (H0 H : Hp) (o : O) (v : V) (F : Addr → Prop) (Q : VK), ClOk X w.cl → Same H0 H → RepO w H o v F → Fresh H0 H F → Out w W σ H0 H (RepO w) (g o) Q → r [v] H Q) :
    OpN X r (fun os => match os with | [o] => g o | _ => .no) := by
  intro w W σ H0 H os vs F Q hc s p f h
  match os, h with
  | [o], h =>
    simp only [RepOs] at p
    obtain ⟨v, r, F1, F2, rfl, s1, s2, d, p1, rfl⟩ := p
    exact hr w W σ H0 H o v F1 Q hc s p1 (fun a z => f a (s1 a z)) h
  | [], h => exact h.elim
  | _ :: _ :: _, h => exact h.elim
def f1 (g : O → R O) : List O → R O := fun os => match os with | [o] => g o | _ => .no
def f2 (g : O → O → R O) : List O → R O := fun os => match os with | [o, o'] => g o o' | _ => .no
def lenD : D → Option Nat
  | .lst xs => some xs.length
  | .tup xs => some xs.length
  | .scr xs => some xs.length
  | .dct ks xs => some ks.length
  | .str z => if szOk z.length then some z.length else none
  | _ => none
def gLen (o : O) : R O := match lenD o.er with
  | some n => .ok (.lf .fz (.int n))
  | none => .no
theorem len_rep {cl : Cl} {K : PySem.W.Frag} {H : Hp} {S : Addr → Prop} {d : D} {v : V} {n : Nat} (hk : ∀ a xs, cl.b.kl a xs → KL K a xs) (h : Rep cl H S d v) (e : lenD d = some n) : LenV K v H n ∨ ∃ d kvs, v = .ref d ∧ Rd H d (.dK kvs) ∧ n = kvs.length := by
  unfold lenD at e
  split at e
  · cases e; simp only [Rep] at h
    obtain ⟨a, vs, rfl, _, r, q⟩ := h
    exact .inl (.inl ⟨vs, SqL.of r, (Reps.length q).symm⟩)
  · cases e; simp only [Rep] at h
    obtain ⟨a, vs, rfl, r, q⟩ := h
    exact .inl (.inr ⟨vs, SqT.of r, (Reps.length q).symm⟩)
  · cases e; simp only [Rep] at h
    obtain ⟨a, vs, rfl, r, q⟩ := h
    exact .inl (.inl ⟨vs, r.imp (fun z => z.2) (hk a vs), (Reps.length q).symm⟩)
  · cases e; simp only [Rep] at h
    obtain ⟨a, vs, rfl, _, r, e, q⟩ := h
    exact .inr ⟨a, vs, rfl, r, by rw [← e, List.length_map]⟩
  · split at e
    · rename_i hz
      cases e; simp only [Rep] at h
      subst h
      exact .inl ⟨szOk_le hz, rfl⟩
    · cases e
  · cases e
theorem call_lenRd : CallR X (.builtin "len") (fun xs H Q => ∃ a kvs, xs = [V.ref a] ∧ Rd H a (.dK kvs) ∧ Q (.int kvs.length) H) := by
  intro pins s σ H xs us Q I r h
  obtain ⟨a, kvs, rfl, ha, q⟩ := h
  obtain ⟨u, rfl, ru⟩ := vals1 r
  cases ru
  exact d_len I ha fun t s' I' => ⟨.int kvs.length, H, I', ⟨t, rfl⟩, q⟩
theorem ve_len {q : Pos} (hm : X.mg "len" = none) (ha : VE X a ma) (hg : Gl X "len" := by rfl) (hst : starEach [a] X.env = (false, eval a X.env) :: starEach [] X.env := by rfl) : VE X (.Call (.Name "len" q) [a] [] pos) (eN (f1 gLen) (aCons ma aNil)) :=
  ve_callB (CallR.or call_len call_lenRd) (opN_1 fun w W σ H0 H o v F Q hc s p f h => by
    unfold gLen at h
    split at h
    · rename_i n e
      rcases len_rep hc.1.2 (K := X.K) (RepO.at p) e with z | ⟨d, kvs, rfl, z, rfl⟩
      · exact .inl ⟨v, n, rfl, z, out_int h⟩
      · exact .inr ⟨d, kvs, rfl, z, out_int h⟩
    · exact h.elim) hm PySem.boot_len (va_cons ha va_nil hst) hg (by decide) (by decide) hst
end
end VL
namespace VL
open PySem PySem.Spec PyProof.Rows L2
def intsOf : List D → Option (List Int)
  | [] => some []
  | .int i :: r => (intsOf r).map (i :: ·)
  | _ :: _ => none
theorem intsOf_map (ns : List Int) : intsOf (ns.map D.int) = some ns := by
  induction ns with
  | nil => rfl
  | cons n r ih => simp [intsOf, ih]
theorem intsOf_eq : ∀ {ds : List D} {ns : List Int}, intsOf ds = some ns → ds = ns.map D.int
  | [], ns, h => by cases h; rfl
  | .int i :: r, ns, h => by
    simp only [intsOf] at h
    cases e : intsOf r with
    | none => rw [e] at h; cases h
    | some m => rw [e] at h; cases h; rw [intsOf_eq e]; rfl
  | .non :: _, _, h | .bl _ :: _, _, h | .str _ :: _, _, h | .lst _ :: _, _, h | .tup _ :: _, _, h | .dct _ _ :: _, _, h | .dcT _ _ :: _, _, h | .obj _ _ _ :: _, _, h | .scr _ :: _, _, h => by simp [intsOf] at h
section
variable {cl : Cl} {H : Hp} {S : Addr → Prop}
theorem Reps.ints : ∀ {ns : List Int} {vs : List V}, Reps cl H S (ns.map D.int) vs → vs = ns.map V.int
  | [], vs, h => by simpa [Reps] using h
  | n :: r, vs, h => by
    simp only [List.map_cons, Reps, Rep] at h
    obtain ⟨v, r', rfl, rfl, h2⟩ := h
    rw [Reps.ints h2]; rfl
theorem Reps.of {ds : List D} {vs : List V} {ns : List Int} (e : intsOf ds = some ns) (h : Reps cl H S ds vs) : vs = ns.map V.int := by
  rw [intsOf_eq e] at h; exact h.ints
end
def blsOf : List D → Option (List Bool)
  | [] => some []
  | .bl i :: r => (blsOf r).map (i :: ·)
  | _ :: _ => none
theorem blsOf_map (ns : List Bool) : blsOf (ns.map D.bl) = some ns := by
  induction ns with
  | nil => rfl
  | cons n r ih => simp [blsOf, ih]
theorem Reps.bls {cl : Cl} {H : Hp} {S : Addr → Prop} : ∀ {ds : List D} {vs : List V} {ns : List Bool}, blsOf ds = some ns → Reps cl H S ds vs → vs = ns.map V.bl
  | [], vs, ns, e, h => by cases e; simpa [Reps] using h
  | .bl i :: r, vs, ns, e, h => by
    simp only [blsOf] at e
    cases q : blsOf r with
    | none => rw [q] at e; cases e
    | some m =>
      rw [q] at e; cases e
      simp only [Reps, Rep] at h
      obtain ⟨v, r', rfl, rfl, h2⟩ := h
      rw [Reps.bls q h2]; rfl
  | .non :: _, _, _, h, _ | .int _ :: _, _, _, h, _ | .str _ :: _, _, _, h, _ | .lst _ :: _, _, _, h, _ | .tup _ :: _, _, _, h, _ | .dct _ _ :: _, _, _, h, _ | .dcT _ _ :: _, _, _, h, _ | .obj _ _ _ :: _, _, _, h, _ | .scr _ :: _, _, _, h, _ => by simp [blsOf] at h
mutual
def D.py : D → Option PyData
  | .non => some .none
  | .bl b => some (.bool b)
  | .int i => some (.int i)
  | .str x => some (.str x)
  | .lst xs => (D.pys xs).map .list
  | .tup xs => (D.pys xs).map .tuple
  | _ => none
def D.pys : List D → Option (List PyData)
  | [] => some []
  | d :: ds => match d.py, D.pys ds with
    | some p, some ps => some (p :: ps)
    | _, _ => none
end
section
variable {cl : Cl} {K : PySem.W.Frag} {H : Hp} {S : Addr → Prop}
mutual
theorem Rep.dp : ∀ {d : D} {v : V} {p : PyData}, Rep cl H S d v → d.py = some p → Dp K H v p
  | .non, v, p, h, e => by simp only [Rep] at h; simp only [D.py] at e; cases e; subst h; exact .non
  | .bl _, v, p, h, e => by simp only [Rep] at h; simp only [D.py] at e; cases e; subst h; exact .bl _
  | .int _, v, p, h, e => by simp only [Rep] at h; simp only [D.py] at e; cases e; subst h; exact .int _
  | .str _, v, p, h, e => by simp only [Rep] at h; simp only [D.py] at e; cases e; subst h; exact .str _
  | .lst xs, v, p, h, e => by
    simp only [Rep] at h
    simp only [D.py, Option.map_eq_some_iff] at e
    obtain ⟨ps, e, rfl⟩ := e
    obtain ⟨a, vs, rfl, _, r, q⟩ := h
    exact .lst (SqL.of r) (Reps.dp q e)
  | .tup xs, v, p, h, e => by
    simp only [Rep] at h
    simp only [D.py, Option.map_eq_some_iff] at e
    obtain ⟨ps, e, rfl⟩ := e
    obtain ⟨a, vs, rfl, r, q⟩ := h
    exact .tup (SqT.of r) (Reps.dp q e)
  | .dct _ _, v, p, h, e => by simp [D.py] at e
  | .dcT _ _, v, p, h, e => by simp [D.py] at e
  | .obj _ _ _, v, p, h, e => by simp [D.py] at e
  | .scr _, v, p, h, e => by simp [D.py] at e
theorem Reps.dp : ∀ {ds : List D} {vs : List V} {ps : List PyData}, Reps cl H S ds vs → D.pys ds = some ps → DpAll K H vs ps
  | [], vs, ps, h, e => by simp only [Reps] at h; simp only [D.pys] at e; cases e; subst h; exact .nil
  | d :: ds, vs, ps, h, e => by
    simp only [Reps] at h
    obtain ⟨v, r, rfl, h1, h2⟩ := h
    simp only [D.pys] at e
    split at e
    · rename_i p ps' e1 e2
      cases e
      exact .cons (Rep.dp h1 e1) (Reps.dp h2 e2)
    · cases e
end
end
def eqD (x y : D) : Option Bool := match x.py, y.py with
  | some p, some q => if SeqAt.shaped p && SeqAt.shaped q then some (PyData.eqv p q) else none
  | _, _ => none
def gEq (o1 o2 : O) : R O := match eqD o1.er o2.er with
  | some b => .ok (.lf .fz (.bl b))
  | none => .no
def gNe (o1 o2 : O) : R O := match eqD o1.er o2.er with
  | some b => .ok (.lf .fz (.bl (!b)))
  | none => .no
section
variable {X : Cx} {a b c : Expr} {es : List Expr} {ma mb mc : DEnv → R O} {mA : DEnv → R (List O)} {pos p : Pos} {x : Str}
theorem o_eqD : Op2 X (rEqD X.K) gEq := by
  intro w W σ H0 H o1 o2 x y F1 F2 Q hc s p1 p2 dj f1 f2 h
  unfold gEq eqD at h
  split at h
  · rename_i r e
    split at e
    · rename_i p q e1 e2
      split at e
      · rename_i hs
        cases e
        rw [Bool.and_eq_true] at hs
        exact ⟨p, q, Rep.dp (RepO.at p1) e1, Rep.dp (RepO.at p2) e2, hs.1, hs.2, out_bl h⟩
      · cases e
    · cases e
  · exact h.elim
theorem o_neD : Op2 X (rNeD X.K) gNe := by
  intro w W σ H0 H o1 o2 x y F1 F2 Q hc s p1 p2 dj f1 f2 h
  unfold gNe eqD at h
  split at h
  · rename_i r e
    split at e
    · rename_i p q e1 e2
      split at e
      · rename_i hs
        cases e
        rw [Bool.and_eq_true] at hs
        exact ⟨p, q, Rep.dp (RepO.at p1) e1, Rep.dp (RepO.at p2) e2, hs.1, hs.2, out_bl h⟩
      · cases e
    · cases e
  · exact h.elim
abbrev Hu (X : Cx) : Prop := X.A.units + 64 < cLine
theorem ve_eq (hu : Hu X) (ha : VE X a ma) (hb : VE X b mb) : VE X (.Compare a [.Eq] [b] pos) (e2 gEq ma mb) := ve_cmp (op_eqD hu) o_eqD ha hb (nomark _)
theorem vt_eq (hu : Hu X) (ha : VE X a ma) (hb : VE X b mb) : VT X (.Compare a [.Eq] [b] pos) (tOfE (e2 gEq ma mb)) := vt_cmp (op_eqD hu) o_eqD ha hb (nomark _)
theorem vt_ne (hu : Hu X) (ha : VE X a ma) (hb : VE X b mb) : VT X (.Compare a [.NotEq] [b] pos) (tOfE (e2 gNe ma mb)) := vt_cmp (op_neD hu) o_neD ha hb (nomark _)
def gInt (o : O) : R O := match o.er with
  | .int i => .ok (.lf .fz (.int i))
  | .bl b => .ok (.lf .fz (.int (if b then 1 else 0)))
  | _ => .no
theorem ve_int1 {q : Pos} (hm : X.mg "int" = none) (ha : VE X a ma) (hg : Gl X "int" := by rfl) (hst : starEach [a] X.env = (false, eval a X.env) :: starEach [] X.env := by rfl) : VE X (.Call (.Name "int" q) [a] [] pos) (eN (f1 gInt) (aCons ma aNil)) :=
  ve_callTy call_int1 (opN_1 fun w W σ H0 H o v F Q hc s p f h => by
    have z := RepO.at p
    unfold gInt at h
    split at h
    · rename_i i e; rw [e] at z; exact .inl ⟨i, by rw [show v = _ from z], out_int h⟩
    · rename_i i e; rw [e] at z; exact .inr ⟨i, by rw [show v = _ from z], out_int h⟩
    · exact h.elim) hm (by decide +kernel) (va_cons ha va_nil hst) hg (by decide) (by decide) hst
def gAbs (o : O) : R O := match o.er with
  | .int i => .ok (.lf .fz (.int (if i < 0 then -i else i)))
  | _ => .no
theorem ve_abs {q : Pos} (hm : X.mg "abs" = none) (ha : VE X a ma) (hg : Gl X "abs" := by rfl) (hst : starEach [a] X.env = (false, eval a X.env) :: starEach [] X.env := by rfl) : VE X (.Call (.Name "abs" q) [a] [] pos) (eN (f1 gAbs) (aCons ma aNil)) :=
  ve_callB call_abs (opN_1 fun w W σ H0 H o v F Q hc s p f h => by
    have z := RepO.at p
    unfold gAbs at h
    split at h
    · rename_i i e; rw [e] at z; exact ⟨i, by rw [show v = _ from z], out_int h⟩
    · exact h.elim) hm (by decide +kernel) (va_cons ha va_nil hst) hg (by decide) (by decide) hst
def listInts : D → Option (List Int)
  | .lst ds => intsOf ds
  | _ => none
theorem listInts_rep {cl : Cl} {K : PySem.W.Frag} {H : Hp} {S : Addr → Prop} {d : D} {v : V} {ns : List Int} (h : Rep cl H S d v) (e : listInts d = some ns) : ∃ a, v = .ref a ∧ SqL K H a (ns.map V.int) := by
  unfold listInts at e
  split at e
  · simp only [Rep] at h
    obtain ⟨a, vs, rfl, _, r, q⟩ := h
    rw [Reps.of e q] at r
    exact ⟨a, rfl, SqL.of r⟩
  · cases e
def gSum (o : O) : R O := match listInts o.er with
  | some ns => .ok (.lf .fz (.int ns.sum))
  | none => .no
theorem ve_sum {q : Pos} (hk : X.calm = true) (hm : X.mg "sum" = none) (ha : VE X a ma) (hg : Gl X "sum" := by rfl) (hst : starEach [a] X.env = (false, eval a X.env) :: starEach [] X.env := by rfl) : VE X (.Call (.Name "sum" q) [a] [] pos) (eN (f1 gSum) (aCons ma aNil)) :=
  ve_callB (cr_sum hk) (opN_1 fun w W σ H0 H o v F Q hc s p f h => by
    unfold gSum at h
    split at h
    · rename_i ns e
      obtain ⟨a, rfl, r⟩ := listInts_rep (K := X.K) (RepO.at p) e
      exact ⟨a, ns, rfl, r, out_int h⟩
    · exact h.elim) hm (by decide +kernel) (va_cons ha va_nil hst) hg (by decide) (by decide) hst
def maxI : List Int → Int
  | [] => 0
  | n :: r => r.foldl max n
def minI : List Int → Int
  | [] => 0
  | n :: r => r.foldl min n
def gMax (o : O) : R O := match listInts o.er with
  | some (n :: r) => .ok (.lf .fz (.int (maxI (n :: r))))
  | _ => .no
def gMin (o : O) : R O := match listInts o.er with
  | some (n :: r) => .ok (.lf .fz (.int (minI (n :: r))))
  | _ => .no
def gMax2 (o1 o2 : O) : R O := opI (fun i j => .int (max i j)) cT o1 o2
def gMin2 (o1 o2 : O) : R O := opI (fun i j => .int (min i j)) cT o1 o2
def gMaxD (o d : O) : R O := match listInts o.er, d.er with
  | some ns, .int d => .ok (.lf .fz (.int (if ns.isEmpty then d else maxI ns)))
  | _, _ => .no
def gList (o : O) : R O := match elems o with
  | some os => .ok (.lst os)
  | none => .no
def gTuple (o : O) : R O := match elems o with
  | some os => .ok (.tup os)
  | none => .no
theorem ve_list {q : Pos} (hm : X.mg "list" = none) (ha : VE X a ma) (hg : Gl X "list" := by rfl) (hst : starEach [a] X.env = (false, eval a X.env) :: starEach [] X.env := by rfl) : VE X (.Call (.Name "list" q) [a] [] pos) (eN (f1 gList) (aCons ma aNil)) :=
  ve_callTy call_list_of (opN_1 fun w W σ H0 H o v F Q hc s p f h => by
    unfold gList at h
    split at h
    · rename_i os e
      obtain ⟨a, vs, rfl, hk, q⟩ := elems_rep e p
      refine ⟨a, vs, rfl, hk.elim (fun z => .inl (SqL.of z.2)) (fun z => .inr (SqT.of z.2.2)), fun l nl => new_lst s q f h nl⟩
    · exact h.elim) hm (by decide +kernel) (va_cons ha va_nil hst) hg (by decide) (by decide) hst
def allB (o : O) : R O := match o.er with
  | .lst ds => (match blsOf ds with
    | some bs => .ok (.lf .fz (.bl (bs.all id)))
    | none => .no)
  | _ => .no
theorem ve_all {q : Pos} (hk : X.calm = true) (hm : X.mg "all" = none) (ha : VE X a ma) (hg : Gl X "all" := by rfl) (hst : starEach [a] X.env = (false, eval a X.env) :: starEach [] X.env := by rfl) : VE X (.Call (.Name "all" q) [a] [] pos) (eN (f1 allB) (aCons ma aNil)) :=
  ve_callB (cr_all hk) (opN_1 fun w W σ H0 H o v F Q hc s p f h => by
    have z := RepO.at p
    unfold allB at h
    split at h
    · rename_i ds e
      rw [e] at z
      simp only [Rep] at z
      obtain ⟨a, vs, rfl, _, r, q⟩ := z
      split at h
      · rename_i bs e2
        rw [Reps.bls e2 q] at r
        exact ⟨a, bs, rfl, SqL.of r, out_bl h⟩
      · exact h.elim
    · exact h.elim) hm (by decide +kernel) (va_cons ha va_nil hst) hg (by decide) (by decide) hst
def tyD : D → Option String
  | .non => some "NoneType"
  | .bl _ => some "bool"
  | .int _ => some "int"
  | .str _ => some "str"
  | .lst _ => some "list"
  | .tup _ => some "tuple"
  | .dct _ _ => some "dict"
  | _ => none
def isTy (t T : String) : Bool := t == T || (t == "bool" && T == "int")
def gIsi (T : String) (o : O) : R O := match tyD o.er with
  | some t => .ok (.lf .fz (.bl (isTy t T)))
  | none => .no
theorem ty_rep {cl : Cl} {K : PySem.W.Frag} {H : Hp} {S : Addr → Prop} {d : D} {v : V} {t : String} (h : Rep cl H S d v) (e : tyD d = some t) : TyX K H v (.type t) := by
  unfold tyD at e
  split at e
  · cases e; simp only [Rep] at h; subst h; exact .base .non
  · cases e; simp only [Rep] at h; subst h; exact .base (.bl _)
  · cases e; simp only [Rep] at h; subst h; exact .base (.int _)
  · cases e; simp only [Rep] at h; subst h; exact .base (.str _)
  · cases e; simp only [Rep] at h; obtain ⟨a, vs, rfl, _, r, q⟩ := h; exact .base (.lst r)
  · cases e; simp only [Rep] at h; obtain ⟨a, vs, rfl, r, q⟩ := h; exact .base (.tup r)
  · cases e; simp only [Rep] at h
    obtain ⟨a, vs, rfl, _, r, _, q⟩ := h
    rcases r with r | ⟨o, r⟩
    · exact .base (.dK r)
    · exact .fDict r
  · cases e
theorem isTy_kit : ∀ t ∈ ["NoneType", "bool", "int", "str", "list", "tuple", "dict"], ∀ T ∈ ["bool", "int", "str", "list", "tuple", "dict"], kitB t T = some (isTy t T) := by
  decide +kernel
theorem tyD_mem {d : D} {t : String} (e : tyD d = some t) : t ∈ ["NoneType", "bool", "int", "str", "list", "tuple", "dict"] := by
  unfold tyD at e
  split at e <;> first | (cases e; decide) | cases e
theorem ve_isi {q q2 : Pos} {x : Str} (T : String) (hm : X.mg "isinstance" = none) (hx : X.mg x = none) (hv : bootBuiltins x = some (.type T)) (ha : VE X a ma) (hT : T ∈ ["bool", "int", "str", "list", "tuple", "dict"] := by decide) (hgx : Gl X x := by rfl) (hnx : x ≠ "__name__" := by decide) (hdx : (x == ("__debug__" : Str)) = false := by decide) (hg : Gl X "isinstance" := by rfl)
    (hst : starEach [a, .Name x q2] X.env = (false, eval a X.env) :: starEach [.Name x q2] X.env := by rfl) : VE X (.Call (.Name "isinstance" q) [a, .Name x q2] [] pos) (e1 (gIsi T) ma) := fun W tk w hc =>
  (pe_callB call_isi hg hm (by decide +kernel) (pa_cons (ha W tk w hc) (pa_cons (pe_bltn (v := .ty T) hgx hx hv rfl hnx hdx) pa_nil rfl) hst) (by decide) (by decide) hst).imp fun σ H Q h => by
    obtain ⟨env, G, h⟩ := rE_to h
    refine rE_of G (Out.bind (Same.refl H) h fun o1 v H1 F1 _ s1 p1 f1 h1 => ?_)
    unfold gIsi at h1
    split at h1
    · rename_i t e
      exact ⟨v, .ty T, .type t, .type T, _, rfl, .ty T, ty_rep (RepO.at p1) e, kit_ty (isTy_kit t (tyD_mem e) T hT), out_bl h1⟩
    · exact h1.elim
end
end VL
namespace VL
open PySem PySem.Spec PyProof.Rows L2
abbrev VEnv := List (Option O)
structure Fm where
  cl : Cl
  H0 : Hp
  F0 : Addr → Prop
  Z0 : Addr → Prop
  B : Addr → Prop
  pin : List (Nat × V)
def Fm.w (f : Fm) (Z : Addr → Prop) : Wd := ⟨f.cl, Z, f.B, fun _ => False⟩
def ThT (f : Fm) (H : Hp) : Prop := (∀ a, f.H0 a ≠ none → H a ≠ none) ∧ ∀ P q, f.cl.b.tb P q → TabAt H P q
theorem ThT.same {f : Fm} {H H' : Hp} (s : Same H H') (h : ThT f H) : ThT f H' := ⟨fun a n z => h.1 a n (s.free z), fun P q t => s.tab (h.2 P q t)⟩
structure GoodAt (f : Fm) (Z : Addr → Prop) (Fs : Nat → Addr → Prop) (env : VEnv) (σ : L2.St) (H : Hp) : Prop where
  rep : ∀ (i : Nat) (o : O), env[i]? = some (some o) → ∃ v, σ[i]? = some (some v) ∧ RepO (f.w Z) H o v (Fs i)
  dis : ∀ i j a, i ≠ j → Fs i a → ¬ Fs j a
  own : ∀ i a, Fs i a → ¬ Z a ∧ ¬ f.B a ∧ NT (H a)
  zal : ∀ a, Z a → H a ≠ none
  bal : ∀ a, f.B a → H a ≠ none
  keep : ∀ a u, f.H0 a = some u → ¬ f.F0 a → Kp f.H0 H a u
  there : ThT f H
  fnew : ∀ i a, Fs i a → f.F0 a ∨ f.H0 a = none
  znew : ∀ a, Z a → f.Z0 a ∨ f.F0 a ∨ f.H0 a = none
  zold : ∀ a, f.Z0 a → Z a
  pin : ∀ p ∈ f.pin, σ[p.1]? = some (some p.2)
  len : σ.length = env.length
def Good (f : Fm) (env : VEnv) (σ : L2.St) (H : Hp) : Prop := ∃ Z Fs, GoodAt f Z Fs env σ H
def Extra (f : Fm) (Z : Addr → Prop) (Fs : Nat → Addr → Prop) (H : Hp) (F : Addr → Prop) : Prop := ∀ a, F a → ¬ Z a ∧ ¬ f.B a ∧ NT (H a) ∧ (f.F0 a ∨ f.H0 a = none) ∧ ∀ i, ¬ Fs i a
def GoodV (f : Fm) (env : VEnv) (o : O) (v : V) (σ : L2.St) (H : Hp) : Prop := ∃ Z Fs F, GoodAt f Z Fs env σ H ∧ RepO (f.w Z) H o v F ∧ Extra f Z Fs H F
def GoodX (f : Fm) (env : VEnv) (x : Exn) (cls : Value) (d : Option Addr) (σ : L2.St) (H : Hp) : Prop := ∃ Z Fs F, GoodAt f Z Fs env σ H ∧ RepX (f.w Z) H x cls d F ∧ Extra f Z Fs H F
def isTb : Kd → Bool
  | .tb => true
  | _ => false
def notFz : Kd → Bool
  | .fz => false
  | _ => true
def lend : Option O → Option O
  | none => none
  | some (.lf k d) => some (.lf k d)
  | some (.xn C fs ds) => some (.xn C fs ds)
  | some (.xo C _ _) => some (.xn C [] [])
  | some o => some (.lf .tb o.er)
def dl (env : VEnv) : DEnv := env.map lend
def tw (f : Fm) (Z : Addr → Prop) (Fs : Nat → Addr → Prop) : Wd := ⟨f.cl, Z, f.B, fun a => Z a ∨ f.B a ∨ ∃ i, Fs i a⟩
section
variable {f : Fm} {Z : Addr → Prop} {Fs : Nat → Addr → Prop} {env : VEnv} {σ : L2.St} {H H' : Hp}
theorem dl_get {i : Nat} {o' : O} (h : (dl env)[i]? = some (some o')) : ∃ o, env[i]? = some (some o) ∧ ((∃ k d, o = .lf k d ∧ o' = .lf k d) ∨ (∃ C fs ds, o = .xn C fs ds ∧ o' = .xn C fs ds) ∨ (∃ C fs xs, o = .xo C fs xs ∧ o' = .xn C [] []) ∨ o' = .lf .tb o.er) := by
  unfold dl at h
  rw [List.getElem?_map] at h
  cases e : env[i]? with
  | none => rw [e] at h; cases h
  | some q =>
    rw [e] at h
    cases q with
    | none => cases h
    | some o =>
      refine ⟨o, rfl, ?_⟩
      have h' : lend (some o) = some o' := Option.some.inj h
      cases o <;> simp only [lend, Option.some.injEq] at h'
      case lf k d => exact .inl ⟨k, d, rfl, h'.symm⟩
      case xn C fs ds => exact .inr (.inl ⟨C, fs, ds, rfl, h'.symm⟩)
      case xo C fs xs => exact .inr (.inr (.inl ⟨C, fs, xs, rfl, h'.symm⟩))
      all_goals exact .inr (.inr (.inr h'.symm))
theorem GoodAt.goodE (g : GoodAt f Z Fs env σ H) : GoodE (tw f Z Fs) (dl env) σ H := by
  refine ⟨fun i o' e => ?_, fun a z => .inl z, fun a z => .inr (.inl z), ⟨fun a t => ?_, g.there.2⟩, by unfold dl; rw [List.length_map]; exact g.len⟩
  · obtain ⟨o, eo, h⟩ := dl_get e
    obtain ⟨v, ev, r⟩ := g.rep i o eo
    refine ⟨v, ev, ?_⟩
    rcases h with ⟨k, d, rfl, rfl⟩ | ⟨C, fs, ds, rfl, rfl⟩ | ⟨C, fs, xs, rfl, rfl⟩ | rfl
    · simp only [RepO] at r ⊢
      refine Rep.keep (KeepS.same (Same.refl _) ?_) r
      cases k with
      | fz => exact fun _ z => z
      | bo => exact fun _ z => z
      | tb => exact fun _ z => z.elim
    · simp only [RepO] at r ⊢
      obtain ⟨a, Ca, d, e1, x1, c1, h⟩ := r
      rcases h with h | h | ⟨f1, f2, dd, kvs, e3, z, q⟩
      · exact ⟨a, Ca, d, e1, x1, c1, .inl h⟩
      · exact ⟨a, Ca, d, e1, x1, c1, .inr (.inl h)⟩
      · exact z.elim
    · simp only [RepO] at r ⊢
      obtain ⟨a, Ca, dd, kvs, G, e1, x1, c1, q, e2, fa, ga, sg, rr⟩ := r
      exact ⟨a, Ca, some dd, e1, x1, c1, .inr (.inr ⟨rfl, rfl, dd, kvs, rfl, .inr (.inr ⟨i, fa⟩), q⟩)⟩
    · simp only [RepO]
      refine RepO.toRep (w := f.w Z) (p := fun _ => false) (fun x _ => ?_) (O.no_none o) (fun a z => .inr (.inr ⟨i, z⟩)) r
      cases x with
      | fz => exact fun _ z => .inl z
      | bo => exact fun _ z => .inr (.inl z)
      | tb => exact fun _ z => z.elim
  · rcases t with t | t | ⟨i, t⟩
    · exact g.zal a t
    · exact g.bal a t
    · exact (g.own i a t).2.2.ne
theorem keepW (s : Same H H') : ∀ x, isTb x = false → KeepS H H' ((tw f Z Fs).S x) ((f.w Z).S x) := fun x e => by
  cases x with
  | fz => exact KeepS.same s fun _ z => z
  | bo => exact KeepS.same s fun _ z => z
  | tb => cases e
theorem RepO.unlend {o : O} {v : V} {F : Addr → Prop} (n : o.no isTb = true) (h : RepO (tw f Z Fs) H o v F) : RepO (f.w Z) H o v F :=
  RepO.keep (w := tw f Z Fs) (w' := f.w Z) (p := isTb) rfl (keepW (Same.refl H)) (fun _ _ e => e) n (fun _ _ _ e _ => e) h
theorem RepX.unlend {x : Exn} {cls : Value} {d : Option Addr} {F : Addr → Prop} (n : O.nos isTb x.xs = true) (h : RepX (tw f Z Fs) H x cls d F) : RepX (f.w Z) H x cls d F := by
  obtain ⟨Ca, c, e, h⟩ := h
  refine ⟨Ca, c, e, ?_⟩
  rcases h with h | ⟨a, kvs, G, e1, e2, e3, fa, ga, sg, r⟩
  · exact .inl h
  · exact .inr ⟨a, kvs, G, e1, e2, e3, fa, ga, sg, RepOs.keep (w := tw f Z Fs) (w' := f.w Z) (p := isTb) rfl (keepW (Same.refl H)) (fun _ _ e => e) n (fun _ _ _ e _ => e) r⟩
theorem GoodAt.same (s : Same H H') (g : GoodAt f Z Fs env σ H) : GoodAt f Z Fs env σ H' :=
  ⟨fun i o e => let ⟨v, ev, r⟩ := g.rep i o e; ⟨v, ev, RepO.same s r⟩, g.dis, fun i a h => ⟨(g.own i a h).1, (g.own i a h).2.1, (g.own i a h).2.2.same s⟩, fun a z q => g.zal a z (s.free q), fun a z q => g.bal a z (s.free q),
    fun a u e n => (g.keep a u e n).trans s, g.there.same s, g.fnew, g.znew, g.zold, g.pin, g.len⟩
theorem GoodAt.fresh (g : GoodAt f Z Fs env σ H) {F : Addr → Prop} (fr : Fresh H H' F) : Extra f Z Fs H' F := fun a z =>
  ⟨fun q => g.zal a q (fr a z).1, fun q => g.bal a q (fr a z).1, (fr a z).2, .inr (by
    cases e : f.H0 a with
    | none => rfl
    | some u => exact absurd (fr a z).1 (g.there.1 a (by rw [e]; exact fun q => nomatch q))), fun i q => (g.own i a q).2.2.ne (fr a z).1⟩
theorem GoodAt.set {o : O} {v : V} {F : Addr → Prop} {i : Nat} (g : GoodAt f Z Fs env σ H) (r : RepO (f.w Z) H o v F) (x : Extra f Z Fs H F) (hi : i < env.length) (hp : ∀ p ∈ f.pin, p.1 ≠ i) :
    GoodAt f Z (fun j a => if j = i then F a else Fs j a) (env.set i (some o)) (σ.set i (some v)) H := by
  refine ⟨fun j p e => ?_, fun j k a n h h' => ?_, fun j a h => ?_, g.zal, g.bal, g.keep, g.there, fun j a h => ?_, g.znew, g.zold, fun p m => ?_, by simpa using g.len⟩
  · by_cases hj : j = i
    · subst hj
      rw [List.getElem?_set_self'] at e
      cases q : env[j]? with
      | none => rw [q] at e; cases e
      | some q' =>
        rw [q] at e
        cases e
        exact ⟨v, List.getElem?_set_self (by rw [g.len]; exact hi), by simpa using r⟩
    · rw [List.getElem?_set_ne (Ne.symm hj)] at e
      obtain ⟨v', ev, r'⟩ := g.rep j p e
      exact ⟨v', by rw [List.getElem?_set_ne (Ne.symm hj)]; exact ev, by simpa [hj] using r'⟩
  · replace h : if j = i then F a else Fs j a := h
    replace h' : if k = i then F a else Fs k a := h'
    split at h <;> split at h'
    · rename_i e e'; exact n (e.trans e'.symm)
    · exact (x a h).2.2.2.2 k h'
    · exact (x a h').2.2.2.2 j h
    · exact g.dis j k a n h h'
  · replace h : if j = i then F a else Fs j a := h
    split at h
    · exact ⟨(x a h).1, (x a h).2.1, (x a h).2.2.1⟩
    · exact g.own j a h
  · replace h : if j = i then F a else Fs j a := h
    split at h
    · exact (x a h).2.2.2.1
    · exact g.fnew j a h
  · rw [List.getElem?_set_ne (Ne.symm (hp p m))]
    exact g.pin p m
theorem GoodAt.forget {i : Nat} (g : GoodAt f Z Fs env σ H) : GoodAt f Z (fun j a => if j = i then False else Fs j a) (env.set i none) σ H := by
  refine ⟨fun j p e => ?_, fun j k a n h h' => ?_, fun j a h => ?_, g.zal, g.bal, g.keep, g.there, fun j a h => ?_, g.znew, g.zold, g.pin, by simpa using g.len⟩
  · by_cases hj : j = i
    · subst hj
      rw [List.getElem?_set_self'] at e
      cases q : env[j]? with
      | none => rw [q] at e; cases e
      | some q' => rw [q] at e; cases e
    · rw [List.getElem?_set_ne (Ne.symm hj)] at e
      obtain ⟨v', ev, r'⟩ := g.rep j p e
      exact ⟨v', ev, by simpa [hj] using r'⟩
  · replace h : if j = i then False else Fs j a := h
    replace h' : if k = i then False else Fs k a := h'
    split at h
    · exact h
    · split at h'
      · exact h'
      · exact g.dis j k a n h h'
  · replace h : if j = i then False else Fs j a := h
    split at h
    · exact h.elim
    · exact g.own j a h
  · replace h : if j = i then False else Fs j a := h
    split at h
    · exact h.elim
    · exact g.fnew j a h
end
inductive RX (α : Type) where
  | ok (a : α) (env : VEnv) | ex (x : Exn) (env : VEnv) | no
inductive Ct where
  | next | brk | cont | ret (o : O)
abbrev RS := RX Ct
def RX.bind {α β : Type} (r : RX α) (k : α → VEnv → RX β) : RX β := match r with
  | .ok a e => k a e
  | .ex x e => .ex x e
  | .no => .no
def rX (f : Fm) (W : WX) (m : VEnv → RX O) : TE := fun σ H Q => ∃ env, Good f env σ H ∧ match m env with
  | .ok o env' => ∀ v H', GoodV f env' o v σ H' → Q v H'
  | .ex x env' => ∀ cls d H', GoodX f env' x cls d σ H' → W cls d σ H'
  | .no => False
def rS (f : Fm) (W : WX) (m : VEnv → RS) : TS := fun D σ H => ∃ env, Good f env σ H ∧ match m env with
  | .ok .next env' => ∀ σ' H', Good f env' σ' H' → D.nx σ' H'
  | .ok .brk env' => ∀ σ' H', Good f env' σ' H' → D.bk σ' H'
  | .ok .cont env' => ∀ σ' H', Good f env' σ' H' → D.ct σ' H'
  | .ok (.ret o) env' => ∀ v σ' H', GoodV f env' o v σ' H' → D.rt v H'
  | .ex x env' => ∀ cls d σ' H', GoodX f env' x cls d σ' H' → W cls d σ' H'
  | .no => False
def FOk (X : Cx) (P : List Nat) (f : Fm) : Prop := ClOk X f.cl ∧ f.pin.map (·.1) = P
def VX (X : Cx) (P : List Nat) (e : Expr) (m : VEnv → RX O) : Prop := ∀ (W : WX), Takes X W → ∀ f : Fm, FOk X P f → PE X e (rX f W m)
def VS (X : Cx) (P : List Nat) (st : Stmt) (m : VEnv → RS) : Prop := ∀ (W : WX), Takes X W → ∀ f : Fm, FOk X P f → PS X st (rS f W m)
def VB (X : Cx) (P : List Nat) (st : List Stmt) (m : VEnv → RS) : Prop := ∀ (W : WX), Takes X W → ∀ f : Fm, FOk X P f → PSs X st (rS f W m)
section
variable {X : Cx} {P : List Nat} {e : Expr} {st : Stmt} {sts : List Stmt} {m m1 m2 : VEnv → RS} {me : DEnv → R O} {mx : VEnv → RX O} {pos : Pos}
def SOut (f : Fm) (W : WX) (D : Ends) (r : RS) : Prop := match r with
  | .ok .next env' => ∀ σ' H', Good f env' σ' H' → D.nx σ' H'
  | .ok .brk env' => ∀ σ' H', Good f env' σ' H' → D.bk σ' H'
  | .ok .cont env' => ∀ σ' H', Good f env' σ' H' → D.ct σ' H'
  | .ok (.ret o) env' => ∀ v σ' H', GoodV f env' o v σ' H' → D.rt v H'
  | .ex x env' => ∀ cls d σ' H', GoodX f env' x cls d σ' H' → W cls d σ' H'
  | .no => False
theorem rS_of {f : Fm} {W : WX} {env : VEnv} {σ : L2.St} {H : Hp} {D : Ends} (g : Good f env σ H) (h : SOut f W D (m env)) : rS f W m D σ H := ⟨env, g, h⟩
theorem rS_to {f : Fm} {W : WX} {σ : L2.St} {H : Hp} {D : Ends} (h : rS f W m D σ H) : ∃ env, Good f env σ H ∧ SOut f W D (m env) := h
def EOut (f : Fm) (W : WX) (σ : L2.St) (r : RX O) (Q : VK) : Prop := match r with
  | .ok o env' => ∀ v H', GoodV f env' o v σ H' → Q v H'
  | .ex x env' => ∀ cls d H', GoodX f env' x cls d σ H' → W cls d σ H'
  | .no => False
theorem rX_of {f : Fm} {W : WX} {env : VEnv} {σ : L2.St} {H : Hp} {Q : VK} (g : Good f env σ H) (h : EOut f W σ (mx env) Q) : rX f W mx σ H Q := ⟨env, g, h⟩
theorem rX_then {f : Fm} {W : WX} {env : VEnv} {σ : L2.St} {H : Hp} {D : Ends} {Q : VK} {k : O → VEnv → RS} (g : Good f env σ H) (h : SOut f W D ((mx env).bind k)) (c : ∀ o env' v H', GoodV f env' o v σ H' → SOut f W D (k o env') → Q v H') : rX f W mx σ H Q := by
  refine rX_of g ?_
  cases e : mx env with
  | ok o env' => rw [e] at h; exact fun v H' gv => c o env' v H' gv h
  | ex x env' => rw [e] at h; exact fun cls d H' gx => h cls d σ H' gx
  | no => rw [e] at h; exact h
def pur (me : DEnv → R O) : VEnv → RX O := fun env => match me (dl env) with
  | .ok o => if o.no isTb then .ok o env else .no
  | .ex x => if O.nos isTb x.xs then .ex x env else .no
  | .no => .no
theorem vx (he : VE X e me) : VX X P e (pur me) := fun W tk f hf => ⟨fun pins s σ H Q I h => by
  obtain ⟨env, ⟨Z, Fs, g⟩, h⟩ := h
  replace h : EOut f W σ (pur me env) Q := h
  refine (he W tk (tw f Z Fs) hf.1).run pins s σ H Q I (rE_of g.goodE ?_)
  unfold pur at h
  cases e : me (dl env) with
  | ok o =>
    rw [e] at h
    replace h : EOut f W σ (if o.no isTb then .ok o env else .no) Q := h
    by_cases n : o.no isTb = true
    · rw [if_pos n] at h
      exact fun v H' F sm r fr => h v H' ⟨Z, Fs, F, g.same sm, RepO.unlend n r, g.fresh fr⟩
    · rw [if_neg n] at h
      exact h.elim
  | ex x =>
    rw [e] at h
    replace h : EOut f W σ (if O.nos isTb x.xs then .ex x env else .no) Q := h
    by_cases n : O.nos isTb x.xs = true
    · rw [if_pos n] at h
      exact fun cls d H' F sm r fr => h cls d H' ⟨Z, Fs, F, g.same sm, RepX.unlend n r, g.fresh fr⟩
    · rw [if_neg n] at h
      exact h.elim
  | no => rw [e] at h; exact h⟩
def mvM (i : Nat) : VEnv → RX O := fun env => match env[i]? with
  | some (some o) => .ok o (env.set i none)
  | _ => .no
theorem vx_move (i : Nat) {x : Str} {pos : Pos} (hN : X.N[i]? = some x := by rfl) (hv : Vis X.env.scope x := by first | exact Or.inl rfl | exact Or.inr (Or.inl rfl) | exact Or.inr (Or.inr rfl)) (hd : (x == ("__debug__" : Str)) = false := by decide)
    (hcd : (x == ("__classdict__" : Str)) = false := by decide) : VX X P (.Name x pos) (mvM i) := fun W tk f hf => (pe_var hN hv hd hcd).imp fun σ H Q h => by
  obtain ⟨env, ⟨Z, Fs, g⟩, h⟩ := h
  unfold mvM at h
  split at h
  · rename_i o env' e
    split at e
    · rename_i o' e'
      cases e
      obtain ⟨v, ev, r⟩ := g.rep i _ e'
      refine ⟨v, ev, h v H ⟨Z, _, Fs i, g.forget (i := i), r, fun a z => ⟨(g.own i a z).1, (g.own i a z).2.1, (g.own i a z).2.2, g.fnew i a z, fun j q => ?_⟩⟩⟩
      replace q : if j = i then False else Fs j a := q
      split at q
      · exact q
      · rename_i n; exact g.dis i j a (fun e => n e.symm) z q
    · cases e
  · rename_i e
    split at e <;> cases e
  · exact h.elim
def sSeq (m1 m2 : VEnv → RS) : VEnv → RS := fun env => (m1 env).bind fun c e => match c with
  | .next => m2 e
  | c => .ok c e
def sNext : VEnv → RS := fun env => .ok .next env
theorem vb_nil : VB X P [] sNext := fun W tk f hf => pss_nil.imp fun D σ H h => by
  obtain ⟨env, g, h⟩ := h
  exact h σ H g
theorem vb_one (h1 : VS X P st m) : VB X P [st] m := fun W tk f hf => pss_one (h1 W tk f hf)
theorem vb_cons (h1 : VS X P st m1) (h2 : VB X P sts m2) : VB X P (st :: sts) (sSeq m1 m2) := fun W tk f hf => (pss_cons (h1 W tk f hf) (h2 W tk f hf)).imp fun D σ H h => by
  obtain ⟨env, g, h⟩ := rS_to h
  refine rS_of g ?_
  unfold sSeq at h
  cases e : m1 env with
  | ok c env' =>
    rw [e] at h
    cases c with
    | next => exact fun σ' H' g' => ⟨env', g', h⟩
    | brk => exact h
    | cont => exact h
    | ret o => exact h
  | ex x env' => rw [e] at h; exact h
  | no => rw [e] at h; exact h
def sSet (i : Nat) (mx : VEnv → RX O) : VEnv → RS := fun env => (mx env).bind fun o e => if i < e.length then .ok .next (e.set i (some o)) else .no
theorem pin_ne {f : Fm} {i : Nat} (hf : f.pin.map (·.1) = P) (hi : P.contains i = false) : ∀ p ∈ f.pin, p.1 ≠ i := fun p m e => by
  have : i ∈ P := by rw [← hf, ← e]; exact List.mem_map_of_mem m
  rw [List.contains_eq_mem, decide_eq_false_iff_not] at hi
  exact hi this
theorem GoodV.set {f : Fm} {env : VEnv} {o : O} {v : V} {σ : L2.St} {H : Hp} {i : Nat} (g : GoodV f env o v σ H) (hi : i < env.length) (hp : ∀ p ∈ f.pin, p.1 ≠ i) : Good f (env.set i (some o)) (σ.set i (some v)) H := by
  obtain ⟨Z, Fs, F, g, r, x⟩ := g
  exact ⟨Z, _, g.set r x hi hp⟩
theorem _root_.L2.PS.len {t : TS} (h : ∀ n, n = X.N.length → PS X st (fun D σ H => σ.length = n ∧ t D σ H)) : PS X st t := ⟨fun pins s σ H D I q => (h _ rfl).run pins s σ H D I ⟨I.len, q⟩⟩
theorem vs_set {i : Nat} {x : Str} {pos' : Pos} (he : VX X P e mx) (hN : X.N.Nodup) (hi : X.N[i]? = some x := by rfl) (hx : Loc X.env.scope x := by first | exact Or.inl rfl | exact Or.inr rfl) (hP : P.contains i = false := by rfl)
    (hs : swapsWith e (some (.Name x pos')) pos.line X.env = pure false := by rfl) (hf : X.fn x = true ∨ X.env.scope.names.lookup x = some .local := by first | exact .inl rfl | exact .inr rfl) : VS X P (.Assign [.Name x pos'] e pos) (sSet i mx) := fun W tk f hfo =>
  (ps_set hN hi hx (he W tk f hfo) hs hf).imp fun D σ H h => by
    obtain ⟨env, g, h⟩ := rS_to h
    refine rX_then g h fun o env' v H' gv h' => ?_
    split at h'
    · rename_i hlt
      exact h' _ H' (gv.set hlt (pin_ne hfo.2 hP))
    · exact h'.elim
def sDrop (mx : VEnv → RX O) : VEnv → RS := fun env => (mx env).bind fun _ e => .ok .next e
theorem vs_expr (he : VX X P e mx) (hs : swapsWith e none pos.line X.env = pure false := by rfl) : VS X P (.Expr e pos) (sDrop mx) := fun W tk f hf => (ps_expr (he W tk f hf) hs).imp fun D σ H h => by
  obtain ⟨env, g, h⟩ := rS_to h
  refine rX_then g h fun o env' v H' gv h' => ?_
  obtain ⟨Z, Fs, F, g, _, _⟩ := gv
  exact h' σ H' ⟨Z, Fs, g⟩
def sRet (mx : VEnv → RX O) : VEnv → RS := fun env => (mx env).bind fun o e => .ok (.ret o) e
theorem vs_ret (he : VX X P e mx) : VS X P (.Return (some e) pos) (sRet mx) := fun W tk f hf => (ps_ret (he W tk f hf)).imp fun D σ H h => by
  obtain ⟨env, g, h⟩ := rS_to h
  exact rX_then g h fun o env' v H' gv h' => h' v σ H' gv
def sRetN : VEnv → RS := fun env => .ok (.ret (.lf .fz .non)) env
def sIf (t : DEnv → R Bool) (m1 m2 : VEnv → RS) : VEnv → RS := fun env => match t (dl env) with
  | .ok b => if b then m1 env else m2 env
  | .ex x => if O.nos isTb x.xs then .ex x env else .no
  | .no => .no
theorem vs_if {c : Expr} {a b : List Stmt} {t : DEnv → R Bool} (hc : VT X c t) (ha : VB X P a m1) (hb : VB X P b m2) : VS X P (.If c a b pos) (sIf t m1 m2) := fun W tk f hf => ⟨fun pins s σ H D I h => by
  obtain ⟨env, ⟨Z, Fs, g⟩, h⟩ := rS_to h
  refine (ps_if (hc W tk (tw f Z Fs) hf.1) (ha W tk f hf) (hb W tk f hf)).run pins s σ H D I (rT_of g.goodE ?_)
  unfold sIf at h
  cases e : t (dl env) with
  | ok r =>
    rw [e] at h
    intro c' H' F sm ec _
    subst ec
    cases c' with
    | true => rw [if_pos rfl]; exact rS_of ⟨Z, Fs, g.same sm⟩ h
    | false => rw [if_neg Bool.false_ne_true]; exact rS_of ⟨Z, Fs, g.same sm⟩ h
  | ex x =>
    rw [e] at h
    simp only at h
    split at h
    · rename_i n
      exact fun cls d H' F sm r fr => h cls d σ H' ⟨Z, Fs, F, g.same sm, RepX.unlend n r, g.fresh fr⟩
    · exact h.elim
  | no => rw [e] at h; exact h⟩
end
end VL
namespace VL
open PySem PySem.Spec PyProof.Rows L2
def Fm.re (f : Fm) (Z' : Addr → Prop) (Fs : Nat → Addr → Prop) (H1 : Hp) : Fm := { f with H0 := H1, F0 := fun a => ∃ i, Fs i a, Z0 := Z' }
def ZUp (Z Z' : Addr → Prop) (H H1 : Hp) : Prop := Sub Z Z' ∧ ∀ a, Z' a → Z a ∨ (H a = none ∧ NT (H1 a))
section
variable {f : Fm} {Z Z' : Addr → Prop} {Fs : Nat → Addr → Prop} {env : VEnv} {σ : L2.St} {H H1 : Hp}
theorem keepZ {w w' : Wd} (s : Same H H1) (hz : Sub w.Z w'.Z) (hb : w'.B = w.B) (ht : w'.T = w.T) : ∀ x : Kd, (fun _ : Kd => false) x = false → KeepS H H1 (w.S x) (w'.S x) := fun x _ => by
  cases x with
  | fz => exact KeepS.same s hz
  | bo => exact KeepS.same s (by show Sub w.B w'.B; rw [hb]; exact fun _ z => z)
  | tb => exact KeepS.same s (by show Sub w.T w'.T; rw [ht]; exact fun _ z => z)
theorem GoodAt.up (s : Same H H1) (z : ZUp Z Z' H H1) (g : GoodAt f Z Fs env σ H) : GoodAt f Z' Fs env σ H1 :=
  ⟨fun i o e => let ⟨v, ev, r⟩ := g.rep i o e; ⟨v, ev, RepO.keep (w := f.w Z) (w' := f.w Z') (p := fun _ => false) rfl (keepZ s z.1 rfl rfl) (fun _ _ e => s _ _ e) (O.no_none o) (fun _ _ _ e n => s.nt n e) r⟩, g.dis,
    fun i a h => ⟨fun q => (z.2 a q).elim (g.own i a h).1 fun n => (g.own i a h).2.2.ne n.1, (g.own i a h).2.1, (g.own i a h).2.2.same s⟩,
    fun a q => (z.2 a q).elim (fun q e => g.zal a q (s.free e)) fun n => n.2.ne, fun a q e => g.bal a q (s.free e), fun a u e n => (g.keep a u e n).trans s, g.there.same s, g.fnew,
    fun a q => (z.2 a q).elim (g.znew a) fun n => .inr (.inr (by
      cases e : f.H0 a with
      | none => rfl
      | some u => exact absurd n.1 (g.there.1 a (by rw [e]; exact fun q => nomatch q)))), fun a q => z.1 a (g.zold a q), g.pin, g.len⟩
theorem GoodAt.re (g : GoodAt f Z Fs env σ H) : GoodAt (f.re Z Fs H) Z Fs env σ H :=
  ⟨g.rep, g.dis, g.own, g.zal, g.bal, fun a u e _ => Same.refl H a u e, ⟨fun _ n => n, g.there.2⟩, fun i a h => .inl ⟨i, h⟩, fun a z => .inl z, fun _ z => z, g.pin, g.len⟩
theorem GoodAt.unre {Z2 : Addr → Prop} {Fs2 : Nat → Addr → Prop} {env2 : VEnv} {σ2 : L2.St} {H2 : Hp} (g : GoodAt f Z Fs env σ H) (h : GoodAt (f.re Z Fs H) Z2 Fs2 env2 σ2 H2) : GoodAt f Z2 Fs2 env2 σ2 H2 := by
  have free : ∀ a, H a = none → f.H0 a = none := fun a n => by
    cases e : f.H0 a with
    | none => rfl
    | some u => exact absurd n (g.there.1 a (by rw [e]; exact fun q => nomatch q))
  have own : ∀ a, (f.re Z Fs H).F0 a → f.F0 a ∨ f.H0 a = none := fun a ⟨i, q⟩ => g.fnew i a q
  refine ⟨h.rep, h.dis, h.own, h.zal, h.bal, fun a u e n => (g.keep a u e n).thn fun o eo => h.keep a o eo fun q => ?_, ⟨fun a n => h.there.1 a (g.there.1 a n), h.there.2⟩, fun i a q => ?_, fun a q => ?_, fun a q => h.zold a (g.zold a q), h.pin, h.len⟩
  · rcases own a q with z | z
    · exact n z
    · rw [e] at z; cases z
  · rcases h.fnew i a q with z | z
    · exact own a z
    · exact .inr (free a z)
  · rcases h.znew a q with z | z | z
    · exact g.znew a z
    · exact .inr (own a z)
    · exact .inr (.inr (free a z))
theorem Good.unre {env2 : VEnv} {σ2 : L2.St} {H2 : Hp} (g : GoodAt f Z Fs env σ H) (h : Good (f.re Z Fs H) env2 σ2 H2) : Good f env2 σ2 H2 := let ⟨Z2, Fs2, h⟩ := h; ⟨Z2, Fs2, g.unre h⟩
theorem Extra.unre {Z2 : Addr → Prop} {Fs2 : Nat → Addr → Prop} {H2 : Hp} {F : Addr → Prop} (g : GoodAt f Z Fs env σ H) (h : Extra (f.re Z Fs H) Z2 Fs2 H2 F) : Extra f Z2 Fs2 H2 F := fun a q => by
  obtain ⟨h1, h2, h3, h4, h5⟩ := h a q
  refine ⟨h1, h2, h3, ?_, h5⟩
  rcases h4 with ⟨i, z⟩ | z
  · exact g.fnew i a z
  · right
    cases e : f.H0 a with
    | none => rfl
    | some u => exact absurd z (g.there.1 a (by rw [e]; exact fun q => nomatch q))
theorem GoodV.unre {env2 : VEnv} {o : O} {v : V} {σ2 : L2.St} {H2 : Hp} (g : GoodAt f Z Fs env σ H) (h : GoodV (f.re Z Fs H) env2 o v σ2 H2) : GoodV f env2 o v σ2 H2 :=
  let ⟨Z2, Fs2, F, h, r, x⟩ := h; ⟨Z2, Fs2, F, g.unre h, r, x.unre g⟩
theorem GoodX.unre {env2 : VEnv} {x : Exn} {c : Value} {d : Option Addr} {σ2 : L2.St} {H2 : Hp} (g : GoodAt f Z Fs env σ H) (h : GoodX (f.re Z Fs H) env2 x c d σ2 H2) : GoodX f env2 x c d σ2 H2 :=
  let ⟨Z2, Fs2, F, h, r, x⟩ := h; ⟨Z2, Fs2, F, g.unre h, r, x.unre g⟩
end
abbrev Asg := VEnv → Option VEnv
def setA (i : Nat) (o : O) : Asg := fun env => if i < env.length then some (env.set i (some o)) else none
def forL (body : VEnv → RS) : List Asg → VEnv → RS
  | [], env => .ok .next env
  | a :: r, env => match a env with
    | none => .no
    | some e => match body e with
      | .ok .next e' => forL body r e'
      | .ok .cont e' => forL body r e'
      | .ok .brk e' => .ok .next e'
      | .ok (.ret o) e' => .ok (.ret o) e'
      | .ex x e' => .ex x e'
      | .no => .no
structure Src (f : Fm) (J : It) (g : TG) (as : List Asg) : Prop where
  go : ∀ (i : Nat) (a : Asg) (env : VEnv) (σ : L2.St) (H : Hp), as[i]? = some a → Good f env σ H → J.go i H ∧ ∀ env1, a env = some env1 → ∀ x H', J.yld i H x H' → ∀ Q : L2.St → Hp → Prop, (∀ σ1 H1, Good f env1 σ1 H1 → Q σ1 H1) → g x σ H' Q
  stop : ∀ (env : VEnv) (σ : L2.St) (H : Hp), Good f env σ H → J.stop as.length H
def VI (X : Cx) (P : List Nat) (tg iter : Expr) (g : TG) (ms : DEnv → R (List Asg)) : Prop := ∀ (W : WX), Takes X W → ∀ f : Fm, FOk X P f → ∃ wi : TI, PI X tg iter wi ∧ ∀ (Z : Addr → Prop) (Fs : Nat → Addr → Prop) (env : VEnv) (σ : L2.St) (H : Hp) (Q : It → Hp → Prop), GoodAt f Z Fs env σ H →
  (match ms (dl env) with
    | .ok as => ∀ J H1 Z', Same H H1 → ZUp Z Z' H H1 → Src (f.re Z' Fs H1) J g as → Q J H1
    | .ex x => O.nos isTb x.xs = true ∧ ∀ cls d H', GoodX f env x cls d σ H' → W cls d σ H'
    | .no => False) → wi σ H Q
def sFor (ms : DEnv → R (List Asg)) (body : VEnv → RS) : VEnv → RS := fun env => match ms (dl env) with
  | .ok as => forL body as env
  | .ex x => if O.nos isTb x.xs then .ex x env else .no
  | .no => .no
section
variable {X : Cx} {P : List Nat} {tg iter a b : Expr} {g : TG} {ms : DEnv → R (List Asg)} {ma mb : DEnv → R O} {body : List Stmt} {m : VEnv → RS} {pos : Pos}
theorem vs_for (hp : PassesOwn (model X.prog X.w) X.A X.env X.xe) (hc : X.calm = true) (hi : VI X P tg iter g ms) (hg : PG X tg g) (hb : VB X P body m) (hs : ∀ x, foldedSetIterable iter X.env x = pure x := by intro _; rfl) : VS X P (.For tg iter body [] pos) (sFor ms m) := fun W tk f hf => by
  obtain ⟨wi, hwi, hr⟩ := hi W tk f hf
  have hbody : PSs X body (fun D σ H => ∃ f', FOk X P f' ∧ rS f' W m D σ H) := ⟨fun pins s σ H D I ⟨f', hf', h⟩ => (hb W tk f' hf').run pins s σ H D I h⟩
  refine (ps_for hp hc hwi hg hbody hs).imp fun D σ H h => ?_
  obtain ⟨env, ⟨Z, Fs, g0⟩, h⟩ := rS_to h
  refine hr Z Fs env σ H _ g0 ?_
  unfold sFor at h
  cases e : ms (dl env) with
  | no => rw [e] at h; exact h
  | ex x =>
    rw [e] at h
    replace h : SOut f W D (if O.nos isTb x.xs then .ex x env else .no) := h
    by_cases n : O.nos isTb x.xs = true
    · rw [if_pos n] at h
      exact ⟨n, fun cls d H' gx => h cls d σ H' gx⟩
    · rw [if_neg n] at h; exact h.elim
  | ok as =>
    rw [e] at h
    replace h : SOut f W D (forL m as env) := h
    intro J H1 Z' sm zu src
    have g1 := g0.up sm zu
    have hf' : FOk X P (f.re Z' Fs H1) := hf
    refine ⟨fun i n σ H => n = as.length - i ∧ i ≤ as.length ∧ ∃ env, Good (f.re Z' Fs H1) env σ H ∧ SOut f W D (forL m (as.drop i) env), ⟨as.length, by simp, Nat.zero_le _, env, ⟨Z', Fs, g1.re⟩, by simpa using h⟩, ?_⟩
    rintro i n σ2 H2 ⟨rfl, hi, env2, gg, hh⟩
    by_cases hlt : i < as.length
    · have ea : as[i]? = some as[i] := List.getElem?_eq_getElem hlt
      rw [List.drop_eq_getElem_cons hlt] at hh
      obtain ⟨go, step⟩ := src.go i as[i] env2 σ2 H2 ea gg
      refine .inr ⟨go, fun σ' H' => as.length - (i + 1) = as.length - (i + 1) ∧ i + 1 ≤ as.length ∧ ∃ env, Good (f.re Z' Fs H1) env σ' H' ∧ SOut f W D (forL m (as.drop (i + 1)) env), fun σ' H' q => ⟨as.length - (i + 1), by omega, q⟩, fun x H' y => ?_⟩
      unfold forL at hh
      cases q : as[i] env2 with
      | none => rw [q] at hh; exact hh.elim
      | some e1 =>
        rw [q] at hh
        replace hh : SOut f W D (match m e1 with
          | .ok .next e' => forL m (as.drop (i + 1)) e'
          | .ok .cont e' => forL m (as.drop (i + 1)) e'
          | .ok .brk e' => .ok .next e'
          | .ok (.ret o) e' => .ok (.ret o) e'
          | .ex x e' => .ex x e'
          | .no => .no) := hh
        refine step e1 q x H' y _ fun σ3 H3 g3 => ⟨_, hf', rS_of g3 ?_⟩
        cases q2 : m e1 with
        | no => rw [q2] at hh; exact hh
        | ex x e' => rw [q2] at hh; exact fun cls d σ' H' gx => hh cls d σ' H' (gx.unre g1)
        | ok c e' =>
          rw [q2] at hh
          cases c with
          | next => exact fun σ' H' g' => ⟨rfl, hlt, e', g', hh⟩
          | cont => exact fun σ' H' g' => ⟨rfl, hlt, e', g', hh⟩
          | brk => exact fun σ' H' g' => hh σ' H' (g'.unre g1)
          | ret o => exact fun v σ' H' g' => hh v σ' H' (g'.unre g1)
    · have e : i = as.length := by omega
      subst e
      rw [List.drop_length] at hh
      exact .inl ⟨src.stop env2 σ2 H2 gg, hh σ2 H2 (gg.unre g1)⟩
theorem Good.setA {f : Fm} {i : Nat} {o : O} {v : V} {env env1 : VEnv} {σ : L2.St} {H : Hp} (hp : ∀ p ∈ f.pin, p.1 ≠ i) (g : Good f env σ H) (hr : ∀ Z Fs, GoodAt f Z Fs env σ H → RepO (f.w Z) H o v (fun _ => False)) (e : setA i o env = some env1) : Good f env1 (σ.set i (some v)) H := by
  obtain ⟨Z, Fs, g⟩ := g
  unfold VL.setA at e
  split at e
  · rename_i hlt
    cases e
    exact ⟨Z, _, g.set (hr Z Fs g) (fun _ z => z.elim) hlt hp⟩
  · cases e
def iR1 (i : Nat) (ma : DEnv → R O) : DEnv → R (List Asg) := fun env => (ma env).bind fun o => match o.er with
  | .int n => if decide (-(2 ^ 62) ≤ n) && decide (n < 2 ^ 62) then .ok ((List.range n.toNat).map fun (k : Nat) => setA i (.lf .fz (.int (0 + (k : Int))))) else .no
  | _ => .no
def iR2 (i : Nat) (ma mb : DEnv → R O) : DEnv → R (List Asg) := fun env => (ma env).bind fun o => (mb env).bind fun o' => match o.er, o'.er with
  | .int l, .int n => if decide (-(2 ^ 62) ≤ l) && decide (l < 2 ^ 62) && decide (-(2 ^ 62) ≤ n) && decide (n < 2 ^ 62) then .ok ((List.range (n - l).toNat).map fun (k : Nat) => setA i (.lf .fz (.int (l + (k : Int))))) else .no
  | _, _ => .no
theorem src_range {f : Fm} {i : Nat} (hp : ∀ p ∈ f.pin, p.1 ≠ i) (lo : Int) (n : Nat) : Src f (Itr lo n) (gName i) ((List.range n).map fun (k : Nat) => setA i (.lf .fz (.int (lo + (k : Int))))) := by
  refine ⟨fun j a env σ H e g => ?_, fun env σ H g => by simp [Itr]⟩
  rw [List.getElem?_map] at e
  cases q : (List.range n)[j]? with
  | none => rw [q] at e; cases e
  | some k =>
    rw [q] at e
    obtain ⟨hj, ek⟩ := List.getElem?_eq_some_iff.mp q
    rw [List.getElem_range] at ek
    subst ek
    have e' := Option.some.inj e
    subst e'
    refine ⟨show j < n by simpa using hj, fun env1 e1 x H' y Q hQ => ?_⟩
    obtain ⟨rfl, rfl⟩ := y
    exact hQ _ _ (g.setA hp (fun Z Fs _ => by simp [RepO, Rep]) e1)
theorem zup_refl {Z : Addr → Prop} {H H1 : Hp} : ZUp Z Z H H1 := ⟨fun _ z => z, fun _ z => .inl z⟩
theorem vi_err {f : Fm} {Z : Addr → Prop} {Fs : Nat → Addr → Prop} {env : VEnv} {σ : L2.St} {H H' : Hp} {W : WX} {x : Exn} {cls : Value} {d : Option Addr} {F : Addr → Prop} (g : GoodAt f Z Fs env σ H) (h : O.nos isTb x.xs = true ∧ ∀ cls d H', GoodX f env x cls d σ H' → W cls d σ H') (s : Same H H') (r : RepX (tw f Z Fs) H' x cls d F) (fr : Fresh H H' F) : W cls d σ H' :=
  h.2 cls d H' ⟨Z, Fs, F, g.same s, RepX.unlend h.1 r, g.fresh fr⟩
def rEf (f : Fm) (W : WX) (ma : DEnv → R O) : TE := fun σ H Q => ∃ Z Fs, rE (tw f Z Fs) W ma σ H Q
theorem VE.ef (h : VE X a ma) {W : WX} (tk : Takes X W) {f : Fm} (hf : FOk X P f) : PE X a (rEf f W ma) := ⟨fun pins s σ H Q I ⟨Z, Fs, q⟩ => (h W tk (tw f Z Fs) hf.1).run pins s σ H Q I q⟩
theorem vi_range1 (i : Nat) {p pos : Pos} (hm : X.mg "range" = none) (ha : VE X a ma) (hP : P.contains i = false := by rfl) (hg : Gl X "range" := by rfl) (hst : starEach [a] X.env = (false, eval a X.env) :: starEach [] X.env := by rfl) (hs : starEach [a] X.env = [(false, eval a X.env)] := by rfl) : VI X P tg (.Call (.Name "range" p) [a] [] pos) (gName i) (iR1 i ma) := fun W tk f hf => by
  refine ⟨_, pi_range1 hg hm (pa_cons (ha.ef tk hf) pa_nil hst) hs, fun Z Fs env σ H Q g h => ?_⟩
  refine ⟨Z, Fs, rE_of g.goodE ?_⟩
  unfold iR1 at h
  cases e : ma (dl env) with
  | no => rw [e] at h; exact h
  | ex x => rw [e] at h; exact fun cls d H' F s r fr => vi_err g h s r fr
  | ok o =>
    rw [e] at h
    intro v H1 F1 s1 p1 f1
    have z := RepO.at p1
    simp only [R.bind] at h
    cases eo : o.er with
    | int n =>
      rw [eo] at h z
      simp only at h
      by_cases hb : (decide (-(2 ^ 62) ≤ n) && decide (n < 2 ^ 62)) = true
      · rw [if_pos hb] at h
        simp only [Bool.and_eq_true, decide_eq_true_eq] at hb
        exact ⟨n, by rw [show v = _ from z], hb.1, hb.2, h _ H1 Z s1 zup_refl (src_range (f := f.re Z Fs H1) (pin_ne hf.2 hP) 0 n.toNat)⟩
      · rw [if_neg hb] at h; exact h.elim
    | _ => rw [eo] at h; exact h.elim
theorem re_keep {f : Fm} {Z Z2 : Addr → Prop} {Fs Fs2 : Nat → Addr → Prop} {env0 env : VEnv} {σ0 σ : L2.St} {H1 H : Hp} (g1 : GoodAt f Z Fs env0 σ0 H1) (g : GoodAt (f.re Z Fs H1) Z2 Fs2 env σ H) : KeepS H1 H Z Z2 ∧ KeepS H1 H f.B f.B := by
  have ht : ∀ a xs, H1 a = some (.tup xs) → H a = some (.tup xs) := fun a xs e => g.keep a _ e fun ⟨i, q⟩ => (g1.own i a q).2.2.ntup e
  have hz : ∀ a u, Z a → H1 a = some u → nTb u → H a = some u := fun a u z e n => (g.keep a u e fun ⟨i, q⟩ => (g1.own i a q).1 z).nt n
  have hb : ∀ a u, f.B a → H1 a = some u → nTb u → H a = some u := fun a u z e n => (g.keep a u e fun ⟨i, q⟩ => (g1.own i a q).2.1 z).nt n
  exact ⟨⟨fun a u z r n => ⟨g.zold a z, r.elim (fun e => .inl (hz a _ z e n)) fun ⟨o, e⟩ => .inr ⟨o, hz a _ z e True.intro⟩⟩, fun a C dx fs z e => hz a _ z e True.intro, ht, fun a xs z e => hz a _ z e True.intro, fun a xs z e => hz a _ z e True.intro⟩,
    ⟨fun a u z r n => ⟨z, r.elim (fun e => .inl (hb a _ z e n)) fun ⟨o, e⟩ => .inr ⟨o, hb a _ z e True.intro⟩⟩, fun a C dx fs z e => hb a _ z e True.intro, ht, fun a xs z e => hb a _ z e True.intro, fun a xs z e => hb a _ z e True.intro⟩⟩
def iSq (K : PySem.W.Frag) (tl : TE) : TI := fun σ H R => tl σ H fun x H1 => ∃ a, x = .ref a ∧ (((∃ xs, SqL K H1 a xs) ∧ R (Itl K a) H1) ∨ ((∃ xs, SqT K H1 a xs) ∧ R (Itt K a) H1))
theorem pi_sq {tl : TE} (hl : PE X a tl) : PI X tg a (iSq X.K tl) := by
  refine ⟨fun pins s σ H R I h => ?_⟩
  refine thn (hl.run pins s σ H _ I h) fun v s1 ⟨x, H1, I1, r1, q1⟩ => ?_
  obtain ⟨a, e, ⟨⟨xs, hq⟩, q⟩ | ⟨⟨xs, hq⟩, q⟩⟩ := q1
  · subst e
    cases r1
    obtain ⟨its, rv, p, hz⟩ := I1.list hq
    refine wpAny_pyIter_list p.isList ?_
    refine ⟨s1.heap.objs.size, [s1.heap.objs.size], _, _, H1, rfl, I1.kept (t' := s1.toks) fun b o e => Heap.get?_push_of_some _ e, turn_list a _, ⟨_, Heap.get?_push_size _ rfl, rfl, rfl⟩, fun b hb => ?_, q⟩
    have e : b = s1.heap.objs.size := by simpa using hb
    subst e
    exact I1.fpOk (Nat.le_refl _) (I1.hok.fresh (Nat.le_refl _))
  · subst e
    cases r1
    obtain ⟨its, rv, p, hz⟩ := I1.tuple hq
    refine wpAny_pyIter_tuple (show s1.heap.IsTuple a its.toArray from p) ?_
    refine ⟨s1.heap.objs.size, [s1.heap.objs.size], _, _, H1, rfl, I1.kept (t' := s1.toks) fun b o e => Heap.get?_push_of_some _ e, turn_tuple a _, ⟨_, Heap.get?_push_size _ rfl, rfl, rfl⟩, fun b hb => ?_, q⟩
    have e : b = s1.heap.objs.size := by simpa using hb
    subst e
    exact I1.fpOk (Nat.le_refl _) (I1.hok.fresh (Nat.le_refl _))
def D.seq : D → Option (List D)
  | .lst ds => some ds
  | .tup ds => some ds
  | _ => none
def seqF (o : O) : Option (Kd × List D) := match o with
  | .lf .bo d => d.seq.map fun ds => (.bo, ds)
  | o => if o.no notFz then o.er.seq.map fun ds => (.fz, ds) else none
theorem seq_rep {cl : Cl} {H : Hp} {S : Addr → Prop} {d : D} {v : V} {ds : List D} (e : d.seq = some ds) (h : Rep cl H S d v) : ∃ a vs, v = .ref a ∧ (H a = some (.lst vs) ∧ S a ∨ H a = some (.tup vs)) ∧ Reps cl H S ds vs := by
  unfold D.seq at e
  split at e
  · cases e; simp only [Rep] at h
    obtain ⟨a, vs, rfl, s, r, q⟩ := h
    exact ⟨a, vs, rfl, .inl ⟨r, s⟩, q⟩
  · cases e; simp only [Rep] at h
    obtain ⟨a, vs, rfl, r, q⟩ := h
    exact ⟨a, vs, rfl, .inr r, q⟩
  · cases e
theorem seqF_rep {f : Fm} {Z : Addr → Prop} {Fs : Nat → Addr → Prop} {H H1 : Hp} {o : O} {v : V} {F : Addr → Prop} {k : Kd} {ds : List D} (e : seqF o = some (k, ds)) (s : Same H H1) (r : RepO (tw f Z Fs) H1 o v F) (fr : Fresh H H1 F) :
    ∃ Z', ZUp Z Z' H H1 ∧ (k = .fz ∨ k = .bo) ∧ ∃ d, d.seq = some ds ∧ Rep f.cl H1 ((f.w Z').S k) d v := by
  have gen : ∀ o : O, o.no notFz = true → RepO (tw f Z Fs) H1 o v F → o.er.seq = some ds → ∃ Z', ZUp Z Z' H H1 ∧ (Kd.fz = .fz ∨ Kd.fz = .bo) ∧ ∃ d, d.seq = some ds ∧ Rep f.cl H1 ((f.w Z').S .fz) d v := fun o n r e => by
    refine ⟨fun a => Z a ∨ F a, ⟨fun _ z => .inl z, fun a z => z.elim .inl fun q => .inr (fr a q)⟩, .inl rfl, o.er, e, ?_⟩
    refine RepO.toRep (w := tw f Z Fs) (p := notFz) (fun x hx => ?_) n (fun _ z => .inr z) r
    cases x with
    | fz => exact fun _ z => .inl z
    | bo => cases hx
    | tb => cases hx
  unfold seqF at e
  split at e
  · rename_i d
    cases q : d.seq with
    | none => rw [q] at e; cases e
    | some xs =>
      rw [q] at e
      cases e
      exact ⟨Z, zup_refl, .inr rfl, d, q, by simp only [RepO] at r; exact r⟩
  · split at e
    · rename_i n
      cases q : o.er.seq with
      | none => rw [q] at e; cases e
      | some xs =>
        rw [q] at e
        cases e
        exact gen o n r q
    · cases e
theorem sub_of_re {f : Fm} {Z Z2 : Addr → Prop} {Fs Fs2 : Nat → Addr → Prop} {env0 env : VEnv} {σ0 σ : L2.St} {H1 H : Hp} {k : Kd} (hk : k = .fz ∨ k = .bo) (g1 : GoodAt f Z Fs env0 σ0 H1) (g : GoodAt (f.re Z Fs H1) Z2 Fs2 env σ H) : KeepS H1 H ((f.w Z).S k) (((f.re Z Fs H1).w Z2).S k) := by
  rcases hk with rfl | rfl
  · exact (re_keep g1 g).1
  · exact (re_keep g1 g).2
theorem re_seq {f : Fm} {Z : Addr → Prop} {Fs : Nat → Addr → Prop} {env0 env : VEnv} {σ0 σ : L2.St} {H1 H : Hp} {k : Kd} {d : D} {ds : List D} {a : Addr} {vs : List V} (hk : k = .fz ∨ k = .bo) (g1 : GoodAt f Z Fs env0 σ0 H1) (g : Good (f.re Z Fs H1) env σ H)
    (hr : Reps f.cl H1 ((f.w Z).S k) ds vs) (ha : H1 a = some (.lst vs) ∧ (f.w Z).S k a ∨ H1 a = some (.tup vs)) : (H1 a = some (.lst vs) → H a = some (.lst vs)) ∧ (H1 a = some (.tup vs) → H a = some (.tup vs)) ∧ ∀ Z2 Fs2, GoodAt (f.re Z Fs H1) Z2 Fs2 env σ H → Reps f.cl H (((f.re Z Fs H1).w Z2).S k) ds vs := by
  obtain ⟨Z2, Fs2, g⟩ := g
  have kp := sub_of_re hk g1 g
  refine ⟨fun e => ?_, fun e => kp.2.2.1 a vs e, fun Z2 Fs2 g => Reps.keep (sub_of_re hk g1 g) hr⟩
  rcases ha with ⟨_, s⟩ | e'
  · exact kp.2.2.2.1 a vs s e
  · rw [e'] at e; cases e
theorem rep_lfk {w : Wd} {H : Hp} {k : Kd} {d : D} {v : V} (h : Rep w.cl H (w.S k) d v) : RepO w H (lfk k d) v (fun _ => False) := lfk_rep h
theorem src_seq {f : Fm} {Z : Addr → Prop} {Fs : Nat → Addr → Prop} {env0 : VEnv} {σ0 : L2.St} {H1 : Hp} {k : Kd} {ds : List D} {a : Addr} {vs : List V} {K : PySem.W.Frag} {g : TG} {asg : O → Asg} (hk : k = .fz ∨ k = .bo) (g1 : GoodAt f Z Fs env0 σ0 H1)
    (hr : Reps f.cl H1 ((f.w Z).S k) ds vs)
    (hg : ∀ (o : O) (v : V) (env env1 : VEnv) (σ : L2.St) (H : Hp) (Q : L2.St → Hp → Prop), Good (f.re Z Fs H1) env σ H → (∀ Z2 Fs2, GoodAt (f.re Z Fs H1) Z2 Fs2 env σ H → RepO ((f.re Z Fs H1).w Z2) H o v (fun _ => False)) → asg o env = some env1 → (∀ σ1 H2, Good (f.re Z Fs H1) env1 σ1 H2 → Q σ1 H2) → g v σ H Q) :
    (H1 a = some (.lst vs) ∧ (f.w Z).S k a → Src (f.re Z Fs H1) (Itl K a) g (ds.map fun d => asg (lfk k d))) ∧ (H1 a = some (.tup vs) → Src (f.re Z Fs H1) (Itt K a) g (ds.map fun d => asg (lfk k d))) := by
  have item : ∀ (i : Nat) (as : Asg) (env : VEnv) (σ : L2.St) (H : Hp), (ds.map fun d => asg (lfk k d))[i]? = some as → Good (f.re Z Fs H1) env σ H → (H1 a = some (.lst vs) ∧ (f.w Z).S k a ∨ H1 a = some (.tup vs)) → ∃ d v, as = asg (lfk k d) ∧ vs[i]? = some v ∧ ∀ Z2 Fs2, GoodAt (f.re Z Fs H1) Z2 Fs2 env σ H → RepO ((f.re Z Fs H1).w Z2) H (lfk k d) v (fun _ => False) := fun i as env σ H e gg ha => by
    rw [List.getElem?_map] at e
    cases q : ds[i]? with
    | none => rw [q] at e; cases e
    | some d =>
      rw [q] at e
      obtain ⟨_, _, all⟩ := re_seq (d := .non) hk g1 gg hr ha
      obtain ⟨Z3, Fs3, g3⟩ := gg
      obtain ⟨v, ev, _⟩ := Reps.get (all Z3 Fs3 g3) q
      refine ⟨d, v, (Option.some.inj e).symm, ev, fun Z2 Fs2 g2 => ?_⟩
      obtain ⟨v', ev', r'⟩ := Reps.get (all Z2 Fs2 g2) q
      rw [ev] at ev'
      cases ev'
      exact rep_lfk r'
  have hl : vs.length = ds.length := Reps.length hr
  refine ⟨fun ha => ⟨fun i as env σ H e gg => ?_, fun env σ H gg => ?_⟩, fun ha => ⟨fun i as env σ H e gg => ?_, fun env σ H gg => ?_⟩⟩
  · obtain ⟨d, v, rfl, ev, r⟩ := item i as env σ H e gg (.inl ha)
    have hs : SqL K H a vs := SqL.of ((re_seq (d := .non) hk g1 gg hr (.inl ha)).1 ha.1)
    refine ⟨⟨vs, v, hs, ev⟩, fun env1 e1 x H' y Q hQ => ?_⟩
    obtain ⟨rfl, y⟩ := y
    have := (y vs hs).symm.trans ev
    cases this
    exact hg _ _ env env1 σ _ Q gg r e1 hQ
  · exact ⟨vs, SqL.of ((re_seq (d := .non) hk g1 gg hr (.inl ha)).1 ha.1), by rw [hl, List.length_map]; exact Nat.le_refl _⟩
  · obtain ⟨d, v, rfl, ev, r⟩ := item i as env σ H e gg (.inr ha)
    have hs : SqT K H a vs := SqT.of ((re_seq (d := .non) hk g1 gg hr (.inr ha)).2.1 ha)
    refine ⟨⟨vs, v, hs, ev⟩, fun env1 e1 x H' y Q hQ => ?_⟩
    obtain ⟨rfl, y⟩ := y
    have := (y vs hs).symm.trans ev
    cases this
    exact hg _ _ env env1 σ _ Q gg r e1 hQ
  · exact ⟨vs, SqT.of ((re_seq (d := .non) hk g1 gg hr (.inr ha)).2.1 ha), by rw [hl, List.length_map]; exact Nat.le_refl _⟩
def iSeqM (asg : O → Asg) (ma : DEnv → R O) : DEnv → R (List Asg) := fun env => (ma env).bind fun o => match seqF o with
  | some (k, ds) => .ok (ds.map fun d => asg (lfk k d))
  | none => .no
theorem vi_seq {asg : O → Asg} (ha : VE X a ma) (hg : ∀ (f : Fm), FOk X P f → ∀ (o : O) (v : V) (env env1 : VEnv) (σ : L2.St) (H : Hp) (Q : L2.St → Hp → Prop), Good f env σ H → (∀ Z2 Fs2, GoodAt f Z2 Fs2 env σ H → RepO (f.w Z2) H o v (fun _ => False)) → asg o env = some env1 → (∀ σ1 H2, Good f env1 σ1 H2 → Q σ1 H2) → g v σ H Q) :
    VI X P tg a g (iSeqM asg ma) := fun W tk f hf => by
  refine ⟨_, pi_sq (ha.ef tk hf), fun Z Fs env σ H Q g0 h => ?_⟩
  refine ⟨Z, Fs, rE_of g0.goodE ?_⟩
  unfold iSeqM at h
  cases e : ma (dl env) with
  | no => rw [e] at h; exact h
  | ex x => rw [e] at h; exact fun cls d H' F s r fr => vi_err g0 h s r fr
  | ok o =>
    rw [e] at h
    intro v H1 F1 s1 p1 fr1
    simp only [R.bind] at h
    cases eo : seqF o with
    | none => rw [eo] at h; exact h.elim
    | some kd =>
      obtain ⟨k, ds⟩ := kd
      rw [eo] at h
      obtain ⟨Z', zu, hk, d, ed, rd⟩ := seqF_rep eo s1 p1 fr1
      obtain ⟨a, vs, rfl, ha, hr⟩ := seq_rep ed rd
      have g1 := g0.up s1 zu
      have src := src_seq (K := X.K) (a := a) (asg := asg) hk g1 hr (hg (f.re Z' Fs H1) hf)
      refine ⟨a, rfl, ?_⟩
      rcases ha with ha | ha
      · exact .inl ⟨⟨vs, SqL.of ha.1⟩, h _ H1 Z' s1 zu (src.1 ha)⟩
      · exact .inr ⟨⟨vs, SqT.of ha⟩, h _ H1 Z' s1 zu (src.2 ha)⟩
theorem asg1 {i : Nat} (hP : P.contains i = false) : ∀ (f : Fm), FOk X P f → ∀ (o : O) (v : V) (env env1 : VEnv) (σ : L2.St) (H : Hp) (Q : L2.St → Hp → Prop), Good f env σ H → (∀ Z2 Fs2, GoodAt f Z2 Fs2 env σ H → RepO (f.w Z2) H o v (fun _ => False)) → setA i o env = some env1 → (∀ σ1 H2, Good f env1 σ1 H2 → Q σ1 H2) → gName i v σ H Q :=
  fun f hf o v env env1 σ H Q g r e hQ => hQ _ _ (g.setA (pin_ne hf.2 hP) (fun Z Fs g => r Z Fs g) e)
theorem vi_list (i : Nat) (ha : VE X a ma) (hP : P.contains i = false := by rfl) : VI X P tg a (gName i) (iSeqM (setA i) ma) := vi_seq ha (asg1 hP)
end
end VL
namespace VLI
open PySem PySem.Spec PySem.Calls PyProof.Rows PySem.W
section
variable {prog : Program} {w : World} {A : Around} {E : Value → Shared → Prop} {s : Shared} {K : Frag} {x D : Addr} {ox : Obj} {od : Option Obj}
theorem findObj_dataD {C : Addr} {name : Str} {a g : Value} (hc : (clsIn K C).isSome = true) (ha : findIn K (.ref C) name = some (some a)) (hg : specialIn K a "__get__" = some (some g)) (ht : takesIn K a = some true) : findObj K C od name = some (.bind g a) := by
  obtain ⟨cd, hc⟩ := Option.isSome_iff_exists.mp hc
  unfold findObj
  rw [hc, Option.bind_some, ha, Option.bind_some]
  simp [hg, ht]
theorem kin_classD {Q : Option Value → Shared → Prop} (T : L2.ExcC K D) (X : K.In s.heap) (I : InstAt s.heap x ox D od) (h : Q (some (.ref D)) { s with toks := s.toks + 1 }) : wpAny (model prog w) A (getAttr? (.ref x) "__class__") Q E s := by
  have hf : findObj K D od "__class__" = some (.bind (.builtin "getset_descriptor.__get__") (.builtin "object.__class__")) := findObj_dataD (by obtain ⟨cd, hc, _⟩ := any_some T.hd; rw [hc]; rfl) T.ha T.hn T.ht
  obtain ⟨hp, g, d, t, os⟩ := s
  have L0 := I.type (M := model prog w)
  have L1 := looks_findIn (M := model prog w) X T.hg
  have L2 := looks_findIn (M := model prog w) X T.hk
  have L3 := looks_find (M := model prog w) X I hf
  have sub : Looks (model prog w) hp (isInstance (.ref x) (.type "BaseException")) true := L0.andThen (looks_subIn X T.hs)
  have hx0 : (false && onTheHeap (Value.builtin "BaseException.__getattribute__")) = false := rfl
  have hx2 : (Value.builtin "BaseException.__getattribute__" == Value.builtin "object.__getattribute__") = false := by decide +kernel
  have hx1 : (onTheHeap (Value.ref D) && Value.builtin "BaseException.__getattribute__" == Value.builtin "object.__getattribute__") = false := by rw [hx2]; rfl
  unfold getAttr? getAttrBy? getAttrBy
  refine wpAny_bind (wpAny_mkText (wpAny_bind (wpAny_attempt (wpAny_holding (wpAny_bind (L0.at (wpAny_bind (L1.at ?_))))))))
  show wpAny _ _ (if (onTheHeap (Value.ref D) && Value.builtin "BaseException.__getattribute__" == Value.builtin "object.__getattribute__") = true then _ else _) _ _ _
  rw [hx1, if_neg Bool.false_ne_true]
  unfold getAttrByItsOwn hookBefore
  refine wpAny_bind ?_
  rw [if_pos (show onTheHeap (Value.ref D) = true from rfl)]
  refine L2.at ?_
  refine wpAny_bind (wpAny_attempt (wpAny_holding ?_))
  unfold callGetattribute
  rw [hx0, if_neg Bool.false_ne_true]
  unfold boundAndCalled
  rw [PySem.F.excAttr_ValueError.ga.bind (.ref x)]
  refine wpAny_bind (wpAny_pure ?_)
  show wpAny _ _ (call (.builtin "BaseException.__getattribute__") [.ref x, .str "__class__" t]) _ _ _
  refine wpAny_call (codeAny_call_builtin PySem.F.excAttr_ValueError.ga.plain PySem.F.entry_bexc_ga ?_)
  refine @check_slot (model prog w) _ _ ⟨hp, g, d, t + 1, os⟩ "BaseException.__getattribute__" "BaseException" "__getattribute__" (.ref x) [.str "__class__" t] [] _ (by decide +kernel) (by decide +kernel) sub (PySem.F.args_bexc_ga (.ref x) (.str "__class__" t)) ?_
  unfold Builtin.«object.__getattribute__»
  refine wpAny_bind (wpAny_of_eq (a := ((Value.ref x : Value), [Value.str "__class__" t])) (by first | rfl | (simp only [slotArgs]; rfl)) ?_)
  refine wpAny_bind (wpAny_pure (wpAny_bind (L0.at (wpAny_bind (L3.at ?_)))))
  show wpAny _ _ (holding [Value.builtin "object.__class__"] (call (.builtin "getset_descriptor.__get__") [.builtin "object.__class__", .ref x, .ref D]) >>= ret) _ _ _
  refine wpAny_bind (wpAny_holding (wpAny_call (class_get (s := ⟨hp, g, d, t + 1, os⟩) (ox := ox) (od := od) X I T.hm ?_)))
  refine wpAny_pure ?_
  show wpAny _ _ (handedOut (.ref D)) _ _ _
  rw [handedOut_of (v := .ref D) rfl]
  first
    | exact wpAny_pure (wpAny_pure h)
    | exact wpAny_pure h
    | exact wpAny_pure (wpAny_bind (wpAny_pure (wpAny_pure h)))
theorem kitD (T : L2.ExcC K D) : KitX K (.ref x) (.ref D) (fun h => ∃ od, InstAt h x ox D od) where
  ty := fun _ _ _ ⟨_, I⟩ => I.type
  it := fun _ _ X _ => by
    obtain ⟨cdD, hcD, _⟩ := any_some T.hd
    unfold clsIn at hcD
    split at hcD
    · rename_i c' d' cd' sl' ho
      intro A' Q' E' s' k q
      unfold isType loadHead
      exact wpAny_bind (wpAny_loadPart (k _ _ (X _ _ ho)) (wpAny_pure q))
    · cases hcD
  ne := fun h tp dd its n sl X htp => by
    obtain ⟨cdD, hcD, _⟩ := any_some T.hd
    refine Bool.eq_false_iff.mpr fun q => ?_
    have e : D = tp := Value.ref.inj (beq_iff_eq.mp q)
    subst e
    unfold clsIn at hcD
    split at hcD
    · rename_i c' d' cd' sl' ho
      have z := (X _ _ ho).symm.trans htp
      cases z
    · cases hcD
  ca := fun X ⟨_, I⟩ k => kin_classD T X I k
end
end VLI
namespace L2
open PySem PySem.Spec PyProof.Rows
section
variable {X : Cx} {a D : Addr} {oe : Obj} {d : Option Addr}
theorem inst_of {pins : List (Addr × Obj)} {σ : St} {H : Hp} {s : Shared} (I : Inv X pins σ H s) (hp : (a, oe) ∈ X.pn) (hz : Zc (.ref D) d oe) (hf : ∃ vs, oe.data = .fields vs) (hd : ∀ dd, d = some dd → ∃ u, H dd = some u) : ∃ od, PySem.W.InstAt s.heap a oe D od := by
  obtain ⟨ha, _⟩ := I.pin (a, oe) (List.mem_append_left _ hp)
  obtain ⟨vs, hv⟩ := hf
  cases d with
  | none => exact ⟨none, ha, hz.1, by unfold PySem.W.notCls; rw [hv] <;> rfl, by rw [hz.2]; trivial⟩
  | some dd =>
    obtain ⟨u, e⟩ := hd dd rfl
    obtain ⟨o, ho⟩ := objOk_get (I.hok dd u e)
    exact ⟨some o, ha, hz.1, by unfold PySem.W.notCls; rw [hv] <;> rfl, by rw [hz.2]; exact ho⟩
def rIsD (K : PySem.W.Frag) (D a : Addr) (d : Option Addr) : List V → Hp → VK → Prop := fun xs H Q => ∃ (c : V) (cv : Value) (b : Bool), xs = [.ref a, c] ∧ ClsV c cv ∧ PySem.W.kitOne K (.ref D) cv = some b ∧ (∀ dd, d = some dd → ∃ u, H dd = some u) ∧ Q (.bl b) H
def rIsDT (K : PySem.W.Frag) (D a : Addr) (d : Option Addr) : List V → Hp → VK → Prop := fun xs H Q => ∃ (tp : Addr) (cs : List V) (us : List Value) (b : Bool), xs = [.ref a, .ref tp] ∧ H tp = some (.tup cs) ∧ Paired ClsV cs us ∧ PySem.W.kitAny K (.ref D) us = some b ∧ (∀ dd, d = some dd → ∃ u, H dd = some u) ∧ Q (.bl b) H
theorem call_isD (hp : (a, oe) ∈ X.pn) (hz : Zc (.ref D) d oe) (hf : ∃ vs, oe.data = .fields vs) (T : ExcC X.K D) : CallR X (.builtin "isinstance") (rIsD X.K D a d) := by
  intro pins s σ H xs us Q I r h
  obtain ⟨c, cv, b, rfl, k, e, hd, q⟩ := h
  obtain ⟨u1, u2, rfl, r1, r2⟩ := vals2 r
  cases (show u1 = Value.ref a from r1)
  have ec := k.eq r2
  subst ec
  exact PySem.W.kia_one (VLI.kitD T) I.kIn (inst_of I hp hz hf hd) e (fun z => nomatch z) fun tk => ⟨.bl b, H, I.tok tk, rfl, q⟩
theorem call_isDT (hp : (a, oe) ∈ X.pn) (hz : Zc (.ref D) d oe) (hf : ∃ vs, oe.data = .fields vs) (T : ExcC X.K D) : CallR X (.builtin "isinstance") (rIsDT X.K D a d) := by
  intro pins s σ H xs us Q I r h
  obtain ⟨tp, cs, ws, b, rfl, hT, k, e, hd, q⟩ := h
  obtain ⟨u1, u2, rfl, r1, r2⟩ := vals2 r
  cases (show u1 = Value.ref a from r1)
  cases (show u2 = Value.ref tp from r2)
  obtain ⟨_, its, rv, o, h1, h2, n, h3⟩ := (show ObjOk X.prog X.w H s.heap tp (.tup cs) from I.hok tp _ hT)
  have e3 := ClsV.all k rv
  subst e3
  obtain ⟨oc, od, dt, sl⟩ := o
  simp only at h2 h3
  subst h2 h3
  exact PySem.W.kia_tup (VLI.kitD T) I.kIn (inst_of I hp hz hf hd) h1 e (fun z => nomatch z) fun tk => ⟨.bl b, H, I.tok tk, rfl, q⟩
end
end L2
namespace VLX
open PySem PySem.Spec PyProof.Rows L2
def cxS (CX : CXT) (P : Program) (w : World) (K : PySem.W.Frag) (mg : Str → Option Value) (base : Heap) (N : List Str) (qual : Str) (scope : Scope) (f cda cc : Addr) (A : Around) (outer : List Env) (s : Shared) (H : Hp) (E : XK) (cal : Bool) (pn : List (Addr × Obj)) : Cx where
  prog := P
  w := w
  K := K
  mg := mg
  base := base
  A := A.deeper (PySem.W.ksEnv qual scope s.heap.objs.size f (.ref cda) cc)
  N := N
  s_0 := s
  H_0 := H
  env := PySem.W.ksEnv qual scope s.heap.objs.size f (.ref cda) cc
  outer := outer
  stack := PySem.W.ksEnv qual scope s.heap.objs.size f (.ref cda) cc :: outer
  ex := []
  calm := cal
  fn := fun _ => false
  pn := pn
  xe := fun e s' => wpAny (model P w) (A.deeper (PySem.W.ksEnv qual scope s.heap.objs.size f (.ref cda) cc)) (leaving (PySem.W.ksEnv qual scope s.heap.objs.size f (.ref cda) cc) e) (fun _ s'' => CX outer H s E e s'') (fun e' s'' => CX outer H s E e' s'') s'
structure SupScope (ps : List Str) (sc : Scope) : Prop where
  kind : sc.kind = .function
  co : sc.isCoroutine = false
  gen : sc.isGenerator = false
  nd : ps.Nodup
  par : ∀ x ∈ ps, sc.names.lookup x = some .local
  nocell : ∀ y ∈ sc.names, y.2 ≠ .cell
  free : ∀ y ∈ sc.names, y.2 = .free → y.1 = "__class__"
  sup : sc.names.lookup ("super" : Str) = some .globalImplicit
  cls : sc.names.lookup ("__class__" : Str) = some .free
def supB (ps : List Str) (sc : Scope) : Bool :=
  decide (sc.kind = .function) && !sc.isCoroutine && !sc.isGenerator && decide ps.Nodup && ps.all (fun x => decide (sc.names.lookup x = some .local)) && sc.names.all (fun y => !decide (y.2 = .cell)) && sc.names.all (fun y => !decide (y.2 = .free) || decide (y.1 = "__class__")) && decide (sc.names.lookup ("super" : Str) = some .globalImplicit) && decide (sc.names.lookup ("__class__" : Str) = some .free)
theorem sup_by {ps : List Str} {sc : Scope} (h : supB ps sc = true) : SupScope ps sc := by
  unfold supB at h
  simp only [Bool.and_eq_true, decide_eq_true_eq, Bool.not_eq_true', List.all_eq_true, Bool.or_eq_true, decide_eq_false_iff_not] at h
  obtain ⟨⟨⟨⟨⟨⟨⟨⟨h1, h2⟩, h3⟩, h4⟩, h5⟩, h6⟩, h7⟩, h8⟩, h9⟩ := h
  exact ⟨h1, h2, h3, h4, h5, h6, fun y hy e => (h7 y hy).elim (fun z => absurd e z) id, h8, h9⟩
section
variable {CX : CXT} {P : Program} {w : World} {K : PySem.W.Frag} {mg : Str → Option Value} {base : Heap} {ps : List Str} {qual : Str} {scope : Scope} {f cda cc : Addr} {A : Around} {outer : List Env} {s : Shared} {H : Hp} {E : XK} {us : List Value} {vs : List V} {cal : Bool} {pn : List (Addr × Obj)}
theorem zip_look : ∀ {ps : List Str} {us : List Value} {i : Nat} {x : Str} {u : Value}, ps.Nodup → ps[i]? = some x → us[i]? = some u → (ps.zip us).reverse.lookup x = some u
  | [], us, i, x, u, _, h, _ => by simp at h
  | p :: ps, [], i, x, u, _, _, h => by simp at h
  | p :: ps, v :: us, 0, x, u, nd, h, h' => by
    simp at h h'
    subst h
    subst h'
    rw [List.zip_cons_cons, List.reverse_cons]
    have : (ps.zip us).reverse.lookup p = none := by
      cases e : (ps.zip us).reverse.lookup p with
      | none => rfl
      | some z =>
        have m := PySem.mem_of_lookup e
        rw [List.mem_reverse] at m
        exact absurd (List.of_mem_zip m).1 (List.nodup_cons.mp nd).1
    rw [List.lookup_append, this]
    simp [List.lookup]
  | p :: ps, v :: us, i + 1, x, u, nd, h, h' => by
    have e := zip_look (List.nodup_cons.mp nd).2 (show ps[i]? = some x by simpa using h) (show us[i]? = some u by simpa using h')
    rw [List.zip_cons_cons, List.reverse_cons, List.lookup_append, e]
    rfl
theorem inv_startS {h₁ : Heap} {tk : Nat} (S : SupScope ps scope) (hd : cal = true → A.handled = none) (hpin : ∀ q ∈ pn, L2H.PinOk outer H s q) (e0 : Env0 P w K mg base A outer s H) (hl : vs.length = ps.length) (r : Vals vs us) (hcell : ∃ v, s.heap.IsCell cc v) (hcf : H cc = none) (hns : h₁.Ns s.heap.objs.size fun y => (ps.zip us).reverse.lookup y)
    (kp : ∀ b o, s.heap.get? b = some o → h₁.get? b = some o) : Inv (cxS CX P w K mg base ps qual scope f cda cc A outer s H E cal pn) [] (vs.map some) H { s with heap := h₁, toks := tk } := by
  have noA : ∀ b : Addr, b ∉ (cxS CX P w K mg base ps qual scope f cda cc A outer s H E cal pn).ex := fun b z => absurd (show b ∈ ([] : List Addr) from z) (by simp)
  have cellK : ∀ {c : Addr} {v : Option Value}, s.heap.IsCell c v → h₁.IsCell c v := fun {c v} ⟨o, ho, hd⟩ => ⟨o, kp _ _ ho, hd⟩
  have lk : ∀ x c, List.lookup x [(("__class__" : Str), cc)] = some c → x = "__class__" ∧ c = cc := fun x c e => by
    rw [List.lookup] at e
    split at e
    · rename_i q
      exact ⟨by simpa using q, (Option.some.inj e).symm⟩
    · cases e
  refine ⟨⟨e0.mod, S.kind, rfl, rfl, Nat.le_refl _, fun x y c h1 h2 => ?_, fun y hy => ?_, fun y c z _ => ?_, hd, Around.frames_deeper e0.frames, .inr ⟨rfl, rfl⟩, fun b z => absurd z (noA b), e0.bs, e0.bsz, fun b _ _ => noA b,
      fun b z => absurd z (noA b), e0.funs, e0.frf⟩,
    rfl, e0.bare, Un.kept kp, ⟨_, hns, fun i y v e1 e2 e3 => ?_⟩, fun y c e => ?_, e0.hok.fresh (Nat.le_refl _), fun y c e => ?_, fun q hq => ?_, e0.hok.kept kp, ?_⟩
  · exact (lk x c h1).1.trans (lk y c h2).1.symm
  · have hy : scope.names.lookup y = some .cell ∨ scope.names.lookup y = some .free := hy
    rcases hy with hy | hy
    · exact absurd rfl (S.nocell _ (PySem.mem_of_lookup hy))
    · have e := S.free _ (PySem.mem_of_lookup hy) rfl
      refine ⟨cc, ?_⟩
      show List.lookup y [(("__class__" : Str), cc)] = some cc
      rw [show y = "__class__" from e]
      simp [List.lookup]
  · have z : false = true := z
    cases z
  · have e1 : ps[i]? = some y := e1
    rw [List.getElem?_map] at e2
    have ha : vs[i]? = some v := by
      cases e : vs[i]? with
      | none => rw [e] at e2; cases e2
      | some a => rw [e] at e2; cases e2; rfl
    obtain ⟨u, hu, rv⟩ := r.get ha
    exact ⟨u, rv, .inl ⟨S.par y (List.mem_of_getElem? e1), zip_look S.nd e1 hu⟩⟩
  · obtain ⟨v, hv⟩ := hcell
    rw [(lk y c e).2]
    exact ⟨v, cellK hv⟩
  · rw [(lk y c e).2]
    exact hcf
  · have z : q ∈ pn := by simpa using (show q ∈ pn ++ ([] : List (Addr × Obj)) from hq)
    have k := hpin q z
    exact ⟨kp q.1 q.2 k.get, k.free, Nat.ne_of_lt (Heap.lt_size k.get), k.nofs, k.nocell⟩
  · show (vs.map some).length = ps.length
    rw [List.length_map, hl]
structure SupOk (P : Program) (K : PySem.W.Frag) (mg : Str → Option Value) (C f cda cc : Addr) (fd : FuncData) (qual : Str) (ps : List Str) (scope : Scope) (body : List Stmt) : Prop where
  fn : ∃ oc od osl name params dV kV doc pm an ct ar, fd = PySem.W.fnX name qual params body scope [("__class__", cc)] dV kV doc pm an (.ref cda) ct ∧ K.lookup f = some ⟨oc, od, .func fd, osl⟩ ∧ (params.posonlyargs ++ params.args).head? = some ar ∧ ps[0]? = some ar.arg
  cd : PySem.W.codeIn K (.ref cda) qual = true
  co : ∃ ccl cdd vs ccs file tf, K.lookup cda = some ⟨ccl, cdd, .fields vs, ccs⟩ ∧ vs[2]? = some (.str file tf) ∧ ((P.main.file : Str) == file) = true
  top : (P.main.scope.names.lookup ("super" : Str)).isSome = false
  ce : ∃ cl cld csl, K.lookup cc = some ⟨cl, cld, .cell (some (.ref C)), csl⟩
  ox : OexC K C
  su : PySem.W.ks_superIn K C C "__init__" = some (some (.builtin "ValueError.__init__"))
  ve : PySem.W.subIn K (.ref C) (.type "ValueError") = some true
  me : PySem.W.mroIn K C (.ref C) = some true
  th : PySem.W.nsIn K cStatics "thirdparty.any" = some none
  ms : mg "super" = none
theorem call_mw {P : Program} {w : World} {A : Around} {E : Value → Shared → Prop} {h : Heap} {g : Array GenState} {d : Drawn} {t : Nat} {os : OsState} {nm q : Str} {C N : Addr} {bs bm : List Value} {hdct : Bool} {sn : List Str} {sub : List Value} {ab : Bool} {col : Option Bool} {dd : Option Addr} {k0 k1 k2 k3 k5 : Option Value}
    {u e t0 : Addr} {rest : List Value} {Q : Value → Shared → Prop} (hbm : PySem.HandSPX.refsVE bm = true)
    (hC : h.get? C = some (excClassObj nm q C N bs bm hdct sn sub ab col dd k0 k1 k2 k3 k5 "ValueError.__new__")) (he : h.get? e = some (PySem.HandSPX.excO C t0)) (hu : h.get? u = some (PySem.W.kxs_mw "ValueError.__init__" e)) (hrest : rest.length ≤ sizeLine)
    (hq : ∀ h' t1, (∀ b o, b ≠ e → h.get? b = some o → h'.get? b = some o) → h'.get? e = some (PySem.HandSPX.excO C t1) → Q .none ⟨h', g, d, t, os⟩) :
    wpAny (model P w) A (call (.ref u) rest) Q E ⟨h, g, d, t, os⟩ := by
  refine wpAny_call (codeAny_of_tree ?_)
  show wpAny _ A.in1 (callAny (.ref u) ⟨rest, []⟩) _ _ _
  simp only [callAny]
  refine wpAny_bind (wpAny_load hu ?_)
  simp only [PySem.W.kxs_mw, show (Value.type "method-wrapper" == Value.type "method" || Value.type "method-wrapper" == Value.type "builtin_function_or_method" || Value.type "method-wrapper" == Value.type "method-wrapper") = true by decide, if_true]
  refine PySem.W.KFB.if_so (by decide) ?_
  refine wpAny_bind (PySem.ESX.check_bound F.excBase_ValueError hC he rfl ?_)
  refine wpAny_bind (wpAny_pure (wpAny_pure ?_))
  refine ⟨Code.quiet_builtin _ (by decide +kernel), codeAny_builtin F.excBase_ValueError.initEntry ?_⟩
  rw [Around.under_plainId F.excBase_ValueError.init.plain _]
  wp_walk
  refine hq _ h.objs.size (fun b o hb ho => ?_) ?_
  · rw [Heap.get?_update_other _ _ (Ne.symm hb)]
    exact Heap.get?_push_of_some _ ho
  · rw [Heap.get?_update_self _ (Heap.get?_push_of_some _ he) rfl]
    rfl
theorem fn_super1 {k : Nat} {fd : FuncData} {st0 : Stmt} {rest : List Stmt} {C : Addr} {p0 p1 p2 p3 p4 p5 : Pos} {msg : Str} {j : Nat} {pl : Sem Bool} {args : Args} {Q : VK}
    (T : SupOk P K mg C f cda cc fd qual ps scope (st0 :: rest)) (S : SupScope ps scope) (hst : st0 = .Expr (.Call (.Attribute (.Call (.Name "super" p0) [] [] p1) "__init__" p2) [.Constant (.str msg) j p3] [] p4) p5)
    (hcall : ∀ env : Env, eval (.Call (.Attribute (.Call (.Name "super" p0) [] [] p1) "__init__" p2) [.Constant (.str msg) j p3] [] p4) env = (do
      let ov ← attributeBase (.Call (.Name "super" p0) [] [] p1) "__init__" env (eval (.Call (.Name "super" p0) [] [] p1) env)
      standAt p2.atName
      let (f, first) ← holding [ov] (getMethod ov "__init__" pl)
      callWith p4 f first (backTo p4 (starEach [.Constant (.str msg) j p3] env)) []))
    (hl : vs.length = ps.length) (hdep : A.depth < recursionLimit) (hcal : cal = true → A.handled = none) (hpin : ∀ q ∈ pn, L2H.PinOk outer H s q) (e0 : Env0 P w K mg base A outer s H) (hb : BindsTo s fd args (ps.zip us)) (r : Vals vs us)
    (hbody : ∃ a r t, vs = .ref a :: r ∧ H a = some (exo a C none) ∧ PSs (cxS CX P w K mg base ps qual scope f cda cc A outer s H E cal pn) rest t ∧ t { nx := fun _ H' => Q .non H', rt := Q } (vs.map some) H) :
    codeAny (model P w) A (.call (.ref f) args) (CR CX outer P w H s Q E) s := by
  obtain ⟨oc, od, osl, name, params, dV, kV, doc, pm, an, ct, ar, rfl, lk, har, har0⟩ := T.fn
  obtain ⟨cl, cld, csl, hcell⟩ := T.ce
  obtain ⟨ccl, cdd, cvs, ccs, file, tf, hcode, hvs, hfile⟩ := T.co
  obtain ⟨nm, qn, N, bs, bm, sn, sub, ab, col, dd, k0, k1, k2, k3, k5, hC, hbm⟩ := T.ox.cls
  have hclI : PySem.W.clsIn K C = some { name := nm, bases := bs, mro := .ref C :: bm, ns := N, qualname := qn, hasDict := true, slotNames := sn, subclasses := sub, abstract := ab, collection := col, hasDel := false } := by unfold PySem.W.clsIn; rw [hC] <;> rfl
  obtain ⟨a, rs, t, rfl, ha, hrun, hq⟩ := hbody
  have KX : K.In s.heap := e0.mod.kin.keeps fun b o e => (e0.bs b o e).1
  have lim : s.heap.NoLimit := e0.mod.nolimit.keeps fun b o e => (e0.bs b o e).1
  have hccb : base.get? cc = some _ := e0.mod.kin _ _ hcell
  refine PySem.ks_codeAny_call_defAt (fd := PySem.W.fnX name qual params (st0 :: rest) scope [("__class__", cc)] dV kV doc pm an (.ref cda) ct) (body := st0 :: rest) (binds := ps.zip us) hdep (KX _ _ lk) rfl lim (PySem.W.codeRec_of KX T.cd) rfl hb S.nocell (fun ⟨n, v⟩ hy => S.par n (List.of_mem_zip hy).1) (fun h₀ hns kp => ?_) S.co S.gen S.kind
  have I0 : Inv (cxS CX P w K mg base ps qual scope f cda cc A outer s H E cal pn) [] ((V.ref a :: rs).map some) H { s with heap := h₀, toks := s.toks + (ps.zip us).length } := inv_startS S hcal hpin e0 hl r ⟨_, _, KX _ _ hcell, rfl⟩ (e0.bs _ _ hccb).2 hns kp
  show _root_.PySem.wpAt _ (A.deeper (PySem.W.ksEnv qual scope s.heap.objs.size f (.ref cda) cc)) (.func (st0 :: rest) (PySem.W.ksEnv qual scope s.heap.objs.size f (.ref cda) cc)) (execs (st0 :: rest) (PySem.W.ksEnv qual scope s.heap.objs.size f (.ref cda) cc)) _ _ _
  -- the rest, behind the first statement
  have tail : ∀ s1, Inv (cxS CX P w K mg base ps qual scope f cda cc A outer s H E cal pn) [] ((V.ref a :: rs).map some) H s1 →
      _root_.PySem.wpAt (model P w) (A.deeper (PySem.W.ksEnv qual scope s.heap.objs.size f (.ref cda) cc)) (.func (st0 :: rest) (PySem.W.ksEnv qual scope s.heap.objs.size f (.ref cda) cc)) (execs rest (PySem.W.ksEnv qual scope s.heap.objs.size f (.ref cda) cc))
        (fun f s' => CR CX outer P w H s Q E (.ok (.ret (match f with | .ret v => v | _ => .none))) s') (cxS CX P w K mg base ps qual scope f cda cc A outer s H E cal pn).xe s1 := fun s1 I1 => by
    refine wpAt_of_wpAny (wpAny_mono (hrun.run [] s1 _ H _ I1 hq) (fun fl s' hs => ?_) fun e s' hs => hs)
    have fin : ∀ {σ' : L2.St} {H' : Hp} {v : V} {u : Value}, Inv (cxS CX P w K mg base ps qual scope f cda cc A outer s H E cal pn) [] σ' H' s' → RelV v u → Q v H' → CE outer P w H s Q u s' :=
      fun {σ' H' v u} J rv q => ⟨v, H', J.os, J.bare, J.base, J.hok, rv, q⟩
    cases fl with
    | ret u =>
      obtain ⟨v, σ', H', J, rv, q⟩ := hs
      exact fin J rv q
    | next =>
      obtain ⟨σ', H', J, q⟩ := hs
      exact fin (v := V.non) (u := Value.none) J rfl q
    | brk =>
      obtain ⟨_, _, _, q⟩ := hs
      exact False.elim q
    | cont =>
      obtain ⟨_, _, _, q⟩ := hs
      exact False.elim q
  subst hst
  refine PySem.ks_wpAt_execs_cons (PySem.ks_wpAt_Expr_any ?_ (by simp [interactive, S.kind]) rfl)
  refine PySem.ks_wpAt_MethodCall (pl := pl) ?_ (hcall _)
  obtain ⟨oD, hD1, hD2⟩ : ∃ oD, h₀.get? C = some oD ∧ ∃ cdD, oD.data = .cls cdD := by
    refine ⟨_, I0.kIn _ _ hC, ?_⟩
    exact ⟨_, rfl⟩
  obtain ⟨cdD, hD2⟩ := hD2
  refine PySem.ks_wpAt_super_base (env := PySem.W.ksEnv qual scope s.heap.objs.size f (.ref cda) cc) S.sup S.cls (by decide) rfl (I0.kIn _ _ lk) rfl har rfl (I0.kIn _ _ hcode) rfl hvs hfile T.top ?_
  obtain ⟨mb, hb1, hb2⟩ := I0.mod.blt
  refine PySem.W.ks_loadName_global S.kind S.sup (Calls.loadGlobal_builtin (env := PySem.W.ksEnv qual scope s.heap.objs.size f (.ref cda) cc) (I0.mod.glob.keeps I0.bk) T.ms (hb1.keeps I0.bk) ((hb2 _ (by decide +kernel)).trans (by decide +kernel)) ⟨rfl, ?_⟩)
  refine wpAny_loadName_free S.kind S.cls rfl ⟨_, I0.kIn _ _ hcell, rfl⟩ ?_
  obtain ⟨m, hns', hloc⟩ := I0.loc
  obtain ⟨u0, ru0, hlk⟩ := hloc 0 ar.arg (.ref a) har0 rfl (.inl (S.par _ (List.mem_of_getElem? har0)))
  obtain rfl : u0 = Value.ref a := ru0
  have hself : m ar.arg = some (.ref a) := by
    rcases hlk with ⟨_, z⟩ | ⟨z, _⟩
    · exact z
    · exfalso
      have q := S.par _ (List.mem_of_getElem? har0)
      have z : scope.names.lookup ar.arg = some .cell ∨ scope.names.lookup ar.arg = some .free := z
      rw [q] at z
      rcases z with z | z <;> cases z
  refine wpAny_loadName_local S.kind (S.par _ (List.mem_of_getElem? har0)) hns' hself ?_
  refine PySem.ks_wpAny_isType_cls hD1 hD2 ⟨rfl, ?_⟩
  obtain ⟨t1, ho⟩ := exo_at I0.hok ha
  refine PySem.ks_wpAny_call_super hD1 hD2 ho rfl (fun c e => by cases e) (PySem.W.looks_mroIn I0.kIn T.me) (fun h' eso k => ?_)
  -- the super object stands; its method
  have I1 : Inv (cxS CX P w K mg base ps qual scope f cda cc A outer s H E cal pn) [] ((V.ref a :: rs).map some) H { s with heap := h', toks := s.toks + (ps.zip us).length } := I0.kept (h' := h') (t' := s.toks + (ps.zip us).length) k
  have ho1 := k _ _ ho
  have hI : PySem.W.Looks (model P w) h' (isInstance (.ref a) (.type "ValueError")) true := (show PySem.W.InstAt h' a (PySem.HandSPX.excO C t1) C none from ⟨ho1, rfl, rfl, trivial⟩).type.andThen (PySem.W.looks_subIn I1.kIn T.ve)
  have hsup := T.su
  unfold PySem.W.ks_superIn at hsup
  rw [hclI] at hsup
  have haC : a ≠ C := fun z => by
    have q := I1.kIn _ _ hC
    rw [← z, show h'.get? a = _ from ho1] at q
    cases q
  refine PySem.W.kxs_getMethod PySem.W.kxs_ValueError eso (PySem.W.looks_opaque I1.kIn T.th) (l₀ := .ref C :: bm) (fun A Q E s k q => wpAny_bind ((PySem.W.looks_clsIn I1.kIn hclI) A _ E s k (wpAny_pure q))) rfl I1.kIn hsup hI haC (by decide) ?_
  -- the bound __init__ is called with the text
  have I2 : Inv (cxS CX P w K mg base ps qual scope f cda cc A outer s H E cal pn) [] ((V.ref a :: rs).map some) H { s with heap := h'.push (PySem.W.kxs_mw "ValueError.__init__" a), toks := s.toks + (ps.zip us).length + 1 } := I1.kept (h' := h'.push _) (t' := s.toks + (ps.zip us).length + 1) fun b o e => Heap.get?_push_of_some _ e
  have eu : (h'.push (PySem.W.kxs_mw "ValueError.__init__" a)).get? h'.objs.size = some (PySem.W.kxs_mw "ValueError.__init__" a) := Heap.get?_push_at rfl rfl
  refine PySem.W.kxs_callWith (i := "ValueError.__init__") (x := a) rfl (Calls.evalArgs_plain ?_)
  have uf : H h'.objs.size = none := I1.hok.fresh (Nat.le_refl _)
  have I3 := I2.pins_of (pins' := [(h'.objs.size, PySem.W.kxs_mw "ValueError.__init__" a)]) fun p hp => by
    have e : p = (h'.objs.size, PySem.W.kxs_mw "ValueError.__init__" a) := by simpa using hp
    subst e
    exact ⟨eu, uf, Nat.ne_of_gt I1.lt, I1.nofs (Nat.le_refl _), fun v q => by cases q⟩
  refine thn ((pa_cons (X := cxS CX P w K mg base ps qual scope f cda cc A outer s H E cal pn) (pe_str (x := msg)) pa_nil rfl).run p4 _ _ _ H (fun vs H' => vs = [.str msg] ∧ H' = H) I3 ⟨rfl, rfl⟩) fun us1 s1 ⟨vs1, H1, J1, r1, e1, e2⟩ => ?_
  subst e1
  subst e2
  have pin := J1.pin (h'.objs.size, PySem.W.kxs_mw "ValueError.__init__" a) (by simp)
  refine ⟨pin.1, ?_⟩
  obtain ⟨t2, ho2⟩ := exo_at J1.hok ha
  have hlen : us1.length ≤ sizeLine := by
    rw [← Paired.length r1, sizeLine_eq]
    show 1 ≤ 16777216
    omega
  have J2 := J1.pins_of (pins' := []) (fun p hp => by simp at hp)
  obtain ⟨hp1, g1, d1, tk1, os1⟩ := s1
  refine call_mw hbm (J1.kIn _ _ hC) ho2 pin.1 hlen fun h3 t3 k3 he3 => ?_
  have J := J2.write (h' := h3) (t' := tk1) (x := a) (e := a) (o := exo a C none) (by rw [ha]; exact True.intro) (.inl rfl) k3 ⟨_, he3⟩ (exo_ok he3)
  have eu2 : upd H1 a (exo a C none) = H1 := by
    funext b
    by_cases hb : b = a
    · rw [hb, upd_same, ha]
    · rw [upd_ne hb]
  rw [eu2] at J
  exact tail _ J
theorem fn_super {k : Nat} {fd : FuncData} {st0 : Stmt} {rest : List Stmt} {sp : Sp} {C : Addr} {p0 p1 p2 p3 p4 p5 : Pos} {msg : Str} {j : Nat} {pl : Sem Bool}
    (T : SupOk P K mg C f cda cc fd qual ps scope (st0 :: rest)) (S : SupScope ps scope) (hst : st0 = .Expr (.Call (.Attribute (.Call (.Name "super" p0) [] [] p1) "__init__" p2) [.Constant (.str msg) j p3] [] p4) p5)
    (hcall : ∀ env : Env, eval (.Call (.Attribute (.Call (.Name "super" p0) [] [] p1) "__init__" p2) [.Constant (.str msg) j p3] [] p4) env = (do
      let ov ← attributeBase (.Call (.Name "super" p0) [] [] p1) "__init__" env (eval (.Call (.Name "super" p0) [] [] p1) env)
      standAt p2.atName
      let (f, first) ← holding [ov] (getMethod ov "__init__" pl)
      callWith p4 f first (backTo p4 (starEach [.Constant (.str msg) j p3] env)) []))
    (len : ∀ vs H Q E, sp vs H Q E → vs.length = ps.length)
    (hbody : ∀ (A : Around) (outer : List Env) (s : Shared) (H : Hp) (vs : List V) (Q : VK) (E : XK) (cal : Bool) (pn : List (Addr × Obj)), sp vs H Q E →
      ∃ a r t, vs = .ref a :: r ∧ H a = some (exo a C none) ∧ PSs (cxS CX P w K mg base ps qual scope f cda cc A outer s H E cal pn) rest t ∧ t { nx := fun _ H' => Q .non H', rt := Q } (vs.map some) H) :
    FnOk P w K mg base CX (k + 1) f fd ps sp ∧ L2H.FnH P w K mg base CX (k + 1) f fd ps sp :=
  ⟨⟨len, fun A outer s H args us vs Q E hr e0 hb r hsp => fn_super1 (pl := pl) (k := k) (cal := true) (pn := []) T S hst hcall (len _ _ _ _ hsp) hr.depth (fun _ => hr.hd) (fun _ z => absurd z List.not_mem_nil) e0 hb r (hbody A outer s H vs Q E true [] hsp)⟩,
   ⟨len, fun A outer s H args us vs Q E p hr _ hpin e0 hb r hsp => fn_super1 (pl := pl) (k := k) (cal := false) (pn := [p]) T S hst hcall (len _ _ _ _ hsp) hr.depth (fun z => absurd z (by decide)) (fun q hq => by rw [List.mem_singleton.mp hq]; exact hpin) e0 hb r (hbody A outer s H vs Q E false [p] hsp)⟩⟩
end
end VLX
namespace VL
open PySem PySem.Spec PyProof.Rows L2
section
variable {cl cl' : Cl} {H : Hp} {S : Addr → Prop}
mutual
theorem Rep.cl (e : cl'.b = cl.b) : ∀ {d : D} {v : V}, Rep cl H S d v → Rep cl' H S d v
  | .non, v, h => h
  | .bl _, v, h => h
  | .int _, v, h => h
  | .str _, v, h => h
  | .lst xs, v, h => by
    simp only [Rep] at h ⊢
    obtain ⟨a, vs, e1, s, r, q⟩ := h
    exact ⟨a, vs, e1, s, r, Reps.cl e q⟩
  | .scr xs, v, h => by
    simp only [Rep] at h ⊢
    obtain ⟨a, vs, e1, r, q⟩ := h
    exact ⟨a, vs, e1, by rw [e]; exact r, Reps.cl e q⟩
  | .tup xs, v, h => by
    simp only [Rep] at h ⊢
    obtain ⟨a, vs, e1, r, q⟩ := h
    exact ⟨a, vs, e1, r, Reps.cl e q⟩
  | .dct ks xs, v, h => by
    simp only [Rep] at h ⊢
    obtain ⟨a, vs, e1, s, r, z, q⟩ := h
    exact ⟨a, vs, e1, s, r, z, Reps.cl e q⟩
  | .dcT ks xs, v, h => by
    simp only [Rep] at h ⊢
    obtain ⟨a, vs, e1, s, r, z, q⟩ := h
    exact ⟨a, vs, e1, s, r, z, Reps.cl e q⟩
  | .obj C fs xs, v, h => by
    simp only [Rep] at h ⊢
    obtain ⟨a, Ca, dx, vs, e1, s, c, r, z, q⟩ := h
    exact ⟨a, Ca, dx, vs, e1, s, by rw [e]; exact c, r, z, Reps.cl e q⟩
  | .kt, v, h => by
    simp only [Rep] at h ⊢
    obtain ⟨a, e1, r⟩ := h
    exact ⟨a, e1, by rw [e]; exact r⟩
  | .opq, v, h => by simp only [Rep]
theorem Reps.cl (e : cl'.b = cl.b) : ∀ {ds : List D} {vs : List V}, Reps cl H S ds vs → Reps cl' H S ds vs
  | [], vs, h => h
  | d :: ds, vs, h => by
    simp only [Reps] at h ⊢
    obtain ⟨v, r, e1, h1, h2⟩ := h
    exact ⟨v, r, e1, Rep.cl e h1, Reps.cl e h2⟩
end
end
mutual
/-- no error of a suite in it -/
def O.nx : O → Bool
  | .xo _ _ _ => false
  | .lf _ _ => true
  | .lst xs => O.nxs xs
  | .tup xs => O.nxs xs
  | .dct _ xs => O.nxs xs
  | .dcT _ xs => O.nxs xs
  | .obj _ _ xs => O.nxs xs
  | .xn _ _ _ => false
def O.nxs : List O → Bool
  | [] => true
  | o :: os => o.nx && O.nxs os
end
theorem O.nxs_eq (xs : List O) : O.nxs xs = xs.all O.nx := by
  induction xs with
  | nil => rfl
  | cons x r ih => rw [O.nxs, ih]; rfl
section
variable {w w' : Wd} {H : Hp}
structure ClTo (w w' : Wd) : Prop where
  b : w'.cl.b = w.cl.b
  Z : w'.Z = w.Z
  B : w'.B = w.B
  T : w'.T = w.T
theorem ClTo.S (c : ClTo w w') (k : Kd) : w'.S k = w.S k := by
  cases k with
  | fz => exact c.Z
  | bo => exact c.B
  | tb => exact c.T
abbrev ExTo (w w' : Wd) : Prop := ∀ a Ca d, w.cl.ex a Ca d → w'.cl.ex a Ca d
mutual
theorem RepO.cl (c : ClTo w w') : ∀ {o : O} {v : V} {F : Addr → Prop}, (ExTo w w' ∨ o.nx = true) → RepO w H o v F → RepO w' H o v F
  | .lf k d, v, F, x, h => by
    simp only [RepO] at h ⊢
    rw [c.S]
    exact Rep.cl c.b h
  | .lst xs, v, F, x, h => by
    simp only [RepO] at h ⊢
    obtain ⟨a, vs, G, e, r, fa, ga, sg, q⟩ := h
    exact ⟨a, vs, G, e, r, fa, ga, sg, RepOs.cl c (x.imp id fun n => by simpa [O.nx] using n) q⟩
  | .tup xs, v, F, x, h => by
    simp only [RepO] at h ⊢
    obtain ⟨a, vs, e, r, q⟩ := h
    exact ⟨a, vs, e, r, RepOs.cl c (x.imp id fun n => by simpa [O.nx] using n) q⟩
  | .dct ks xs, v, F, x, h => by
    simp only [RepO] at h ⊢
    obtain ⟨a, vs, G, e, r, z, fa, ga, sg, q⟩ := h
    exact ⟨a, vs, G, e, r, z, fa, ga, sg, RepOs.cl c (x.imp id fun n => by simpa [O.nx] using n) q⟩
  | .dcT ks xs, v, F, x, h => by
    simp only [RepO] at h ⊢
    obtain ⟨a, vs, G, e, r, z, fa, ga, sg, q⟩ := h
    exact ⟨a, vs, G, e, r, z, fa, ga, sg, RepOs.cl c (x.imp id fun n => by simpa [O.nx] using n) q⟩
  | .obj C fs xs, v, F, x, h => by
    simp only [RepO] at h ⊢
    obtain ⟨a, Ca, dx, vs, G, e, cc, r, z, fa, ga, sg, q⟩ := h
    exact ⟨a, Ca, dx, vs, G, e, by rw [c.b]; exact cc, r, z, fa, ga, sg, RepOs.cl c (x.imp id fun n => by simpa [O.nx] using n) q⟩
  | .xn C fs ds, v, F, x, h => by
    simp only [RepO] at h ⊢
    obtain ⟨a, Ca, d, e, ex, cc, q⟩ := h
    have x : ExTo w w' := x.elim id fun n => by cases n
    refine ⟨a, Ca, d, e, x _ _ _ ex, by rw [c.b]; exact cc, ?_⟩
    rcases q with q | ⟨dd, kvs, e1, z, r, e2, q⟩ | ⟨e1, e2, dd, kvs, e3, z, r⟩
    · exact .inl q
    · exact .inr (.inl ⟨dd, kvs, e1, by rw [c.Z]; exact z, r, e2, by rw [c.Z]; exact Reps.cl c.b q⟩)
    · exact .inr (.inr ⟨e1, e2, dd, kvs, e3, by rw [c.T]; exact z, r⟩)
  | .xo C fs xs, v, F, x, h => by
    simp only [RepO] at h ⊢
    obtain ⟨a, Ca, dd, kvs, G, e, ex, cc, r, z, fa, ga, sg, q⟩ := h
    have x : ExTo w w' := x.elim id fun n => by cases n
    exact ⟨a, Ca, dd, kvs, G, e, x _ _ _ ex, by rw [c.b]; exact cc, r, z, fa, ga, sg, RepOs.cl c (.inl x) q⟩
theorem RepOs.cl (c : ClTo w w') : ∀ {os : List O} {vs : List V} {F : Addr → Prop}, (ExTo w w' ∨ O.nxs os = true) → RepOs w H os vs F → RepOs w' H os vs F
  | [], vs, F, _, h => h
  | o :: os, vs, F, x, h => by
    simp only [RepOs] at h ⊢
    obtain ⟨v, r, F1, F2, e, s1, s2, d, h1, h2⟩ := h
    exact ⟨v, r, F1, F2, e, s1, s2, d, RepO.cl c (x.imp id fun n => by simp only [O.nxs, Bool.and_eq_true] at n; exact n.1) h1, RepOs.cl c (x.imp id fun n => by simp only [O.nxs, Bool.and_eq_true] at n; exact n.2) h2⟩
end
end
def nxO : Option O → Bool
  | none => true
  | some o => o.nx
def nxE (env : VEnv) : Bool := env.all nxO
theorem nxE_get {env : VEnv} {i : Nat} {o : O} (n : nxE env = true) (e : env[i]? = some (some o)) : o.nx = true := by
  have := List.all_eq_true.mp n _ (List.mem_of_getElem? e)
  exact this
section
variable {f : Fm} {c' : Cl} {Z : Addr → Prop} {Fs : Nat → Addr → Prop} {env : VEnv} {σ : L2.St} {H : Hp} {o : O} {v : V} {F : Addr → Prop}
def Fm.ex (f : Fm) (c' : Cl) : Fm := { f with cl := c' }
theorem GoodAt.ex (h : c'.b = f.cl.b) (x : (∀ a Ca d, f.cl.ex a Ca d → c'.ex a Ca d) ∨ nxE env = true) (g : GoodAt f Z Fs env σ H) : GoodAt (f.ex c') Z Fs env σ H :=
  ⟨fun i o e => let ⟨v, ev, r⟩ := g.rep i o e; ⟨v, ev, RepO.cl (w := f.w Z) (w' := (f.ex c').w Z) ⟨h, rfl, rfl, rfl⟩ (x.imp id fun n => nxE_get n e) r⟩, g.dis, g.own, g.zal, g.bal, g.keep, ⟨g.there.1, fun P q t => g.there.2 P q (h ▸ t)⟩, g.fnew, g.znew, g.zold, g.pin, g.len⟩
theorem GoodAt.frz (g : GoodAt f Z Fs env σ H) (x : Extra f Z Fs H F) : GoodAt f (fun a => Z a ∨ F a) Fs env σ H :=
  ⟨fun i o e => let ⟨v, ev, r⟩ := g.rep i o e; ⟨v, ev, RepO.keep (w := f.w Z) (w' := f.w fun a => Z a ∨ F a) (p := fun _ => false) rfl (keepZ (Same.refl H) (fun _ z => .inl z) rfl rfl) (fun _ _ e => e) (O.no_none o) (fun _ _ _ e _ => e) r⟩, g.dis,
    fun i a h => ⟨fun z => z.elim (g.own i a h).1 fun q => (x a q).2.2.2.2 i h, (g.own i a h).2⟩, fun a z => z.elim (g.zal a) fun q => (x a q).2.2.1.ne, g.bal, g.keep, g.there, g.fnew,
    fun a z => z.elim (g.znew a) fun q => .inr (x a q).2.2.2.1, fun a z => .inl (g.zold a z), g.pin, g.len⟩
theorem GoodV.frz (n : o.no notFz = true) (g : GoodV f env o v σ H) : ∃ Z Fs, GoodAt f Z Fs env σ H ∧ Rep f.cl H Z o.er v := by
  obtain ⟨Z, Fs, F, g, r, x⟩ := g
  refine ⟨_, Fs, g.frz x, RepO.toRep (w := f.w Z) (p := notFz) (fun k hk => ?_) n (fun _ z => .inr z) r⟩
  cases k with
  | fz => exact fun _ z => .inl z
  | bo => cases hk
  | tb => cases hk
end
def frzO : O → Option O
  | .lf .bo d => some (.lf .bo d)
  | o => if o.no notFz then some (lfk .fz o.er) else none
theorem GoodV.fz {f : Fm} {env : VEnv} {o o' : O} {v : V} {σ : L2.St} {H : Hp} (e : frzO o = some o') (g : GoodV f env o v σ H) : GoodV f env o' v σ H := by
  unfold frzO at e
  split at e
  · cases e; exact g
  · split at e
    · rename_i n
      cases e
      obtain ⟨Z, Fs, g', r⟩ := g.frz n
      exact ⟨Z, Fs, fun _ => False, g', lfk_rep (w := f.w Z) (k := .fz) r, fun _ z => z.elim⟩
    · cases e
def sSetZ (i : Nat) (mx : VEnv → RX O) : VEnv → RS := fun env => (mx env).bind fun o e => match frzO o with
  | some o' => if i < e.length then .ok .next (e.set i (some o')) else .no
  | none => .no
section
variable {X : Cx} {P : List Nat} {e : Expr} {mx : VEnv → RX O} {pos : Pos}
theorem vs_setZ {i : Nat} {x : Str} {pos' : Pos} (he : VX X P e mx) (hN : X.N.Nodup) (hi : X.N[i]? = some x := by rfl) (hx : Loc X.env.scope x := by first | exact Or.inl rfl | exact Or.inr rfl) (hP : P.contains i = false := by rfl)
    (hs : swapsWith e (some (.Name x pos')) pos.line X.env = pure false := by rfl) (hf : X.fn x = true ∨ X.env.scope.names.lookup x = some .local := by first | exact .inl rfl | exact .inr rfl) : VS X P (.Assign [.Name x pos'] e pos) (sSetZ i mx) := fun W tk f hfo =>
  (ps_set hN hi hx (he W tk f hfo) hs hf).imp fun D σ H h => by
    obtain ⟨env, g, h⟩ := rS_to h
    refine rX_then g h fun o env' v H' gv h' => ?_
    split at h'
    · rename_i o' eo
      split at h'
      · rename_i hlt
        exact h' _ H' ((gv.fz eo).set hlt (pin_ne hfo.2 hP))
      · exact h'.elim
    · exact h'.elim
end
def subE (C D : String) : Bool := C == D || D == "DyeError"
abbrev Errs := List (String × List String)
def Errs.has (E : Errs) (C : String) : Bool := E.any fun p => p.1 == C
def Errs.fl (E : Errs) (C f : String) : Bool := E.any fun p => p.1 == C && p.2.contains f
structure ErrF (K : PySem.W.Frag) (mg : Str → Option Value) (E : Errs) : Prop where
  there : ∀ C ∈ E, ∃ Ca, mg (Str.ofString C.1) = some (.ref Ca)
  one : ∀ C ∈ E, ∀ Ca, mg (Str.ofString C.1) = some (.ref Ca) → ExcC K Ca ∧ XfC K Ca ∧ PySem.W.kitOne K (.ref Ca) (.type "ValueError") = some true ∧ ∀ f ∈ C.2, PySem.W.findIn K (.ref Ca) (Str.ofString f) = some none
  two : ∀ C ∈ E, ∀ D ∈ E, ∀ Ca Da, mg (Str.ofString C.1) = some (.ref Ca) → mg (Str.ofString D.1) = some (.ref Da) → PySem.W.kitOne K (.ref Ca) (.ref Da) = some (subE C.1 D.1) ∧ PySem.W.exmOne K (.ref Ca) (.ref Da) = some (subE C.1 D.1)
theorem Errs.has_ {E : Errs} {C : String} (h : E.has C = true) : ∃ p ∈ E, p.1 = C := by
  obtain ⟨p, m, e⟩ := List.any_eq_true.mp h
  exact ⟨p, m, by simpa using e⟩
theorem Errs.fl_ {E : Errs} {C f : String} (h : E.fl C f = true) : ∃ p ∈ E, p.1 = C ∧ f ∈ p.2 := by
  obtain ⟨p, m, e⟩ := List.any_eq_true.mp h
  rw [Bool.and_eq_true] at e
  exact ⟨p, m, by simpa using e.1, by simpa using e.2⟩
theorem clM_at {X : Cx} {c : Cl} {C : String} {Ca : Addr} (hc : ClOk X c) (h : c.b.at_ C = some Ca) : X.mg (Str.ofString C) = some (.ref Ca) := by
  rw [hc.1.1.1] at h
  unfold clM at h
  split at h
  · rename_i a e; cases h; exact e
  · cases h
theorem clM_of {X : Cx} {c : Cl} {C : String} {Ca : Addr} (hc : ClOk X c) (h : X.mg (Str.ofString C) = some (.ref Ca)) : c.b.at_ C = some Ca := by
  rw [hc.1.1.1]
  unfold clM
  rw [h]
section
variable {X : Cx} {P : List Nat} {a b : Expr} {es : List Expr} {ma mb : DEnv → R O} {pos : Pos} {E : Errs}
def gIsE (E : Errs) (D : String) (o : O) : R O := match o with
  | .xn C _ _ => if E.has C then .ok (.lf .fz (.bl (subE C D))) else .no
  | _ => .no
def gIsV (E : Errs) (o : O) : R O := match o with
  | .xn C _ _ => if E.has C then .ok (.lf .fz (.bl true)) else .no
  | _ => .no
def gIsT (E : Errs) (Ds : List String) (o : O) : R O := match o with
  | .xn C _ _ => if E.has C then .ok (.lf .fz (.bl (Ds.any (subE C)))) else .no
  | _ => .no
theorem xn_at {w : Wd} {H : Hp} {C : String} {fs : List String} {ds : List D} {v : V} (hc : ClOk X w.cl) (h : RepXn w H C fs ds v) : ∃ a Ca d oe, v = .ref a ∧ (a, oe) ∈ X.pn ∧ Zc (.ref Ca) d oe ∧ (∃ vs, oe.data = .fields vs) ∧ X.mg (Str.ofString C) = some (.ref Ca) ∧ (∀ dd, d = some dd → ∃ u, H dd = some u) ∧
    ((fs = [] ∧ ds = [] ∧ d = none) ∨ (∃ dd kvs, d = some dd ∧ w.Z dd ∧ H dd = some (.xd kvs) ∧ kvs.map (·.1) = fs.map Str.ofString ∧ Reps w.cl H w.Z ds (kvs.map (·.2))) ∨ (fs = [] ∧ ds = [] ∧ ∃ dd kvs, d = some dd ∧ w.T dd ∧ H dd = some (.xd kvs))) := by
  obtain ⟨a, Ca, d, rfl, hex, hat, hd⟩ := h
  obtain ⟨_, oe, pn, ep, hz, hf⟩ := hc.2 a Ca d hex
  refine ⟨a, Ca, d, oe, rfl, by rw [ep]; exact List.mem_cons_self, hz, hf, clM_at hc hat, fun dd ed => ?_, hd⟩
  rcases hd with ⟨_, _, e⟩ | ⟨dd', kvs, e1, _, e2, _⟩ | ⟨_, _, dd', kvs, e1, _, e2⟩
  · rw [e] at ed; cases ed
  · rw [e1] at ed; cases ed; exact ⟨_, e2⟩
  · rw [e1] at ed; cases ed; exact ⟨_, e2⟩
theorem call_isX : CallR X (.builtin "isinstance") (fun xs H Q => ∃ a D d oe, (a, oe) ∈ X.pn ∧ Zc (.ref D) d oe ∧ (∃ vs, oe.data = .fields vs) ∧ ExcC X.K D ∧ rIsD X.K D a d xs H Q) := by
  intro pins s σ H xs us Q I r h
  obtain ⟨a, D, d, oe, h1, h2, h3, h4, h5⟩ := h
  exact call_isD h1 h2 h3 h4 pins s σ H xs us Q I r h5
theorem call_isXT : CallR X (.builtin "isinstance") (fun xs H Q => ∃ a D d oe, (a, oe) ∈ X.pn ∧ Zc (.ref D) d oe ∧ (∃ vs, oe.data = .fields vs) ∧ ExcC X.K D ∧ rIsDT X.K D a d xs H Q) := by
  intro pins s σ H xs us Q I r h
  obtain ⟨a, D, d, oe, h1, h2, h3, h4, h5⟩ := h
  exact call_isDT h1 h2 h3 h4 pins s σ H xs us Q I r h5
theorem ve_isE {q q2 : Pos} {x : Str} (D : String) (hE : ErrF X.K X.mg E) (hm : X.mg "isinstance" = none) (ha : VE X a ma) (hD : E.has D = true := by rfl) (hx : x = Str.ofString D := by rfl) (hgx : Gl X x := by rfl) (hdx : (x == ("__debug__" : Str)) = false := by decide) (hg : Gl X "isinstance" := by rfl)
    (hst : starEach [a, .Name x q2] X.env = (false, eval a X.env) :: starEach [.Name x q2] X.env := by rfl) : VE X (.Call (.Name "isinstance" q) [a, .Name x q2] [] pos) (e1 (gIsE E D) ma) := fun W tk w hc => by
  obtain ⟨p, hp, rfl⟩ := Errs.has_ hD
  obtain ⟨Da, eD⟩ := hE.there p hp
  refine (pe_callB call_isX hg hm (by decide +kernel) (pa_cons (ha W tk w hc) (pa_cons (pe_glob (v := .ref Da) hgx (by rw [hx]; exact eD) rfl hdx) pa_nil rfl) hst) (by decide) (by decide) hst).imp fun σ H Q h => ?_
  obtain ⟨env, G, h⟩ := rE_to h
  refine rE_of G (Out.bind (Same.refl H) h fun o1 v H1 F1 _ s1 p1 f1 h1 => ?_)
  unfold gIsE at h1
  split at h1
  · rename_i C fs ds _
    by_cases hC : E.has C = true
    · rw [if_pos hC] at h1
      simp only [RepO] at p1
      obtain ⟨a', Ca, d, oe, rfl, hpn, hz, hf, hmC, hd, _⟩ := xn_at hc p1
      obtain ⟨pC, hpC, rfl⟩ := Errs.has_ hC
      exact ⟨a', Ca, d, oe, hpn, hz, hf, (hE.one pC hpC Ca hmC).1, .ref Da, .ref Da, _, rfl, .own Da, (hE.two pC hpC p hp Ca Da hmC eD).1, hd, out_bl h1⟩
    · rw [if_neg hC] at h1; exact h1.elim
  · exact h1.elim
theorem ve_isV {q q2 : Pos} (hE : ErrF X.K X.mg E) (hm : X.mg "isinstance" = none) (hv : X.mg "ValueError" = none) (ha : VE X a ma) (hgx : Gl X "ValueError" := by rfl) (hg : Gl X "isinstance" := by rfl)
    (hst : starEach [a, .Name "ValueError" q2] X.env = (false, eval a X.env) :: starEach [.Name "ValueError" q2] X.env := by rfl) : VE X (.Call (.Name "isinstance" q) [a, .Name "ValueError" q2] [] pos) (e1 (gIsV E) ma) := fun W tk w hc => by
  refine (pe_callB call_isX hg hm (by decide +kernel) (pa_cons (ha W tk w hc) (pa_cons (pe_bltn (v := .ty "ValueError") hgx hv PyProof.Rows.Boot.«ValueError» rfl (by decide) (by decide)) pa_nil rfl) hst) (by decide) (by decide) hst).imp fun σ H Q h => ?_
  obtain ⟨env, G, h⟩ := rE_to h
  refine rE_of G (Out.bind (Same.refl H) h fun o1 v H1 F1 _ s1 p1 f1 h1 => ?_)
  unfold gIsV at h1
  split at h1
  · rename_i C fs ds _
    by_cases hC : E.has C = true
    · rw [if_pos hC] at h1
      simp only [RepO] at p1
      obtain ⟨a', Ca, d, oe, rfl, hpn, hz, hf, hmC, hd, _⟩ := xn_at hc p1
      obtain ⟨pC, hpC, rfl⟩ := Errs.has_ hC
      have z := hE.one pC hpC Ca hmC
      exact ⟨a', Ca, d, oe, hpn, hz, hf, z.1, .ty "ValueError", .type "ValueError", _, rfl, .ty _, z.2.2.1, hd, out_bl h1⟩
    · rw [if_neg hC] at h1; exact h1.elim
  · exact h1.elim
def VCs (X : Cx) (E : Errs) (es : List Expr) (Ds : List String) : Prop := ∃ (cs : List V) (us : List Value), PA X es (fun _ H Q => Q cs H) ∧ Paired ClsV cs us ∧ cs.length = Ds.length ∧ ∀ p ∈ E, ∀ Ca, X.mg (Str.ofString p.1) = some (.ref Ca) → PySem.W.kitAny X.K (.ref Ca) us = some (Ds.any (subE p.1))
theorem vcs_nil : VCs X E [] [] := ⟨[], [], pa_nil, .nil, rfl, fun _ _ _ _ => rfl⟩
theorem vcs_cons {q2 : Pos} {x : Str} {Ds : List String} (D : String) (hE : ErrF X.K X.mg E) (h : VCs X E es Ds) (hD : E.has D = true := by rfl) (hx : x = Str.ofString D := by rfl) (hgx : Gl X x := by rfl) (hdx : (x == ("__debug__" : Str)) = false := by decide)
    (hst : starEach (.Name x q2 :: es) X.env = (false, eval (.Name x q2) X.env) :: starEach es X.env := by rfl) : VCs X E (.Name x q2 :: es) (D :: Ds) := by
  obtain ⟨cs, us, pa, pr, hl, hk⟩ := h
  obtain ⟨p, hp, rfl⟩ := Errs.has_ hD
  obtain ⟨Da, eD⟩ := hE.there p hp
  refine ⟨.ref Da :: cs, .ref Da :: us, (pa_cons (pe_glob (v := .ref Da) hgx (by rw [hx]; exact eD) rfl hdx) pa hst).imp fun _ _ _ h => h, .cons (.own Da) pr, by simp [hl], fun pC hpC Ca hC => ?_⟩
  refine kitAny_cons (b := subE pC.1 p.1) (hE.two pC hpC p hp Ca Da hC eD).1 (fun e => ?_) fun e => ?_
  · rw [List.any_cons, e, Bool.false_or]; exact hk pC hpC Ca hC
  · rw [List.any_cons, e, Bool.true_or]
theorem ve_isT {q q2 : Pos} {k : Nat} {Ds : List String} (hE : ErrF X.K X.mg E) (hm : X.mg "isinstance" = none) (ha : VE X a ma) (hcs : VCs X E (b :: es) Ds) (hDs : decide (Ds.length ≤ 1000) = true := by rfl) (hg : Gl X "isinstance" := by rfl)
    (hst : starEach [a, .Tuple (b :: es) k q2] X.env = (false, eval a X.env) :: starEach [.Tuple (b :: es) k q2] X.env := by rfl) (hst2 : starEach [.Tuple (b :: es) k q2] X.env = (false, eval (.Tuple (b :: es) k q2) X.env) :: starEach [] X.env := by rfl) : VE X (.Call (.Name "isinstance" q) [a, .Tuple (b :: es) k q2] [] pos) (e1 (gIsT E Ds) ma) := fun W tk w hc => by
  obtain ⟨cs, us, pa, pr, hl, hk⟩ := hcs
  refine (pe_callB call_isXT hg hm (by decide +kernel) (pa_cons (ha W tk w hc) (pa_cons (pe_tup pa) pa_nil hst2) hst) (by decide) (by decide) hst).imp fun σ H Q h => ?_
  obtain ⟨env, G, h⟩ := rE_to h
  refine rE_of G (Out.bind (Same.refl H) h fun o1 v H1 F1 _ s1 p1 f1 h1 => ?_)
  unfold gIsT at h1
  split at h1
  · rename_i C fs ds _
    by_cases hC : E.has C = true
    · rw [if_pos hC] at h1
      refine ⟨by rw [hl, sizeLine_eq]; have := of_decide_eq_true hDs; omega, fun tp htp => ?_⟩
      have sm : Same H1 (upd H1 tp (.tup cs)) := Same.of fun b o e => by rw [upd_ne (ne_of_none e htp)]; exact e
      simp only [RepO] at p1
      obtain ⟨a', Ca, d, oe, rfl, hpn, hz, hf, hmC, hd, _⟩ := xn_at hc p1
      obtain ⟨pC, hpC, rfl⟩ := Errs.has_ hC
      refine ⟨a', Ca, d, oe, hpn, hz, hf, (hE.one pC hpC Ca hmC).1, tp, cs, us, _, rfl, upd_same, pr, hk pC hpC Ca hmC, fun dd e => ?_, ?_⟩
      · obtain ⟨u, eu⟩ := hd dd e
        exact (sm _ _ eu).ex
      · exact h1 _ _ (fun _ => False) sm rfl fun _ z => z.elim
    · rw [if_neg hC] at h1; exact h1.elim
  · exact h1.elim
def lkD (f : Str) : List Str → List D → Option D
  | k :: ks, d :: ds => if f == k then some d else lkD f ks ds
  | _, _ => none
theorem lkD_rep {cl : Cl} {H : Hp} {S : Addr → Prop} {f : Str} : ∀ {kvs : List (Str × V)} {ks : List Str} {ds : List D} {d : D}, kvs.map (·.1) = ks → Reps cl H S ds (kvs.map (·.2)) → lkD f ks ds = some d → ∃ v, kvs.lookup f = some v ∧ Rep cl H S d v
  | [], ks, ds, d, e, h, l => by subst e; simp [lkD] at l
  | (k, v) :: kvs, [], ds, d, e, h, l => by simp at e
  | (k, v) :: kvs, k' :: ks, [], d, e, h, l => by simp [lkD] at l
  | (k, v) :: kvs, k' :: ks, d' :: ds, d, e, h, l => by
    simp only [List.map_cons, List.cons.injEq] at e
    obtain ⟨rfl, e⟩ := e
    simp only [List.map_cons, Reps] at h
    obtain ⟨v', r, ev, h1, h2⟩ := h
    obtain ⟨rfl, rfl⟩ := List.cons.inj ev
    simp only [lkD] at l
    rw [List.lookup_cons]
    cases q : f == k with
    | true => simp only [q, if_true] at l; cases l; exact ⟨_, rfl, h1⟩
    | false => simp only [q, Bool.false_eq_true, if_false] at l; exact lkD_rep e h2 l
def gXf (E : Errs) (f : String) (o : O) : R O := match o with
  | .xn C fs ds => if E.fl C f then (match lkD (Str.ofString f) (fs.map Str.ofString) ds with
    | some d => .ok (lfk .fz d)
    | none => .no) else .no
  | _ => .no
theorem ve_xf {x : Str} (f : String) (hE : ErrF X.K X.mg E) (ha : VE X a ma) (hx : x = Str.ofString f := by rfl) (hb : attributeBase a x X.env (eval a X.env) = eval a X.env := by rfl) : VE X (.Attribute a x pos) (e1 (gXf E f) ma) := fun W tk w hc => ⟨fun pins s σ H Q I h => by
  obtain ⟨env, G, h⟩ := rE_to h
  refine attr_of hb (thn ((ha W tk w hc).run pins s σ H (fun v H1 => ∃ C fs ds d F1, Same H H1 ∧ RepXn w H1 C fs ds v ∧ E.fl C f = true ∧ lkD (Str.ofString f) (fs.map Str.ofString) ds = some d ∧ Out w W σ H H1 (RepO w) (.ok (lfk .fz d)) Q ∧ Fresh H H1 F1) I (rE_of G (Out.bind (Same.refl H) h fun o1 v H1 F1 _ s1 p1 f1 h1 => ?_))) fun u s1 hh => ?_)
  · unfold gXf at h1
    split at h1
    · rename_i C fs ds _
      by_cases hC : E.fl C f = true
      · rw [if_pos hC] at h1
        simp only [RepO] at p1
        split at h1
        · rename_i d ed
          exact ⟨C, fs, ds, d, F1, s1, p1, hC, ed, h1, f1⟩
        · exact h1.elim
      · rw [if_neg hC] at h1; exact h1.elim
    · exact h1.elim
  · obtain ⟨v, H1, I1, rv, C, fs, ds, d, F1, sm, p1, hC, ed, h1, f1⟩ := hh
    obtain ⟨a', Ca, d', oe, rfl, hpn, hz, hf, hmC, hd, hdat⟩ := xn_at hc p1
    obtain ⟨pC, hpC, rfl, hfl⟩ := Errs.fl_ hC
    obtain ⟨_, T, _, hno⟩ := hE.one pC hpC Ca hmC
    obtain rfl : u = Value.ref a' := rv
    rcases hdat with ⟨rfl, rfl, _⟩ | ⟨dd, kvs, rfl, zd, eH, ek, rr⟩ | ⟨rfl, rfl, _⟩
    · simp [lkD] at ed
    · obtain ⟨v, lv, rd⟩ := lkD_rep ek rr ed
      obtain ⟨ga, _⟩ := I1.pin (a', oe) (List.mem_append_left _ hpn)
      obtain ⟨vs, hdt⟩ := hf
      have hxo : ObjOk X.prog X.w H1 s1.heap dd (.xd kvs) := I1.hok dd _ eH
      obtain ⟨mA, hns, hr⟩ := hxo
      obtain ⟨od, ho, hl⟩ := lookIn_ns hns
      subst hx
      obtain ⟨u, hu, ru⟩ := RelO.some_of (v := v) (o := mA (Str.ofString f)) (by rw [← lv]; exact hr (Str.ofString f))
      have J : PySem.W.InstAt s1.heap a' oe Ca (some od) := ⟨ga, hz.1, by unfold PySem.W.notCls; rw [hdt] <;> rfl, by rw [hz.2]; exact ho⟩
      exact HandSPX.exc_get I1.kIn J T.ga T.gg T.exC (PySem.W.findObj_own T.hdC (hno f hfl) rfl (by rw [hl, hu])) (handed_of ru) ⟨v, H1, I1.tok _, ru, h1 v H1 (fun _ => False) (Same.refl H1) (lfk_rep (k := .fz) rd) fun _ z => z.elim⟩
    · simp [lkD] at ed⟩
end
end VL
namespace VL
open PySem PySem.Spec PyProof.Rows L2
mutual
/-- owned through and through; its leaves are such as nobody can write -/
def O.own : O → Bool
  | .lf _ d => d.imm
  | .lst xs => O.owns xs
  | .tup xs => O.owns xs
  | .dct _ xs => O.owns xs
  | .dcT _ xs => O.owns xs
  | .obj _ _ xs => O.owns xs
  | .xn _ _ _ => false
  | .xo _ _ _ => false
def O.owns : List O → Bool
  | [] => true
  | o :: os => o.own && O.owns os
end
theorem O.owns_eq (xs : List O) : O.owns xs = xs.all O.own := by
  induction xs with
  | nil => rfl
  | cons x r ih => rw [O.owns, ih]; rfl
section
variable {w w' : Wd} {H : Hp}
mutual
theorem RepO.own (e : w'.cl.b = w.cl.b) : ∀ {o : O} {v : V} {F : Addr → Prop}, o.own = true → RepO w H o v F → RepO w' H o v F
  | .lf k d, v, F, x, h => by
    simp only [RepO] at h ⊢
    exact Rep.imm (fun _ _ q => q) (by simpa [O.own] using x) (Rep.cl e h)
  | .lst xs, v, F, x, h => by
    simp only [RepO] at h ⊢
    obtain ⟨a, vs, G, e1, r, fa, ga, sg, q⟩ := h
    exact ⟨a, vs, G, e1, r, fa, ga, sg, RepOs.own e (by simpa [O.own] using x) q⟩
  | .tup xs, v, F, x, h => by
    simp only [RepO] at h ⊢
    obtain ⟨a, vs, e1, r, q⟩ := h
    exact ⟨a, vs, e1, r, RepOs.own e (by simpa [O.own] using x) q⟩
  | .dct ks xs, v, F, x, h => by
    simp only [RepO] at h ⊢
    obtain ⟨a, vs, G, e1, r, z, fa, ga, sg, q⟩ := h
    exact ⟨a, vs, G, e1, r, z, fa, ga, sg, RepOs.own e (by simpa [O.own] using x) q⟩
  | .dcT ks xs, v, F, x, h => by
    simp only [RepO] at h ⊢
    obtain ⟨a, vs, G, e1, r, z, fa, ga, sg, q⟩ := h
    exact ⟨a, vs, G, e1, r, z, fa, ga, sg, RepOs.own e (by simpa [O.own] using x) q⟩
  | .obj C fs xs, v, F, x, h => by
    simp only [RepO] at h ⊢
    obtain ⟨a, Ca, dx, vs, G, e1, cc, r, z, fa, ga, sg, q⟩ := h
    exact ⟨a, Ca, dx, vs, G, e1, by rw [e]; exact cc, r, z, fa, ga, sg, RepOs.own e (by simpa [O.own] using x) q⟩
  | .xn C fs ds, v, F, x, h => by simp [O.own] at x
  | .xo C fs ds, v, F, x, h => by simp [O.own] at x
theorem RepOs.own (e : w'.cl.b = w.cl.b) : ∀ {os : List O} {vs : List V} {F : Addr → Prop}, O.owns os = true → RepOs w H os vs F → RepOs w' H os vs F
  | [], vs, F, _, h => h
  | o :: os, vs, F, x, h => by
    simp only [RepOs] at h ⊢
    simp only [O.owns, Bool.and_eq_true] at x
    obtain ⟨v, r, F1, F2, e1, s1, s2, d, h1, h2⟩ := h
    exact ⟨v, r, F1, F2, e1, s1, s2, d, RepO.own e x.1 h1, RepOs.own e x.2 h2⟩
end
end
def ClOk0 (K : PySem.W.Frag) (mg : Str → Option Value) (c : Cl) : Prop := CbOk K mg c.b ∧ ∀ a Ca d, ¬ c.ex a Ca d
theorem ClOk0.ok {X : Cx} {c : Cl} (h : ClOk0 X.K X.mg c) : ClOk X c := ⟨h.1, fun a Ca d q => absurd q (h.2 a Ca d)⟩
theorem ClOk.ok0 {X : Cx} {c : Cl} (hc : X.calm = true) (h : ClOk X c) : ClOk0 X.K X.mg c := ⟨h.1, fun a Ca d q => by
  have := (h.2 a Ca d q).1
  rw [hc] at this; cases this⟩
def startE (n : Nat) (os : List O) : VEnv := os.map some ++ List.replicate (n - os.length) none
def FOut (f : Fm) (Q : VK) (E : XK) (r : RS) : Prop := match r with
  | .ok .next env' => ∀ σ' H', Good f env' σ' H' → Q .non H'
  | .ok (.ret o) env' => ∀ v σ' H', GoodV f env' o v σ' H' → Q v H'
  | .ok _ _ => False
  | .ex x env' => ∀ cls d σ' H', GoodX f env' x cls d σ' H' → E cls d H'
  | .no => False
def SpV (K : PySem.W.Frag) (mg : Str → Option Value) (N : List Str) (n : Nat) (P : List Nat) (m : VEnv → RS) : Sp := fun vs H Q E => vs.length = n ∧ ∃ f env, ClOk0 K mg f.cl ∧ f.pin.map (·.1) = P ∧ Good f env (L2.start N vs) H ∧ FOut f Q E (m env)
section
variable {P : Program} {w : World} {K : PySem.W.Frag} {mg : Str → Option Value} {base : Heap}
theorem okC {CX : CXT} {x qual : Str} {st : Stmt} {f : Addr} {fd : FuncData} {N ps : List Str} {k : Nat} {sp : Sp} (F : Fun K x qual st f fd) (S : FnScope N ps (defScope st)) (hl : ∀ vs H Q E, sp vs H Q E → vs.length = ps.length)
    (hb : ∀ (cdv : Value) (A : Around) (outer : List Env) (s : Shared) (H : Hp) (vs : List V) (Q : VK) (E : XK), Room k (A.deeper (envOfC qual (defScope st) s.heap.objs.size f cdv)) → sp vs H Q E → ∃ t, PSs (cxOf CX P w K mg base N qual (defScope st) f cdv A outer s H E) (defBody st) t ∧ t { nx := fun _ H' => Q .non H', rt := Q } (L2.start N vs) H) : FnOk P w K mg base CX (k + 1) f fd ps sp := by
  obtain ⟨oc, od, kV, doc, pm, an, cdv, ct, osl, rfl, lk, cd⟩ := F.ex
  exact fn_of lk cd S hl fun A outer s H vs Q E r h => hb cdv A outer s H vs Q E r h
theorem fn_v {x qual : Str} {st : Stmt} {f : Addr} {fd : FuncData} {N ps : List Str} {k : Nat} {pi : List Nat} {m : VEnv → RS} (F : Fun K x qual st f fd) (S : FnScope N ps (defScope st))
    (hb : ∀ (cdv : Value) (A : Around) (outer : List Env) (s : Shared) (H : Hp) (E : XK), Room k (A.deeper (envOfC qual (defScope st) s.heap.objs.size f cdv)) → VB (cxOf (CXv mg P w) P w K mg base N qual (defScope st) f cdv A outer s H E) pi (defBody st) m) :
    FnOk P w K mg base (CXv mg P w) (k + 1) f fd ps (SpV K mg N ps.length pi m) := by
  refine okC F S (fun vs H Q E h => h.1) (fun cdv A outer s H vs Q E hr h => ?_)
  obtain ⟨_, fr, env, hc, hp, g, h⟩ := h
  have hf : FOk (cxOf (CXv mg P w) P w K mg base N qual (defScope st) f cdv A outer s H E) pi fr := ⟨ClOk0.ok hc, hp⟩
  refine ⟨rS fr (fun cls d _ H => E cls d H) m, hb cdv A outer s H E hr _ (takes_of rfl rfl rfl rfl) fr hf, rS_of g ?_⟩
  unfold FOut at h
  cases e : m env with
  | ok c env' =>
    rw [e] at h
    cases c with
    | next => exact h
    | ret o => exact h
    | brk => exact h.elim
    | cont => exact h.elim
  | ex x env' => rw [e] at h; exact h
  | no => rw [e] at h; exact h
end
def toArg : O → O
  | .lf .fz d => .lf .fz d
  | .lf _ d => lfk .bo d
  | o => if o.no notFz then lfk .fz o.er else lfk .bo o.er
def callM (n : Nat) (m : VEnv → RS) (os : List O) : R O := match m (startE n (os.map toArg)) with
  | .ok .next _ => .ok (.lf .fz .non)
  | .ok (.ret o) _ => if o.own then .ok o else .no
  | .ok _ _ => .no
  | .ex x _ => if O.owns x.xs then .ex x else .no
  | .no => .no
section
variable {w : Wd} {H : Hp} {F1 : Addr → Prop}
def calleeF (w : Wd) (H1 : Hp) (F1 : Addr → Prop) : Fm := ⟨⟨w.cl.b, fun _ _ _ => False⟩, H1, fun _ => False, fun a => w.Z a ∨ F1 a, fun a => w.T a ∨ F1 a, []⟩
theorem toArg_rep (zt : Sub w.Z w.T) (bt : Sub w.B w.T) {o : O} {v : V} {F : Addr → Prop} (s : Sub F F1) (h : RepO w H o v F) : RepO ((calleeF w H F1).w (calleeF w H F1).Z0) H (toArg o) v (fun _ => False) := by
  have gen : ∀ o : O, RepO w H o v F → RepO ((calleeF w H F1).w (calleeF w H F1).Z0) H (lfk .bo o.er) v (fun _ => False) := fun o h => by
    refine lfk_rep (k := .bo) (Rep.cl (cl := w.cl) (cl' := (calleeF w H F1).cl) rfl (RepO.toRep (w := w) (S := fun a => w.T a ∨ F1 a) (p := fun _ => false) (fun x _ => ?_) (O.no_none o) (fun a z => .inr (s a z)) h))
    cases x with
    | fz => exact fun a z => .inl (zt a z)
    | bo => exact fun a z => .inl (bt a z)
    | tb => exact fun a z => .inl z
  unfold toArg
  split
  · simp only [RepO] at h ⊢
    exact Rep.keep (KeepS.same (Same.refl H) fun a z => .inl z) (Rep.cl (cl := w.cl) (cl' := (calleeF w H F1).cl) rfl h)
  · rename_i k d _
    have := gen _ h
    simpa only [O.er] using this
  · split
    · rename_i n
      refine lfk_rep (k := .fz) (Rep.cl (cl := w.cl) (cl' := (calleeF w H F1).cl) rfl (RepO.toRep (w := w) (S := fun a => w.Z a ∨ F1 a) (p := notFz) (fun x hx => ?_) n (fun a z => .inr (s a z)) h))
      cases x with
      | fz => exact fun a z => .inl z
      | bo => cases hx
      | tb => cases hx
    · exact gen _ h
theorem startE_get {n : Nat} {os : List O} {i : Nat} {o : O} (h : (startE n os)[i]? = some (some o)) : os[i]? = some o := by
  unfold startE at h
  by_cases hi : i < (os.map some).length
  · rw [List.getElem?_append_left hi, List.getElem?_map] at h
    cases e : os[i]? with
    | none => rw [e] at h; cases h
    | some q => rw [e] at h; cases h; rfl
  · rw [List.getElem?_append_right (Nat.le_of_not_lt hi), List.getElem?_replicate] at h
    split at h <;> cases h
theorem start_get {N : List Str} {vs : List V} {i : Nat} {v : V} (h : vs[i]? = some v) : (L2.start N vs)[i]? = some (some v) := by
  unfold L2.start
  rw [List.getElem?_append_left (by rw [List.length_map]; exact (List.getElem?_eq_some_iff.mp h).1), List.getElem?_map, h]
  rfl
theorem good_start {N : List Str} {os : List O} {vs : List V} (zt : Sub w.Z w.T) (bt : Sub w.B w.T) (al : AlT w H) (af : ∀ a, F1 a → NT (H a)) (h : RepOs w H os vs F1) : Good (calleeF w H F1) (startE N.length (os.map toArg)) (L2.start N vs) H := by
  refine ⟨(calleeF w H F1).Z0, fun _ _ => False, fun i o e => ?_, fun _ _ _ _ z => z.elim, fun _ _ z => z.elim, fun a z => z.elim (fun q => al.1 a (zt a q)) fun q => (af a q).ne, fun a z => z.elim (al.1 a) fun q => (af a q).ne, fun a u e _ => Same.refl H a u e, ⟨fun _ n => n, al.2⟩, fun _ _ z => z.elim, fun _ z => .inl z, fun _ z => z, fun p hp => ?_, ?_⟩
  · have e1 := startE_get e
    rw [List.getElem?_map] at e1
    cases q : os[i]? with
    | none => rw [q] at e1; cases e1
    | some o' =>
      rw [q] at e1
      cases e1
      obtain ⟨v, F', ev, r, s⟩ := RepOs.get h q
      exact ⟨v, start_get ev, toArg_rep zt bt s r⟩
  · exact absurd hp (by show p ∉ ([] : List (Nat × V)); simp)
  · unfold L2.start startE
    simp [RepOs.length h]
end
section
variable {X : Cx} {P : List Nat} {a : Expr} {es : List Expr} {ma mb : DEnv → R O} {mA : DEnv → R (List O)} {pos p : Pos} {x : Str}
theorem call_out {W : WX} {σ : L2.St} {N : List Str} {n : Nat} {m : VEnv → RS} {w : Wd} {H0 H1 : Hp} {os : List O} {vs : List V} {F1 : Addr → Prop} {Q : VK} (hcl : ClOk X w.cl) (zt : Sub w.Z w.T) (bt : Sub w.B w.T) (al : AlT w H1) (s1 : Same H0 H1) (p1 : RepOs w H1 os vs F1) (f1 : Fresh H0 H1 F1) (hn : vs.length = n)
    (h : Out w W σ H0 H1 (RepO w) (callM N.length m os) Q) : SpV X.K X.mg N n [] m vs H1 Q (fun cls d H => W cls d σ H) := by
  refine ⟨hn, calleeF w H1 F1, _, ⟨hcl.1, fun _ _ _ q => q⟩, rfl, good_start zt bt al (fun a z => (f1 a z).2) p1, ?_⟩
  have sm : ∀ {Z2 : Addr → Prop} {Fs2 : Nat → Addr → Prop} {env' : VEnv} {σ' : L2.St} {H' : Hp}, GoodAt (calleeF w H1 F1) Z2 Fs2 env' σ' H' → Same H1 H' := fun g b u e => g.keep b u e fun z => z
  have fr : ∀ {Z2 : Addr → Prop} {Fs2 : Nat → Addr → Prop} {H' : Hp} {F : Addr → Prop}, Extra (calleeF w H1 F1) Z2 Fs2 H' F → Fresh H0 H' F := fun x b z => ⟨s1.free ((x b z).2.2.2.1.elim (fun q => q.elim) id), (x b z).2.2.1⟩
  unfold callM at h
  unfold FOut
  cases e : m (startE N.length (os.map toArg)) with
  | no => rw [e] at h; exact h
  | ok c env' =>
    rw [e] at h
    cases c with
    | next =>
      intro σ' H' g
      obtain ⟨Z2, Fs2, g⟩ := g
      exact h _ H' (fun _ => False) (sm g) (by simp [RepO, Rep]) fun _ z => z.elim
    | brk => exact h
    | cont => exact h
    | ret o =>
      intro v σ' H' gv
      simp only at h
      split at h
      · rename_i hw
        obtain ⟨Z2, Fs2, F2, g2, r2, x2⟩ := gv
        exact h v H' F2 (sm g2) (RepO.own (w := (calleeF w H1 F1).w Z2) (w' := w) rfl hw r2) (fr x2)
      · exact h.elim
  | ex x env' =>
    rw [e] at h
    intro cls d σ' H' gx
    simp only at h
    split at h
    · rename_i hw
      obtain ⟨Z2, Fs2, F2, g2, r2, x2⟩ := gx
      refine h cls d H' F2 (sm g2) ?_ (fr x2)
      obtain ⟨Ca, c, ec, q⟩ := r2
      refine ⟨Ca, c, ec, ?_⟩
      rcases q with q | ⟨a', kvs, G', e1, e2, e3, fa, ga, sg, rr⟩
      · exact .inl q
      · exact .inr ⟨a', kvs, G', e1, e2, e3, fa, ga, sg, RepOs.own (w := (calleeF w H1 F1).w Z2) (w' := w) rfl hw rr⟩
    · exact h.elim
theorem ve_call {k : Nat} {f : Addr} {fd : FuncData} {N ps : List Str} {m : VEnv → RS} (F : FnOk X.prog X.w X.K X.mg X.base (CXv X.mg X.prog X.w) k f fd ps (SpV X.K X.mg N ps.length [] m)) (hr : Room k X.A) (hm : X.mg x = some (.ref f)) (hk : PySem.W.keepIn X.K (.ref f) = true) (hb : Binds X.K fd ps [])
    (ha : VA X (a :: es) mA) (hn : (a :: es).length = ps.length := by rfl) (hg : Gl X x := by rfl) (hdb : (x == ("__debug__" : Str)) = false := by decide) (he : starEach (a :: es) X.env = (false, eval a X.env) :: starEach es X.env := by rfl) (hpl : (backTo pos (starEach es X.env)).any (·.1) = false := by rfl)
    (hlen : ∀ env os, mA env = .ok os → os.length = ps.length) : VE X (.Call (.Name x p) (a :: es) [] pos) (eN (callM N.length m) mA) := fun W tk w hcl =>
  (pe_callS (E := WE W) F hr hg hm hk hb (fun σ => passAt tk σ) (ha W tk w hcl) hdb he hpl).imp fun σ H Q h => by
    obtain ⟨env, G, h⟩ := rE_to h
    refine rA_of G (Out.bind (Same.refl H) h fun os vs H1 F1 e1 s1 p1 f1 h1 => ?_)
    exact call_out (X := X) (W := W) (σ := σ) hcl G.zt G.bt (G.same s1).al s1 p1 f1 (by rw [RepOs.length p1, hlen env os e1]) h1
end
end VL
namespace VL
open PySem PySem.Spec PyProof.Rows L2
def spE1 (C : Addr) (f : Str) : Sp := fun vs H Q _ => ∃ (a : Addr) (y : V), vs = [.ref a, y] ∧ H a = some (exo a C none) ∧ ∀ dx, H dx = none → dx ≠ a → Q .non (upd (upd H dx (exd dx [(f, y)])) a (exo a C (some dx)))
section
open VLX
variable {CX : CXT} {P : Program} {w : World} {K : PySem.W.Frag} {mg : Str → Option Value} {base : Heap} {ps : List Str} {qual : Str} {scope : Scope} {f cda cc : Addr}
theorem err1B {k : Nat} {fd : FuncData} {st0 : Stmt} {rest : List Stmt} {C : Addr} {p0 p1 p2 p3 p4 p5 : Pos} {msg fl : Str} {j : Nat} {pl : Sem Bool}
    (T : SupOk P K mg C f cda cc fd qual ps scope (st0 :: rest)) (S : SupScope ps scope) (hst : st0 = .Expr (.Call (.Attribute (.Call (.Name "super" p0) [] [] p1) "__init__" p2) [.Constant (.str msg) j p3] [] p4) p5)
    (hcall : ∀ env : Env, eval (.Call (.Attribute (.Call (.Name "super" p0) [] [] p1) "__init__" p2) [.Constant (.str msg) j p3] [] p4) env = (do
      let ov ← attributeBase (.Call (.Name "super" p0) [] [] p1) "__init__" env (eval (.Call (.Name "super" p0) [] [] p1) env)
      standAt p2.atName
      let (f, first) ← holding [ov] (getMethod ov "__init__" pl)
      callWith p4 f first (backTo p4 (starEach [.Constant (.str msg) j p3] env)) []))
    (hl : ps.length = 2) (hno : PySem.W.findIn K (.ref C) fl = some none)
    (hps : ∀ (A : Around) (outer : List Env) (s : Shared) (H : Hp) (E : XK) (cal : Bool) (pn : List (Addr × Obj)), PSs (cxS CX P w K mg base ps qual scope f cda cc A outer s H E cal pn) rest (tOst K fl (tVar 0) (tVar 1))) : FnOk P w K mg base CX (k + 1) f fd ps (spE1 C fl) ∧ L2H.FnH P w K mg base CX (k + 1) f fd ps (spE1 C fl) := by
  refine fn_super (pl := pl) T S hst hcall (fun vs H Q E h => ?_) fun A outer s H vs Q E cal pn h => ?_
  · obtain ⟨a, y, rfl, _⟩ := h
    rw [hl]; rfl
  · obtain ⟨a, y, rfl, ha, hq⟩ := h
    exact ⟨a, [y], _, rfl, ha, hps A outer s H E cal pn, y, rfl, .ref a, rfl, a, C, rfl, T.ox, hno, .inl ⟨ha, hq⟩⟩
end
def Er1 (P : Program) (w : World) (K : PySem.W.Frag) (mg : Str → Option Value) (base : Heap) (C f : String) : Prop := ∃ Ca fI fd ps, mg (Str.ofString C) = some (.ref Ca) ∧ OexC K Ca ∧ PySem.W.findIn K (.ref Ca) "__init__" = some (some (.ref fI)) ∧ PySem.W.typeIn K (.ref fI) = some (.type "function") ∧
  FnOk P w K mg base (CXv mg P w) 1 fI fd ps (spE1 Ca (Str.ofString f)) ∧ Binds K fd ps []
theorem passes0 {X : Cx} : Passes (CXv X.mg X.prog X.w) X (fun _ _ _ => False) := fun _ _ _ _ _ _ _ h => (cxv_false h).elim
theorem heap1 {H : Hp} {a dx : Addr} {o o1 o2 : HO} (ha : H a = none) (ne : dx ≠ a) : upd (del (upd (upd (upd H a o) dx o1) a o2) a) dx = upd (H := H) (a := dx) := by
  funext u b
  unfold upd
  by_cases hb : b = dx
  · rw [if_pos hb, if_pos hb]
  · rw [if_neg hb, if_neg hb]
    by_cases h2 : b = a
    · rw [h2, del_same, ha]
    · rw [del_ne h2]
      simp [upd, hb, h2]
theorem mkO1 {Ca : Addr} {f : Str} {y : V} {H1 : Hp} {Q : XK} (h : ∀ d, H1 d = none → Q (.ref Ca) (some d) (upd H1 d (.xd [(f, y)]))) : [y].length ≤ 1000 ∧ ∀ a, H1 a = none → spE1 Ca f (.ref a :: ([y] ++ [])) (upd H1 a (exo a Ca none))
    (fun v H2 => v = .non ∧ ∃ (d : Addr) (fs : List (Str × V)), H2 a = some (exo a Ca (some d)) ∧ H2 d = some (exd d fs) ∧ H1 d = none ∧ Q (.ref Ca) (some d) (upd (del H2 a) d (.xd fs))) (fun _ _ _ => False) := by
  refine ⟨by show 1 ≤ 1000; decide, fun a ha => ⟨a, y, rfl, upd_same, fun dx nd ne => ⟨rfl, dx, _, upd_same, by rw [upd_ne ne]; exact upd_same, ?_, ?_⟩⟩⟩
  · rw [upd_ne ne] at nd; exact nd
  · rw [upd_ne ne] at nd
    rw [heap1 ha ne]
    exact h dx nd
theorem goodX_new {f : Fm} {Z : Addr → Prop} {Fs : Nat → Addr → Prop} {env : VEnv} {σ : L2.St} {H H1 : Hp} {C : String} {fs : List String} {os : List O} {vs : List V} {F1 : Addr → Prop} {Ca d : Addr} {ks : List Str} (g : GoodAt f Z Fs env σ H) (s1 : Same H H1) (hC : f.cl.b.at_ C = some Ca) (n : O.nos isTb os = true) (p : RepOs (tw f Z Fs) H1 os vs F1) (f1 : Fresh H H1 F1) (hd : H1 d = none) (hk : ks = fs.map Str.ofString) (hl : ks.length = vs.length) :
    GoodX f env ⟨C, fs, os⟩ (.ref Ca) (some d) σ (upd H1 d (.xd (ks.zip vs))) := by
  have sm : Same H1 (upd H1 d (.xd (ks.zip vs))) := Same.of fun b o e => by rw [upd_ne (ne_of_none e hd)]; exact e
  refine ⟨Z, Fs, fun a => a = d ∨ F1 a, g.same (s1.trans sm), ⟨Ca, hC, rfl, .inr ⟨d, ks.zip vs, F1, rfl, upd_same, ?_, .inl rfl, fun z => (f1 d z).2.ne hd, fun _ z => .inr z, ?_⟩⟩, g.fresh fun a z => ?_⟩
  · rw [← hk, List.map_fst_zip (Nat.le_of_eq hl)]
  · rw [List.map_snd_zip (Nat.le_of_eq hl.symm)]
    exact RepOs.keep (w := tw f Z Fs) (w' := f.w Z) (p := isTb) rfl (keepW sm) (fun _ _ e => sm _ _ e) n (fun _ _ _ e n => sm.nt n e) p
  · rcases z with rfl | z
    · exact ⟨s1.free hd, _, upd_same, True.intro⟩
    · exact ⟨(f1 a z).1, (f1 a z).2.same sm⟩
def sRaise1 (C f : String) (ma : DEnv → R O) : VEnv → RS := fun env => match ma (dl env) with
  | .ok o => if o.no isTb then .ex ⟨C, [f], [o]⟩ env else .no
  | .ex x => if O.nos isTb x.xs then .ex x env else .no
  | .no => .no
section
variable {X : Cx} {P : List Nat} {a b : Expr} {es : List Expr} {ma mb : DEnv → R O} {mA : DEnv → R (List O)} {x : Str} {p pos pos' : Pos}
theorem vs_raise1 {C f : String} (hc : X.calm = true) (M : Er1 X.prog X.w X.K X.mg X.base C f) (hr : Room 2 X.A) (ha : VE X a ma) (hx : x = Str.ofString C := by rfl) (hg : Gl X x := by rfl) (hdb : (x == ("__debug__" : Str)) = false := by decide) (he : starEach [a] X.env = (false, eval a X.env) :: starEach [] X.env := by rfl) :
    VS X P (.Raise (some (.Call (.Name x p) [a] [] pos)) none pos') (sRaise1 C f ma) := fun W tk fr hf => ⟨fun pins s σ H D I h => by
  obtain ⟨env, ⟨Z, Fs, g⟩, h⟩ := rS_to h
  subst hx
  obtain ⟨Ca, fI, fd, ps, hm, T, iC, tI, F, hb⟩ := M
  refine (L2N.ps_raise hc tk.n (pmk_oexN (ds := []) (dvs := []) T iC tI F hr hb .nil passes0 hg hm (pa_cons (ha W tk (tw fr Z Fs) hf.1) pa_nil he) hdb he rfl)).run pins s σ H D I ?_
  refine rE_of g.goodE ?_
  unfold sRaise1 at h
  cases e : ma (dl env) with
  | no => rw [e] at h; exact h
  | ex x =>
    rw [e] at h
    simp only at h
    split at h
    · rename_i n
      exact fun cls d H' F s r fx => h cls d σ H' ⟨Z, Fs, F, g.same s, RepX.unlend n r, g.fresh fx⟩
    · exact h.elim
  | ok o =>
    rw [e] at h
    simp only at h
    split at h
    · rename_i n
      intro v H1 F1 s1 p1 f1
      refine mkO1 (Q := fun cls d H' => W cls d σ H') fun d hd => h _ _ _ _ ?_
      refine goodX_new (ks := [Str.ofString f]) (vs := [v]) (os := [o]) (F1 := F1) g s1 (clM_of hf.1 hm) (by simp [O.nos, n]) ?_ f1 hd rfl rfl
      simp only [RepOs]
      exact ⟨v, [], F1, fun _ => False, rfl, fun _ z => z, fun _ z => z.elim, fun _ _ z => z, p1, rfl⟩
    · exact h.elim⟩
def sOut (i : Nat) : RS → RS
  | .ok (.ret o) e => if o.nx && nxE (e.set i none) then .ok (.ret o) (e.set i none) else .no
  | .ok c e => if nxE (e.set i none) then .ok c (e.set i none) else .no
  | _ => .no
def sTryAs (E : Errs) (D : String) (i : Nat) (body suite : VEnv → RS) : VEnv → RS := fun env => match body env with
  | .ok c e => .ok c e
  | .ex x e => if E.has x.cls then (if subE x.cls D then (if O.nos notFz x.xs && (decide (i < e.length)) then sOut i (suite (e.set i (some (.xn x.cls x.fs (O.ers x.xs))))) else .no) else (if badE x.cls then .ex x e else .no)) else .no
  | .no => .no
theorem suite_cl {X : Cx} {c : Cl} {a : Addr} {oe : Obj} {Ca : Addr} {d : Option Addr} {pn : List (Addr × Obj)} (h : CbOk X.K X.mg c.b) (hz : Zc (.ref Ca) d oe) (hf : ∃ vs, oe.data = .fields vs) : ClOk (X.suite a ((a, oe) :: pn)) ⟨c.b, fun a' Ca' d' => a' = a ∧ Ca' = Ca ∧ d' = d⟩ :=
  ⟨h, fun a' Ca' d' ⟨e1, e2, e3⟩ => ⟨rfl, oe, pn, by rw [e1], by rw [e2, e3]; exact hz, hf⟩⟩
theorem GoodAt.forget2 {f : Fm} {Z : Addr → Prop} {Fs : Nat → Addr → Prop} {env : VEnv} {σ : L2.St} {H : Hp} {i : Nat} (hp : ∀ p ∈ f.pin, p.1 ≠ i) (g : GoodAt f Z Fs env σ H) : GoodAt f Z (fun j a => if j = i then False else Fs j a) (env.set i none) (σ.set i none) H := by
  have g2 := g.forget (i := i)
  refine ⟨fun j p e => ?_, g2.dis, g2.own, g2.zal, g2.bal, g2.keep, g2.there, g2.fnew, g2.znew, g2.zold, fun p hm => ?_, by simpa using g.len⟩
  · obtain ⟨v, ev, r⟩ := g2.rep j p e
    refine ⟨v, ?_, r⟩
    by_cases hj : j = i
    · subst hj
      rw [List.getElem?_set_self'] at e
      cases q : env[j]? with
      | none => rw [q] at e; cases e
      | some q' => rw [q] at e; cases e
    · rw [List.getElem?_set_ne (Ne.symm hj)]; exact ev
  · rw [List.getElem?_set_ne (Ne.symm (hp p hm))]; exact g.pin p hm
theorem Good.outS {f : Fm} {c' : Cl} {env : VEnv} {σ : L2.St} {H : Hp} {i : Nat} (h : c'.b = f.cl.b) (hp : ∀ p ∈ f.pin, p.1 ≠ i) (n : nxE (env.set i none) = true) (g : Good (f.ex c') env σ H) : Good f (env.set i none) (σ.set i none) H := by
  obtain ⟨Z, Fs, g⟩ := g
  have g2 : GoodAt (f.ex c') Z _ (env.set i none) (σ.set i none) H := GoodAt.forget2 hp g
  exact ⟨Z, _, GoodAt.ex (f := f.ex c') (c' := f.cl) h.symm (.inr n) g2⟩
theorem GoodV.outS {f : Fm} {c' : Cl} {env : VEnv} {o : O} {v : V} {σ : L2.St} {H : Hp} {i : Nat} (h : c'.b = f.cl.b) (hp : ∀ p ∈ f.pin, p.1 ≠ i) (n : nxE (env.set i none) = true) (no : o.nx = true) (g : GoodV (f.ex c') env o v σ H) : GoodV f (env.set i none) o v (σ.set i none) H := by
  obtain ⟨Z, Fs, F, g, r, x⟩ := g
  have g2 : GoodAt (f.ex c') Z _ (env.set i none) (σ.set i none) H := GoodAt.forget2 hp g
  refine ⟨Z, _, F, GoodAt.ex (f := f.ex c') (c' := f.cl) h.symm (.inr n) g2, RepO.cl (w := (f.ex c').w Z) (w' := f.w Z) ⟨h.symm, rfl, rfl, rfl⟩ (.inr no) r, fun a z => ?_⟩
  obtain ⟨x1, x2, x3, x4, x5⟩ := x a z
  refine ⟨x1, x2, x3, x4, fun j q => ?_⟩
  replace q : if j = i then False else Fs j a := q
  split at q
  · exact q
  · exact x5 j q
theorem suite_start {f : Fm} {env : VEnv} {x : Exn} {Ca a : Addr} {d : Option Addr} {σ : L2.St} {H : Hp} {i : Nat} (hex : ∀ a Ca d, ¬ f.cl.ex a Ca d) (hC : f.cl.b.at_ x.cls = some Ca) (hp : ∀ p ∈ f.pin, p.1 ≠ i) (n : O.nos notFz x.xs = true) (hi : i < env.length) (g : GoodX f env x (.ref Ca) d σ H) :
    Good (f.ex ⟨f.cl.b, fun a' Ca' d' => a' = a ∧ Ca' = Ca ∧ d' = d⟩) (env.set i (some (.xn x.cls x.fs (O.ers x.xs)))) (σ.set i (some (.ref a))) H := by
  obtain ⟨Z, Fs, F, g, r, xx⟩ := g
  have g1 := g.frz xx
  have g2 := GoodAt.ex (c' := ⟨f.cl.b, fun a' Ca' d' => a' = a ∧ Ca' = Ca ∧ d' = d⟩) rfl (.inl fun a' Ca' d' q => absurd q (hex _ _ _)) g1
  refine ⟨_, _, g2.set (F := fun _ => False) ?_ (fun _ z => z.elim) hi hp⟩
  simp only [RepO]
  refine ⟨a, Ca, d, rfl, ⟨rfl, rfl, rfl⟩, hC, ?_⟩
  obtain ⟨Ca2, c2, e2, r⟩ := r
  rcases r with ⟨h1, h2, h3⟩ | ⟨a', kvs, G, e3, e4, e5, fa, ga, sg, rr⟩
  · exact .inl ⟨h1, by rw [h2]; rfl, h3⟩
  · refine .inr (.inl ⟨a', kvs, e3, .inr fa, e4, e5, ?_⟩)
    refine Reps.cl (cl := f.cl) (cl' := ⟨f.cl.b, fun a' Ca' d' => a' = a ∧ Ca' = Ca ∧ d' = d⟩) rfl (RepOs.toRep (w := f.w Z) (S := fun a => Z a ∨ F a) (p := notFz) (fun k hk => ?_) n (fun b z => .inr (sg b z)) rr)
    cases k with
    | fz => exact fun _ z => .inl z
    | bo => cases hk
    | tb => cases hk
theorem vs_try_as {body suite : List Stmt} {b₀ : Stmt} {n : Str} {np : Pos} {E : Errs} {m1 m2 : VEnv → RS} {i : Nat} (D : String) (hE : ErrF X.K X.mg E) (hc : X.calm = true) (hN : X.N.Nodup)
    (hb : ∀ (pn : List (Addr × Obj)) (xe : Value → Shared → Prop), PassesOwn (model X.prog X.w) X.A X.env xe → VB (X.tr pn xe) P body m1) (hsu : ∀ (a : Addr) (oe : Obj) (pn : List (Addr × Obj)), VB (X.suite a ((a, oe) :: pn)) P (b₀ :: suite) m2)
    (hs : X.stack = X.env :: X.outer := by rfl) (hfr : X.env.frame = some X.env.locals := by rfl) (hi : X.N[i]? = some n := by rfl) (hln : X.env.kindOf n = some .local := by rfl) (hD : E.has D = true := by rfl) (hx : x = Str.ofString D := by rfl) (hg : Gl X x := by rfl) (hdb : (x == ("__debug__" : Str)) = false := by decide) (hP : P.contains i = false := by rfl) :
    VS X P (.Try body [.ExceptHandler (some (.Name x np)) (some n) (b₀ :: suite) pos'] [] [] pos) (sTryAs E D i m1 m2) := fun W tk f hf => by
  obtain ⟨pD, hpD, rfl⟩ := Errs.has_ hD
  obtain ⟨Da, eD⟩ := hE.there pD hpD
  have hex := (ClOk.ok0 hc hf.1).2
  refine (ps_try_as (tb := fun W => rS f W m1) (ts := fun a cls d => fun D σ H => ∃ Ca, cls = .ref Ca ∧ rS (f.ex ⟨f.cl.b, fun a' Ca' d' => a' = a ∧ Ca' = Ca ∧ d' = d⟩) (fun _ _ _ _ => False) m2 D σ H) hs hfr hN hi hln ⟨hg, hdb, .inl (by rw [hx]; exact eD)⟩ tk.b (fun W pn xe tk' hpo => hb pn xe hpo W (.of tk') f ⟨⟨hf.1.1, fun a Ca d q => absurd q (hex a Ca d)⟩, hf.2⟩) fun a oe cls d pn hz hfl => ⟨fun pins s σ H D I h => ?_⟩).imp fun D σ H h => ?_
  · obtain ⟨Ca, rfl, h⟩ := h
    refine (hsu a oe pn (fun _ _ _ _ => False) (.of fun u s' z => ?_) (f.ex ⟨f.cl.b, fun a' Ca' d' => a' = a ∧ Ca' = Ca ∧ d' = d⟩) ⟨suite_cl hf.1.1 hz hfl, hf.2⟩).run pins s σ H D I h
    obtain ⟨_, _, _, _, _, _, _, _, _, _, _, _, _, _, _, _, z⟩ := z
    exact z.elim
  · obtain ⟨env, g, h⟩ := rS_to h
    refine rS_of g ?_
    unfold sTryAs at h
    cases e : m1 env with
    | no => rw [e] at h; exact h
    | ok c env' => rw [e] at h; cases c <;> exact h
    | ex x env' =>
      rw [e] at h
      intro cls d σ' H' gx
      simp only at h
      split at h
      · rename_i hC
        obtain ⟨pC, hpC, eC⟩ := Errs.has_ hC
        have gx0 := gx
        obtain ⟨Z, Fs, F, g1, ⟨Ca, c1, rfl, _⟩, _⟩ := gx0
        have hm := clM_at hf.1 c1
        refine ⟨subE x.cls pD.1, ?_, fun hb => ?_, fun hb => ?_⟩
        · rw [← eC] at hm ⊢
          exact (hE.two pC hpC pD hpD Ca Da hm eD).2
        · rw [if_pos hb] at h
          intro a ha
          split at h
          · rename_i hh
            simp only [Bool.and_eq_true, decide_eq_true_eq] at hh
            have hpin := pin_ne hf.2 hP
            refine ⟨Ca, rfl, rS_of (suite_start hex c1 hpin hh.1 hh.2 gx) ?_⟩
            cases e2 : m2 (env'.set i (some (.xn x.cls x.fs (O.ers x.xs)))) with
            | no => rw [e2] at h; exact h
            | ex y e3 => rw [e2] at h; exact h.elim
            | ok c e3 =>
              rw [e2] at h
              cases c with
              | ret o =>
                intro v σ2 H2 g2
                simp only [sOut] at h
                split at h
                · rename_i hn
                  simp only [Bool.and_eq_true] at hn
                  exact h v _ H2 (GoodV.outS (c' := ⟨f.cl.b, fun a' Ca' d' => a' = a ∧ Ca' = Ca ∧ d' = d⟩) rfl hpin hn.2 hn.1 g2)
                · exact h.elim
              | next =>
                intro σ2 H2 g2
                simp only [sOut] at h
                split at h
                · rename_i hn; exact h _ H2 (Good.outS (c' := ⟨f.cl.b, fun a' Ca' d' => a' = a ∧ Ca' = Ca ∧ d' = d⟩) rfl hpin hn g2)
                · exact h.elim
              | brk =>
                intro σ2 H2 g2
                simp only [sOut] at h
                split at h
                · rename_i hn; exact h _ H2 (Good.outS (c' := ⟨f.cl.b, fun a' Ca' d' => a' = a ∧ Ca' = Ca ∧ d' = d⟩) rfl hpin hn g2)
                · exact h.elim
              | cont =>
                intro σ2 H2 g2
                simp only [sOut] at h
                split at h
                · rename_i hn; exact h _ H2 (Good.outS (c' := ⟨f.cl.b, fun a' Ca' d' => a' = a ∧ Ca' = Ca ∧ d' = d⟩) rfl hpin hn g2)
                · exact h.elim
          · exact h.elim
        · rw [if_neg (by rw [hb]; exact Bool.false_ne_true)] at h
          split at h
          · exact ⟨⟨x.cls, ‹_›, hm⟩, h _ _ _ _ gx⟩
          · exact h.elim
      · exact h.elim
end
end VL
namespace VL
open PySem PySem.Spec PyProof.Rows L2
def wx (w : Wd) (Fx : Addr → Prop) : Wd := ⟨w.cl, fun a => w.Z a ∨ Fx a, w.B, fun a => w.T a ∨ Fx a⟩
def wipeE (env : DEnv) : List Nat → DEnv
  | [] => env
  | v :: vs => (wipeE env vs).set v none
theorem wipe_set {σ : L2.St} {j : Nat} {v : V} : ∀ {vs : List Nat}, j ∈ vs → wipe (σ.set j (some v)) vs = wipe σ vs
  | [], h => by simp at h
  | k :: vs, h => by
    unfold wipe
    by_cases hj : j ∈ vs
    · rw [wipe_set hj]
    · have e : j = k := by simpa [hj] using h
      subst e
      have go : ∀ ws : List Nat, j ∉ ws → wipe (σ.set j (some v)) ws = (wipe σ ws).set j (some v) := by
        intro ws
        induction ws with
        | nil => intro _; rfl
        | cons w ws ih =>
          intro hn
          simp only [List.mem_cons, not_or] at hn
          unfold wipe
          rw [ih hn.2, List.set_comm _ _ (fun e => hn.1 e)]
      rw [go vs hj, List.set_set]
section
variable {w : Wd} {Fx : Addr → Prop} {env : DEnv} {σ : L2.St} {H : Hp} {o : O} {v : V}
theorem wx_S (k : Kd) : Sub (w.S k) ((wx w Fx).S k) := by
  cases k with
  | fz => exact fun _ z => .inl z
  | bo => exact fun _ z => z
  | tb => exact fun _ z => .inl z
theorem RepO.wx {F : Addr → Prop} (h : RepO w H o v F) : RepO (VL.wx w Fx) H o v F :=
  RepO.keep (w := w) (w' := VL.wx w Fx) (p := fun _ => false) rfl (fun k _ => KeepS.same (Same.refl H) (wx_S k)) (fun _ _ e => e) (O.no_none o) (fun _ _ _ e _ => e) h
theorem GoodE.wx (G : GoodE w env σ H) (hf : ∀ a, Fx a → H a ≠ none) : GoodE (VL.wx w Fx) env σ H :=
  ⟨fun i o e => let ⟨v, ev, r⟩ := G.at_ i o e; ⟨v, ev, RepO.wx r⟩, fun a z => z.imp (G.zt a) id, fun a z => .inl (G.bt a z), ⟨fun a z => z.elim (G.al.1 a) (hf a), G.al.2⟩, G.len⟩
theorem GoodE.wipe (G : GoodE w env σ H) : ∀ vs : List Nat, GoodE w (wipeE env vs) (L2.wipe σ vs) H
  | [] => G
  | k :: vs => by
    have g := GoodE.wipe G vs
    refine ⟨fun i o e => ?_, g.zt, g.bt, g.al, by unfold wipeE L2.wipe; rw [List.length_set, List.length_set]; exact g.len⟩
    unfold wipeE at e
    by_cases hi : i = k
    · subst hi
      rw [List.getElem?_set_self'] at e
      cases q : (wipeE env vs)[i]? with
      | none => rw [q] at e; cases e
      | some q' => rw [q] at e; cases e
    · rw [List.getElem?_set_ne (Ne.symm hi)] at e
      obtain ⟨v, ev, r⟩ := g.at_ i o e
      exact ⟨v, by unfold L2.wipe; rw [List.getElem?_set_ne (Ne.symm hi)]; exact ev, r⟩
theorem GoodE.put {j : Nat} (G : GoodE w env σ H) (r : RepO w H o v (fun _ => False)) : GoodE w (env.set j (some o)) (σ.set j (some v)) H := by
  refine ⟨fun i p e => ?_, G.zt, G.bt, G.al, by rw [List.length_set, List.length_set]; exact G.len⟩
  by_cases hi : i = j
  · subst hi
    rw [List.getElem?_set_self'] at e
    cases q : env[i]? with
    | none => rw [q] at e; cases e
    | some q' =>
      rw [q] at e
      cases e
      have hlt : i < σ.length := by rw [G.len]; exact (List.getElem?_eq_some_iff.mp q).1
      exact ⟨v, List.getElem?_set_self hlt, r⟩
  · rw [List.getElem?_set_ne (Ne.symm hi)] at e
    obtain ⟨v', ev, r'⟩ := G.at_ i p e
    exact ⟨v', by rw [List.getElem?_set_ne (Ne.symm hi)]; exact ev, r'⟩
def lentO : O → O
  | .lf k d => .lf k d
  | .xn C fs ds => .xn C fs ds
  | o => .lf .tb o.er
theorem lent_rep (G : GoodE w env σ H) (r : RepO w H o v (fun _ => False)) : RepO w H (lentO o) v (fun _ => False) := by
  have gen : RepO w H (.lf .tb o.er) v (fun _ => False) := by
    simp only [RepO]
    refine RepO.toRep (w := w) (S := w.T) (p := fun _ => false) (fun k _ => ?_) (O.no_none o) (fun _ z => z.elim) r
    cases k with
    | fz => exact G.zt
    | bo => exact G.bt
    | tb => exact fun _ z => z
  cases o <;> first | exact r | exact gen
end
abbrev AsgE := DEnv → Option DEnv
def VG (X : Cx) (vs : List Nat) (tg : Expr) (g : TG) (asg : O → AsgE) : Prop := PG X tg g ∧ ∀ (w : Wd) (o : O) (v : V) (env env2 : DEnv) (σ : L2.St) (H : Hp) (Q : L2.St → Hp → Prop), GoodE w env σ H → RepO w H o v (fun _ => False) → asg o env = some env2 → (∀ σ2, GoodE w env2 σ2 H → L2.wipe σ2 vs = L2.wipe σ vs → Q σ2 H) → g v σ H Q
def asgN (j : Nat) (o : O) : AsgE := fun env => some (env.set j (some (lentO o)))
def asgL : List Nat → List O → AsgE
  | [], [], env => some env
  | j :: js, o :: os, env => asgL js os (env.set j (some (lentO o)))
  | _, _, _ => none
def asgT (js : List Nat) (o : O) : AsgE := fun env => match o with
  | .lf k (.tup ds) => asgL js (ds.map (lfk k)) env
  | .tup os => asgL js os env
  | _ => none
section
variable {X : Cx} {vs : List Nat} {tg : Expr} {pos : Pos} {x : Str}
theorem vg_name (j : Nat) (hN : X.N.Nodup) (hj : X.N[j]? = some x := by rfl) (hx : Loc X.env.scope x := by first | exact Or.inl rfl | exact Or.inr rfl) (hm : vs.contains j = true := by rfl) (hf : X.fn x = true ∨ X.env.scope.names.lookup x = some .local := by first | exact .inl rfl | exact .inr rfl) : VG X vs (.Name x pos) (gName j) (asgN j) :=
  ⟨pg_name hN hj hx hf, fun w o v env env2 σ H Q G r e hQ => by
    cases e
    exact hQ _ (G.put (lent_rep G r)) (wipe_set (by simpa using hm))⟩
def gNames : List Nat → TGs
  | [] => gNil
  | j :: js => gCons (gName j) (gNames js)
theorem pgs_name (j : Nat) {es : List Expr} {js : List Nat} (hN : X.N.Nodup) (h : PGs X es (gNames js)) (hj : X.N[j]? = some x := by rfl) (hx : Loc X.env.scope x := by first | exact Or.inl rfl | exact Or.inr rfl) (hf : X.fn x = true ∨ X.env.scope.names.lookup x = some .local := by first | exact .inl rfl | exact .inr rfl)
    (hs : (assignEach (.Name x pos :: es) X.env).map (·.2) = assign (.Name x pos) X.env :: (assignEach es X.env).map (·.2) := by rfl) : PGs X (.Name x pos :: es) (gNames (j :: js)) := pgs_cons (pg_name hN hj hx hf) h hs
theorem pgs_end : PGs X [] (gNames []) := pgs_nil
end
def SrcE (w : Wd) (Fx : Addr → Prop) (J : It) (H1 : Hp) (items : List O) : Prop := (∀ i o H, items[i]? = some o → Same H1 H → J.go i H ∧ ∀ x H', J.yld i H x H' → Same H H' ∧ RepO (wx w Fx) H' o x (fun _ => False)) ∧ ∀ H, Same H1 H → J.stop items.length H
def VJ (X : Cx) (tg iter : Expr) (src : DEnv → R (Bool × List O)) : Prop := ∀ (W : WX), Takes X W → ∀ w : Wd, ClOk X w.cl → ∃ wi : TI, PI X tg iter wi ∧ ∀ (env : DEnv) (σ : L2.St) (H : Hp) (Q : It → Hp → Prop), GoodE w env σ H → (match src env with
  | .ok (fl, items) => ∀ J H1 Fx, Same H H1 → Fresh H H1 Fx → (fl = true → ∀ a, ¬ Fx a) → SrcE w Fx J H1 items → Q J H1
  | .ex x => ∀ cls d H' F, Same H H' → RepX w H' x cls d F → Fresh H H' F → W cls d σ H'
  | .no => False) → wi σ H Q
section
variable {X : Cx} {tg a b : Expr} {ma mb : DEnv → R O} {pos p : Pos}
def jR1 (ma : DEnv → R O) : DEnv → R (Bool × List O) := fun env => (ma env).bind fun o => match o.er with
  | .int n => if decide (-(2 ^ 62) ≤ n) && decide (n < 2 ^ 62) then .ok (true, (List.range n.toNat).map fun (k : Nat) => .lf .fz (.int (0 + (k : Int)))) else .no
  | _ => .no
def jR2 (ma mb : DEnv → R O) : DEnv → R (Bool × List O) := fun env => (ma env).bind fun o => (mb env).bind fun o' => match o.er, o'.er with
  | .int l, .int n => if decide (-(2 ^ 62) ≤ l) && decide (l < 2 ^ 62) && decide (-(2 ^ 62) ≤ n) && decide (n < 2 ^ 62) then .ok (true, (List.range (n - l).toNat).map fun (k : Nat) => .lf .fz (.int (l + (k : Int)))) else .no
  | _, _ => .no
theorem srcE_range {w : Wd} {H1 : Hp} (lo : Int) (n : Nat) : SrcE w (fun _ => False) (Itr lo n) H1 ((List.range n).map fun (k : Nat) => .lf .fz (.int (lo + (k : Int)))) := by
  refine ⟨fun i o H e s => ?_, fun H s => by simp [Itr]⟩
  rw [List.getElem?_map] at e
  cases q : (List.range n)[i]? with
  | none => rw [q] at e; cases e
  | some k =>
    rw [q] at e
    obtain ⟨hj, ek⟩ := List.getElem?_eq_some_iff.mp q
    rw [List.getElem_range] at ek
    subst ek
    cases e
    refine ⟨show i < n by simpa using hj, fun x H' y => ?_⟩
    obtain ⟨rfl, rfl⟩ := y
    exact ⟨Same.refl _, by simp [RepO, Rep]⟩
theorem vj_range1 (hm : X.mg "range" = none) (ha : VE X a ma) (hg : Gl X "range" := by rfl) (hst : starEach [a] X.env = (false, eval a X.env) :: starEach [] X.env := by rfl) (hs : starEach [a] X.env = [(false, eval a X.env)] := by rfl) : VJ X tg (.Call (.Name "range" p) [a] [] pos) (jR1 ma) := fun W tk w hc => by
  refine ⟨_, pi_range1 hg hm (pa_cons (ha W tk w hc) pa_nil hst) hs, fun env σ H Q G h => rE_of G ?_⟩
  unfold jR1 at h
  cases e : ma env with
  | no => rw [e] at h; exact h
  | ex x => rw [e] at h; exact h
  | ok o =>
    rw [e] at h
    intro v H1 F1 s1 p1 f1
    have z := RepO.at p1
    simp only [R.bind] at h
    cases eo : o.er with
    | int n =>
      rw [eo] at h z
      simp only at h
      by_cases hb : (decide (-(2 ^ 62) ≤ n) && decide (n < 2 ^ 62)) = true
      · rw [if_pos hb] at h
        simp only [Bool.and_eq_true, decide_eq_true_eq] at hb
        exact ⟨n, by rw [show v = _ from z], hb.1, hb.2, h _ H1 (fun _ => False) s1 (fun _ z => z.elim) (fun _ _ z => z) (srcE_range 0 n.toNat)⟩
      · rw [if_neg hb] at h; exact h.elim
    | _ => rw [eo] at h; exact h.elim
def seqE (o : O) : Option (Bool × Kd × List D) := match o with
  | .lf k d => d.seq.map fun ds => (true, k, ds)
  | o => o.er.seq.map fun ds => (false, .tb, ds)
def jSq (ma : DEnv → R O) : DEnv → R (Bool × List O) := fun env => (ma env).bind fun o => match seqE o with
  | some (fl, k, ds) => .ok (fl, ds.map (lfk k))
  | none => .no
theorem srcE_seq {w : Wd} {Fx : Addr → Prop} {k : Kd} {ds : List D} {a : Addr} {vs : List V} {H1 : Hp} {K : PySem.W.Frag} (hr : Reps w.cl H1 ((wx w Fx).S k) ds vs) :
    (H1 a = some (.lst vs) → SrcE w Fx (Itl K a) H1 (ds.map (lfk k))) ∧ (H1 a = some (.tup vs) → SrcE w Fx (Itt K a) H1 (ds.map (lfk k))) := by
  have hl : vs.length = ds.length := Reps.length hr
  have item : ∀ (i : Nat) (o : O) (H : Hp), (ds.map (lfk k))[i]? = some o → Same H1 H → ∃ v, vs[i]? = some v ∧ RepO (wx w Fx) H o v (fun _ => False) := fun i o H e s => by
    rw [List.getElem?_map] at e
    cases q : ds[i]? with
    | none => rw [q] at e; cases e
    | some d =>
      rw [q] at e
      cases e
      obtain ⟨v, ev, r⟩ := Reps.get hr q
      exact ⟨v, ev, lfk_rep (w := wx w Fx) (Rep.keep (KeepS.same s fun _ z => z) r)⟩
  refine ⟨fun ha => ⟨fun i o H e s => ?_, fun H s => ⟨vs, SqL.of (s _ _ ha), by rw [hl, List.length_map]; exact Nat.le_refl _⟩⟩, fun ha => ⟨fun i o H e s => ?_, fun H s => ⟨vs, SqT.of (s _ _ ha), by rw [hl, List.length_map]; exact Nat.le_refl _⟩⟩⟩
  · obtain ⟨v, ev, r⟩ := item i o H e s
    have hs : SqL K H a vs := SqL.of (s _ _ ha)
    refine ⟨⟨vs, v, hs, ev⟩, fun x H' y => ?_⟩
    obtain ⟨rfl, y⟩ := y
    have := (y vs hs).symm.trans ev
    cases this
    exact ⟨Same.refl _, r⟩
  · obtain ⟨v, ev, r⟩ := item i o H e s
    have hs : SqT K H a vs := SqT.of (s _ _ ha)
    refine ⟨⟨vs, v, hs, ev⟩, fun x H' y => ?_⟩
    obtain ⟨rfl, y⟩ := y
    have := (y vs hs).symm.trans ev
    cases this
    exact ⟨Same.refl _, r⟩
theorem vj_seq (ha : VE X a ma) : VJ X tg a (jSq ma) := fun W tk w hc => by
  refine ⟨_, pi_sq (ha W tk w hc), fun env σ H Q G h => rE_of G ?_⟩
  unfold jSq at h
  cases e : ma env with
  | no => rw [e] at h; exact h
  | ex x => rw [e] at h; exact h
  | ok o =>
    rw [e] at h
    intro v H1 F1 s1 p1 f1
    simp only [R.bind] at h
    cases eo : seqE o with
    | none => rw [eo] at h; exact h.elim
    | some q =>
      obtain ⟨fl, k, ds⟩ := q
      rw [eo] at h
      have fin : ∀ (Fx : Addr → Prop) (d : D), Fresh H H1 Fx → (fl = true → ∀ a, ¬ Fx a) → d.seq = some ds → Rep w.cl H1 ((wx w Fx).S k) d v → ∃ a, v = .ref a ∧ (((∃ xs, SqL X.K H1 a xs) ∧ Q (Itl X.K a) H1) ∨ ((∃ xs, SqT X.K H1 a xs) ∧ Q (Itt X.K a) H1)) := fun Fx d fx hfl ed rd => by
        obtain ⟨a, vs, rfl, ha, hr⟩ := seq_rep ed rd
        have src := srcE_seq (w := w) (Fx := Fx) (K := X.K) (a := a) hr
        refine ⟨a, rfl, ?_⟩
        rcases ha with ha | ha
        · exact .inl ⟨⟨vs, SqL.of ha.1⟩, h _ H1 Fx s1 fx hfl (src.1 ha.1)⟩
        · exact .inr ⟨⟨vs, SqT.of ha⟩, h _ H1 Fx s1 fx hfl (src.2 ha)⟩
      have gen : fl = false → k = .tb → o.er.seq = some ds → _ := fun e1 e2 e3 => fin F1 o.er f1 (fun q => by rw [e1] at q; cases q) e3 (by
        subst e2
        refine RepO.toRep (w := w) (S := fun a => w.T a ∨ F1 a) (p := fun _ => false) (fun x _ => ?_) (O.no_none o) (fun _ z => .inr z) p1
        cases x with
        | fz => exact fun a z => .inl (G.zt a z)
        | bo => exact fun a z => .inl (G.bt a z)
        | tb => exact fun a z => .inl z)
      unfold seqE at eo
      split at eo
      · rename_i k' d
        cases q : d.seq with
        | none => rw [q] at eo; cases eo
        | some xs =>
          rw [q] at eo
          cases eo
          refine fin (fun _ => False) d (fun _ z => z.elim) (fun _ _ z => z) q ?_
          simp only [RepO] at p1
          exact Rep.keep (KeepS.same (Same.refl _) (wx_S k)) p1
      · cases q : o.er.seq with
        | none => rw [q] at eo; cases eo
        | some xs =>
          rw [q] at eo
          cases eo
          exact gen rfl rfl q
end
end VL
namespace VL
open PySem PySem.Spec PyProof.Rows L2
def VTs (X : Cx) (ifs : List Expr) (t : DEnv → R Bool) : Prop := ∀ (W : WX), Takes X W → ∀ w : Wd, ClOk X w.cl → PTs X ifs (rT w W t)
theorem _root_.L2.PTs.imp {X : Cx} {e : List Expr} {t t' : TT} (h : PTs X e t) (k : ∀ σ H Q, t' σ H Q → t σ H Q) : PTs X e t' := ⟨fun pins s σ H Q I q => h.run pins s σ H Q I (k σ H Q q)⟩
def tYesM : DEnv → R Bool := fun _ => .ok true
theorem vts_nil {X : Cx} : VTs X [] tYesM := fun W tk w hc => pts_nil.imp fun σ H Q h => by
  obtain ⟨env, G, h⟩ := h
  exact h H (Same.refl H)
def lcL (fl : Bool) (asg : O → AsgE) (t : DEnv → R Bool) (me : DEnv → R O) (env : DEnv) : List O → R (List O)
  | [] => .ok []
  | o :: r => match asg o env with
    | none => .no
    | some e => match t e with
      | .ok false => lcL fl asg t me env r
      | .ok true => match me e with
        | .ok y => if y.own || fl then (lcL fl asg t me env r).bind fun ys => .ok (y :: ys) else .no
        | _ => .no
      | _ => .no
def gLc (vs : List Nat) (src : DEnv → R (Bool × List O)) (asg : O → AsgE) (t : DEnv → R Bool) (me : DEnv → R O) : DEnv → R O := fun env => (src env).bind fun q => if szOk q.2.length then (lcL q.1 asg t me (wipeE env vs) q.2).bind fun os => .ok (.lst os) else .no
theorem lcL_len {fl : Bool} {asg : O → AsgE} {t : DEnv → R Bool} {me : DEnv → R O} {env : DEnv} : ∀ {is os : List O}, lcL fl asg t me env is = .ok os → fl = true ∨ O.owns os = true
  | [], os, h => by cases h; exact .inr rfl
  | o :: r, os, h => by
    unfold lcL at h
    split at h
    · cases h
    · split at h
      · exact lcL_len h
      · split at h
        · rename_i y _
          split at h
          · rename_i hy
            cases e : lcL fl asg t me env r with
            | no => rw [e] at h; cases h
            | ex x => rw [e] at h; cases h
            | ok ys =>
              rw [e] at h
              cases h
              rcases lcL_len e with q | q
              · exact .inl q
              · cases hfl : fl with
                | true => exact .inl rfl
                | false =>
                  rw [hfl, Bool.or_false] at hy
                  exact .inr (by simp only [O.owns, Bool.and_eq_true]; exact ⟨hy, q⟩)
          · cases h
        · cases h
      · cases h
theorem wipe_idem {σ : L2.St} {ws : List Nat} : ∀ vs : List Nat, (∀ v ∈ vs, v ∈ ws) → wipe (wipe σ ws) vs = wipe σ ws
  | [], _ => rfl
  | v :: vs, hv => by
    show (wipe (wipe σ ws) vs).set v none = wipe σ ws
    rw [wipe_idem vs fun u hu => hv u (List.mem_cons_of_mem _ hu)]
    have hvw := hv v List.mem_cons_self
    apply List.ext_getElem?
    intro j
    by_cases hj : j = v
    · subst hj
      rw [List.getElem?_set_self']
      cases q : (wipe σ ws)[j]? with
      | none => rfl
      | some z =>
        cases z with
        | none => rfl
        | some z => exact absurd hvw (wipe_some q).2
    · rw [List.getElem?_set_ne (Ne.symm hj)]
theorem keepUpd {H : Hp} {D : Addr} {u : HO} {S : Addr → Prop} (h : ¬ S D) (nt : ∀ xs, H D ≠ some (.tup xs)) : KeepS H (upd H D u) S S := by
  have ne : ∀ a, S a → a ≠ D := fun a s e => h (e ▸ s)
  refine ⟨fun a v s r _ => ⟨s, ?_⟩, fun a C dx fs s e => by rw [upd_ne (ne a s)]; exact e, fun a xs e => ?_, fun a xs s e => by rw [upd_ne (ne a s)]; exact e, fun a xs s e => by rw [upd_ne (ne a s)]; exact e⟩
  · rcases r with r | ⟨o, r⟩
    · exact .inl (by rw [upd_ne (ne a s)]; exact r)
    · exact .inr ⟨o, by rw [upd_ne (ne a s)]; exact r⟩
  · by_cases ha : a = D
    · rw [ha] at e; exact absurd e (nt xs)
    · rw [upd_ne ha]; exact e
theorem RepOs.updD {w : Wd} {H : Hp} {os : List O} {vs : List V} {F : Addr → Prop} {D : Addr} {u : HO} (hF : ¬ F D) (hS : ∀ k, ¬ w.S k D) (nt : ∀ xs, H D ≠ some (.tup xs)) (h : RepOs w H os vs F) : RepOs w (upd H D u) os vs F :=
  RepOs.keep (w := w) (w' := w) (p := fun _ => false) rfl (fun k _ => keepUpd (hS k) nt) (keepUpd (S := fun _ => False) (fun z => z) nt).2.2.1 (O.nos_none os) (fun a v f e _ => by rw [upd_ne (fun (q : a = D) => hF (q ▸ f))]; exact e) h
theorem RepO.updD {w : Wd} {H : Hp} {o : O} {v : V} {F : Addr → Prop} {D : Addr} {u : HO} (hF : ¬ F D) (hS : ∀ k, ¬ w.S k D) (nt : ∀ xs, H D ≠ some (.tup xs)) (h : RepO w H o v F) : RepO w (upd H D u) o v F :=
  RepO.keep (w := w) (w' := w) (p := fun _ => false) rfl (fun k _ => keepUpd (hS k) nt) (keepUpd (S := fun _ => False) (fun z => z) nt).2.2.1 (O.no_none o) (fun a v f e _ => by rw [upd_ne (fun (q : a = D) => hF (q ▸ f))]; exact e) h
section
variable {X : Cx} {tg iter elt : Expr} {ifs : List Expr} {scope : Scope} {own : List (Str × Nat)} {pos : Pos} {src : DEnv → R (Bool × List O)} {asg : O → AsgE} {g : TG} {t : DEnv → R Bool} {me : DEnv → R O}
structure LcI (w : Wd) (fl : Bool) (asg : O → AsgE) (t : DEnv → R Bool) (me : DEnv → R O) (env : DEnv) (Fx : Addr → Prop) (items : List O) (H1 : Hp) (D : Addr) (total : List O) (i : Nat) (H' : Hp) : Prop where
  le : i ≤ items.length
  x : ∃ acc F os rest, H' D = some (.lst acc) ∧ Same H1 H' ∧ RepOs (wx w Fx) H' os acc F ∧ Fresh H1 H' F ∧ ¬ F D ∧ os.length ≤ i ∧ lcL fl asg t me env (items.drop i) = .ok rest ∧ os ++ rest = total
def ttW (w : Wd) (t : DEnv → R Bool) : TT := fun σ H Q => ∃ Fx, rT (wx w Fx) (fun _ _ _ _ => False) t σ H Q
def teW (w : Wd) (me : DEnv → R O) : TE := fun σ H Q => ∃ Fx, rE (wx w Fx) (fun _ _ _ _ => False) me σ H Q
theorem tkF {X : Cx} : Takes X (fun _ _ _ _ => False) := .of fun u s' z => by
  obtain ⟨_, _, _, _, _, _, _, _, _, _, _, _, _, _, _, _, z⟩ := z
  exact z.elim
theorem ttW_p {X : Cx} {w : Wd} {ifs : List Expr} {t : DEnv → R Bool} (ht : VTs X ifs t) (hc : ∀ Fx, ClOk X (wx w Fx).cl) : PTs X ifs (ttW w t) := ⟨fun pins s' σ H' Q I ⟨Fx, q⟩ => (ht _ tkF (wx w Fx) (hc Fx)).run pins s' σ H' Q I q⟩
theorem teW_p {X : Cx} {w : Wd} {elt : Expr} {me : DEnv → R O} (he : VE X elt me) (hc : ∀ Fx, ClOk X (wx w Fx).cl) : PE X elt (teW w me) := ⟨fun pins s' σ H' Q I ⟨Fx, q⟩ => (he _ tkF (wx w Fx) (hc Fx)).run pins s' σ H' Q I q⟩
theorem lc_at {wi : TI} {w : Wd} {W : WX} {σ : L2.St} {H : Hp} {Q : VK} {env : DEnv}
    (hgs : ∀ (w : Wd) (o : O) (v : V) (env env2 : DEnv) (σ : L2.St) (H : Hp) (Q : L2.St → Hp → Prop), GoodE w env σ H → RepO w H o v (fun _ => False) → asg o env = some env2 → (∀ σ2, GoodE w env2 σ2 H → wipe σ2 (own.map (·.2)) = wipe σ (own.map (·.2)) → Q σ2 H) → g v σ H Q)
    (G : GoodE w env σ H) (hsrc : ∀ Q : It → Hp → Prop, (match src env with
  | .ok (fl, items) => ∀ J H1 Fx, Same H H1 → Fresh H H1 Fx → (fl = true → ∀ a, ¬ Fx a) → SrcE w Fx J H1 items → Q J H1
  | .ex x => ∀ cls d H' F, Same H H' → RepX w H' x cls d F → Fresh H H' F → W cls d σ H'
  | .no => False) → wi σ H Q) (h : Out w W σ H H (RepO w) (gLc (own.map (·.2)) src asg t me env) Q) : tLc wi g (ttW w t) (teW w me) (own.map (·.2)) σ H Q := by
  refine hsrc _ ?_
  unfold gLc at h
  cases es : src env with
  | no => rw [es] at h; exact h
  | ex x => rw [es] at h; exact h
  | ok q =>
    obtain ⟨fl, items⟩ := q
    rw [es] at h
    intro J H1 Fx s1 fx hfl hJ D hD
    simp only [R.bind] at h
    by_cases hz : ¬ szOk items.length = true
    · rw [if_neg hz] at h; exact h.elim
    replace hz := Classical.not_not.mp hz
    rw [if_pos hz] at h
    cases el : lcL fl asg t me (wipeE env (own.map (·.2))) items with
    | no => rw [el] at h; exact h.elim
    | ex x => 
      exfalso
      have : ∀ is : List O, lcL fl asg t me (wipeE env (own.map (·.2))) is ≠ .ex x := by
        intro is
        induction is with
        | nil => intro q; cases q
        | cons o r ih =>
          intro q
          unfold lcL at q
          split at q
          · cases q
          · split at q
            · exact ih q
            · split at q
              · split at q
                · cases e2 : lcL fl asg t me (wipeE env (own.map (·.2))) r with
                  | ok ys => rw [e2] at q; cases q
                  | ex y => rw [e2] at q; cases q; exact ih e2
                  | no => rw [e2] at q; cases q
                · cases q
              · cases q
            · cases q
      exact this _ el
    | ok total =>
      rw [el] at h
      simp only at h
      have gG : ∀ H', Same H1 H' → GoodE (wx w Fx) (wipeE env (own.map (·.2))) (wipe σ (own.map (·.2))) H' := fun H' sm => ((G.same (s1.trans sm)).wx fun a z => (fx a z).2.ne |> fun n e => n (sm.free e)).wipe _
      have smD : ∀ {H' : Hp} {u : HO}, Same H1 H' → NT (H' D) ∨ H' D = none → Same H1 (upd H' D u) := fun sm nd => sm.updN hD nd
      have nS : ∀ k, ¬ (wx w Fx).S k D := fun k z => by
        have gg := gG H1 (Same.refl _)
        have : (wx w Fx).T D := by
          cases k with
          | fz => exact gg.zt D z
          | bo => exact gg.bt D z
          | tb => exact z
        exact gg.al.1 D this hD
      refine ⟨fun i m H' => m = items.length - i ∧ LcI w fl asg t me (wipeE env (own.map (·.2))) Fx items H1 D total i H', ⟨items.length, rfl, Nat.zero_le _, [], fun _ => False, [], total, upd_same, smD (Same.refl _) (.inr hD), by simp [RepOs], fun _ z => z.elim, fun z => z, Nat.le_refl _, el, rfl⟩, ?_⟩
      rintro i m H2 ⟨rfl, hle, acc, F, os, rest, hDl, sm, ro, fr, nD, hos, hrest, htot⟩
      by_cases hlt : i < items.length
      · have ei : items[i]? = some items[i] := List.getElem?_eq_getElem hlt
        obtain ⟨go, yl⟩ := hJ.1 i items[i] H2 ei sm
        refine .inr ⟨go, fun H' => LcI w fl asg t me (wipeE env (own.map (·.2))) Fx items H1 D total (i + 1) H', fun H' q => ⟨items.length - (i + 1), by omega, rfl, q⟩, fun x H3 y => ?_⟩
        obtain ⟨s3, rx⟩ := yl x H3 y
        rw [List.drop_eq_getElem_cons hlt] at hrest
        unfold lcL at hrest
        cases ea : asg items[i] (wipeE env (own.map (·.2))) with
        | none => simp only [ea] at hrest; cases hrest
        | some e1 =>
          simp only [ea] at hrest
          refine hgs (wx w Fx) items[i] x _ e1 _ H3 _ (gG H3 (sm.trans s3)) rx ea fun σ2 G2 hw => ⟨?_, Fx, ?_⟩
          · rw [hw]
            show wipe (wipe σ _) _ = wipe σ _
            exact wipe_idem _ fun _ h => h
          · cases et : t e1 with
            | no => simp only [et] at hrest; cases hrest
            | ex x' => simp only [et] at hrest; cases hrest
            | ok b =>
              refine ⟨e1, G2, ?_⟩
              rw [et]
              intro H4 s4
              have sm4 : Same H1 H4 := (sm.trans s3).trans s4
              have keep4 : RepOs (wx w Fx) H4 os acc F := RepOs.same (s3.trans s4) ro
              have hD4 : H4 D = some (.lst acc) := (s3.trans s4) _ _ hDl
              cases b with
              | false =>
                simp only [et] at hrest
                rw [if_neg Bool.false_ne_true]
                exact ⟨hlt, acc, F, os, rest, hD4, sm4, keep4, fr.up (s3.trans s4), nD, by omega, hrest, htot⟩
              | true =>
                simp only [et] at hrest
                rw [if_pos rfl]
                refine ⟨Fx, e1, G2.same s4, ?_⟩
                cases em : me e1 with
                | no => simp only [em] at hrest; cases hrest
                | ex x' => simp only [em] at hrest; cases hrest
                | ok yo =>
                  simp only [em] at hrest
                  intro v H5 F5 s5 r5 f5
                  by_cases hyo : ¬ (yo.own || fl) = true
                  · rw [if_neg hyo] at hrest; cases hrest
                  rw [if_pos (Classical.not_not.mp hyo)] at hrest
                  cases e2 : lcL fl asg t me (wipeE env (own.map (·.2))) (items.drop (i + 1)) with
                  | no => rw [e2] at hrest; cases hrest
                  | ex x' => rw [e2] at hrest; cases hrest
                  | ok ys =>
                    rw [e2] at hrest
                    cases hrest
                    have hD5 : H5 D = some (.lst acc) := s5 _ _ hD4
                    have nt : ∀ xs, H5 D ≠ some (.tup xs) := fun xs e => by rw [hD5] at e; cases e
                    have nD5 : ¬ F5 D := fun z => by rw [(f5 D z).1] at hD4; cases hD4
                    have sm5 := sm4.trans s5
                    refine ⟨acc, hD5, ?_, hlt, acc ++ [v], fun a => F a ∨ F5 a, os ++ [yo], ys, upd_same, smD sm5 (.inl (NT.lst hD5)), ?_, fun a z => ?_, fun z => z.elim nD nD5, by simp; omega, e2, by simpa using htot⟩
                    · rw [RepOs.length ro, sizeLine_eq]
                      have := szOk_le hz
                      rw [sizeLine_eq] at this
                      omega
                    · refine RepOs.append (fun a z z2 => ?_) (RepOs.updD nD nS nt (RepOs.same s5 keep4)) ?_
                      · exact ((fr.up (s3.trans s4)) a z).2.ne (f5 a z2).1
                      · simp only [RepOs]
                        exact ⟨v, [], F5, fun _ => False, rfl, fun _ z => z, fun _ z => z.elim, fun _ _ z => z, RepO.updD nD5 nS nt r5, rfl⟩
                    · have ne : a ≠ D := fun e => z.elim (fun q => nD (e ▸ q)) fun q => nD5 (e ▸ q)
                      rcases z with z | z
                      · refine ⟨(fr a z).1, ?_⟩
                        rw [upd_ne ne]
                        exact ((fr.up (s3.trans s4)).up s5 a z).2
                      · refine ⟨sm4.free (f5 a z).1, ?_⟩
                        rw [upd_ne ne]
                        exact (f5 a z).2
      · have ei : i = items.length := by omega
        subst ei
        rw [List.drop_length] at hrest
        cases hrest
        rw [List.append_nil] at htot
        subst htot
        refine .inl ⟨hJ.2 H2 sm, h (.ref D) H2 (fun a => a = D ∨ F a) (s1.trans sm |> fun q => q) ?_ fun a z => ?_⟩
        · simp only [RepO]
          refine ⟨D, acc, F, rfl, hDl, .inl rfl, nD, fun _ z => .inr z, ?_⟩
          rcases lcL_len el with q | q
          · refine RepOs.keep (w := wx w Fx) (w' := w) (p := fun _ => false) rfl (fun k _ => KeepS.same (Same.refl _) ?_) (fun _ _ e => e) (O.nos_none _) (fun _ _ _ e _ => e) ro
            cases k with
            | fz => exact fun a z => z.elim id fun z => absurd z (hfl q a)
            | bo => exact fun _ z => z
            | tb => exact fun a z => z.elim id fun z => absurd z (hfl q a)
          · exact RepOs.own (w := wx w Fx) (w' := w) rfl q ro
        · rcases z with rfl | z
          · exact ⟨s1.free hD, NT.lst hDl⟩
          · exact ⟨s1.free (fr a z).1, (fr a z).2⟩
theorem lc_read (hcm : X.calm = true) (hi : VJ X tg iter src)
    (hg : ∀ (s : Shared) (H : Hp) (C : Addr) (cl : List (Str × Addr)) (fp : List Addr), VG (X.blk s H scope (compEnvC scope cl C X.env) fp) (own.map (·.2)) tg g asg) (ht : ∀ (s : Shared) (H : Hp) (C : Addr) (cl : List (Str × Addr)) (fp : List Addr), VTs (X.blk s H scope (compEnvC scope cl C X.env) fp) ifs t)
    (he : ∀ (s : Shared) (H : Hp) (C : Addr) (cl : List (Str × Addr)) (fp : List Addr), VE (X.blk s H scope (compEnvC scope cl C X.env) fp) elt me) {W : WX} (tk : Takes X W) {w : Wd} (hc : ClOk X w.cl) :
    ∃ (wi : TI) (tt : TT) (te : TE), PI X tg iter wi ∧ (∀ (s : Shared) (H : Hp) (C : Addr) (cl : List (Str × Addr)) (fp : List Addr), PTs (X.blk s H scope (compEnvC scope cl C X.env) fp) ifs tt) ∧ (∀ (s : Shared) (H : Hp) (C : Addr) (cl : List (Str × Addr)) (fp : List Addr), PE (X.blk s H scope (compEnvC scope cl C X.env) fp) elt te) ∧
      ∀ (σ : L2.St) (H : Hp) (Q : VK), ∀ s0 : Shared, rE w W (gLc (own.map (·.2)) src asg t me) σ H Q → tLc wi g tt te (own.map (·.2)) σ H Q := by
  obtain ⟨wi, hwi, hsrc⟩ := hi W tk w hc
  have hc0 := ClOk.ok0 hcm hc
  have hcb : ∀ (Fx : Addr → Prop) (s : Shared) (H : Hp) (C : Addr) (cl : List (Str × Addr)) (fp : List Addr), ClOk (X.blk s H scope (compEnvC scope cl C X.env) fp) (wx w Fx).cl := fun _ _ _ _ _ _ => ⟨hc0.1, fun a Ca d q => absurd q (hc0.2 a Ca d)⟩
  refine ⟨wi, _, _, hwi, fun s H C cl fp => ttW_p (ht s H C cl fp) fun Fx => hcb Fx s H C cl fp, fun s H C cl fp => teW_p (he s H C cl fp) fun Fx => hcb Fx s H C cl fp, fun σ H Q s0 h => ?_⟩
  obtain ⟨env, G, h⟩ := rE_to h
  exact lc_at (hg s0 H 0 [] []).2 G (fun Q' => hsrc env σ H Q' G) h
theorem ve_lc (hcm : X.calm = true) (hN : X.N.Nodup) (ok : BlkOk X.N X.env.scope scope own) (hi : VJ X tg iter src)
    (hg : ∀ (s : Shared) (H : Hp) (C : Addr) (cl : List (Str × Addr)) (fp : List Addr), VG (X.blk s H scope (compEnvC scope cl C X.env) fp) (own.map (·.2)) tg g asg) (ht : ∀ (s : Shared) (H : Hp) (C : Addr) (cl : List (Str × Addr)) (fp : List Addr), VTs (X.blk s H scope (compEnvC scope cl C X.env) fp) ifs t)
    (he : ∀ (s : Shared) (H : Hp) (C : Addr) (cl : List (Str × Addr)) (fp : List Addr), VE (X.blk s H scope (compEnvC scope cl C X.env) fp) elt me) (hs : ∀ x, foldedSetIterable iter X.env x = pure x := by intro _; rfl) :
    VE X (.ListComp elt [⟨tg, iter, ifs, 0⟩] scope pos) (gLc (own.map (·.2)) src asg t me) := fun W tk w hc => by
  obtain ⟨wi, tt, te, h1, h2, h3, h4⟩ := lc_read hcm hi hg ht he tk hc
  exact ⟨fun pins s σ H Q I h => (pe_lc hcm hN h1 ok (fun s H C cl fp => (hg s H C cl fp).1) h2 h3 hs).run pins s σ H Q I (h4 σ H Q s h)⟩
theorem vs_setLc {i : Nat} {y : Str} {py spos : Pos} {P : List Nat} (fr : Bool) (hcm : X.calm = true) (hN : X.N.Nodup) (ok : BlkOk X.N X.env.scope scope own) (hi : VJ X tg iter src)
    (hg : ∀ (s : Shared) (H : Hp) (C : Addr) (cl : List (Str × Addr)) (fp : List Addr), VG (X.blk s H scope (compEnvC scope cl C X.env) fp) (own.map (·.2)) tg g asg) (ht : ∀ (s : Shared) (H : Hp) (C : Addr) (cl : List (Str × Addr)) (fp : List Addr), VTs (X.blk s H scope (compEnvC scope cl C X.env) fp) ifs t)
    (he : ∀ (s : Shared) (H : Hp) (C : Addr) (cl : List (Str × Addr)) (fp : List Addr), VE (X.blk s H scope (compEnvC scope cl C X.env) fp) elt me) (hy : X.N[i]? = some y := by rfl) (hyl : X.env.scope.names.lookup y = some .local := by rfl)
    (hsw : swapsWith (.ListComp elt [⟨tg, iter, ifs, 0⟩] scope pos) (some (.Name y py)) spos.line X.env = pure true := by rfl) (hP : P.contains i = false := by rfl) (hs : ∀ x, foldedSetIterable iter X.env x = pure x := by intro _; rfl) :
    VS X P (.Assign [.Name y py] (.ListComp elt [⟨tg, iter, ifs, 0⟩] scope pos) spos) (if fr then sSetZ i (pur (gLc (own.map (·.2)) src asg t me)) else sSet i (pur (gLc (own.map (·.2)) src asg t me))) := fun W tk f hf => by
  refine ⟨fun pins s σ H D I h => ?_⟩
  obtain ⟨env, ⟨Z, Fs, g⟩, h⟩ := rS_to h
  obtain ⟨wi, tt, te, h1, h2, h3, h4⟩ := lc_read hcm hi hg ht he tk (w := tw f Z Fs) hf.1
  refine (ps_setLc hcm hN hy hyl hsw h1 ok (fun s H C cl fp => (hg s H C cl fp).1) h2 h3 hs).run pins s σ H D I (h4 σ H _ s (rE_of g.goodE ?_))
  have key : SOut f W D ((pur (gLc (own.map (·.2)) src asg t me) env).bind fun o e => match (if fr then frzO o else some o) with
      | some o' => if i < e.length then .ok .next (e.set i (some o')) else .no
      | none => .no) := by
    cases fr with
    | true => exact h
    | false => exact h
  unfold pur at key
  cases e : gLc (own.map (·.2)) src asg t me (dl env) with
  | no => rw [e] at key; exact key
  | ex x =>
    rw [e] at key
    simp only at key
    split at key
    · rename_i n
      exact fun cls d H' F sm r fx => key cls d σ H' ⟨Z, Fs, F, g.same sm, RepX.unlend n r, g.fresh fx⟩
    · exact key.elim
  | ok o =>
    rw [e] at key
    simp only at key
    split at key
    · rename_i n
      intro v H' F sm r fx
      have gv : GoodV f env o v σ H' := ⟨Z, Fs, F, g.same sm, RepO.unlend n r, g.fresh fx⟩
      simp only [RX.bind] at key
      split at key
      · rename_i o' eo
        split at key
        · rename_i hlt
          refine key _ H' (GoodV.set (o := o') ?_ hlt (pin_ne hf.2 hP))
          cases fr with
          | true => exact gv.fz (by simpa using eo)
          | false =>
            have : o = o' := by simpa using eo
            subst this; exact gv
        · exact key.elim
      · exact key.elim
    · exact key.elim
end
end VL
namespace VL
open PySem PySem.Spec PyProof.Rows L2
def O.kid : O → Nat → Option O
  | .lst xs, n => xs[n]?
  | .tup xs, n => xs[n]?
  | .dct _ xs, n => xs[n]?
  | .dcT _ xs, n => xs[n]?
  | .obj _ _ xs, n => xs[n]?
  | _, _ => none
def O.setKid : O → Nat → O → O
  | .lst xs, n, s => .lst (xs.set n s)
  | .tup xs, n, s => .tup (xs.set n s)
  | .dct ks xs, n, s => .dct ks (xs.set n s)
  | .dcT ks xs, n, s => .dcT ks (xs.set n s)
  | .obj C fs xs, n, s => .obj C fs (xs.set n s)
  | o, _, _ => o
def O.at : O → List Nat → Option O
  | o, [] => some o
  | o, n :: p => (o.kid n).bind fun k => k.at p
def O.put : O → List Nat → O → O
  | _, [], s => s
  | o, n :: p, s => match o.kid n with
    | some k => o.setKid n (k.put p s)
    | none => o
def kidV (H : Hp) (v : V) (n : Nat) : Option V := match v with
  | .ref a => (match H a with
    | some (.lst xs) => xs[n]?
    | some (.tup xs) => xs[n]?
    | some (.dK kvs) => (kvs.map (·.2))[n]?
    | some (.dT kvs) => (kvs.map (·.2))[n]?
    | some (.ins _ _ kvs) => (kvs.map (·.2))[n]?
    | _ => none)
  | _ => none
def walkV (H : Hp) : V → List Nat → Option V
  | v, [] => some v
  | v, n :: p => (kidV H v n).bind fun k => walkV H k p
structure KpW (w : Wd) (H H' : Hp) (R : Addr → Prop) : Prop where
  reg : ∀ a u, R a → H a = some u → H' a = some u
  ks : ∀ k, KeepS H H' (w.S k) (w.S k)
  tp : ∀ a xs, H a = some (.tup xs) → H' a = some (.tup xs)
theorem KpW.o {w : Wd} {H H' : Hp} {R : Addr → Prop} (k : KpW w H H' R) {o : O} {v : V} {F : Addr → Prop} (s : Sub F R) (h : RepO w H o v F) : RepO w H' o v F :=
  RepO.keep (w := w) (w' := w) (p := fun _ => false) rfl (fun x _ => k.ks x) k.tp (O.no_none o) (fun a u z e _ => k.reg a u (s a z) e) h
theorem KpW.os {w : Wd} {H H' : Hp} {R : Addr → Prop} (k : KpW w H H' R) {o : List O} {v : List V} {F : Addr → Prop} (s : Sub F R) (h : RepOs w H o v F) : RepOs w H' o v F :=
  RepOs.keep (w := w) (w' := w) (p := fun _ => false) rfl (fun x _ => k.ks x) k.tp (O.nos_none o) (fun a u z e _ => k.reg a u (s a z) e) h
theorem KpW.sub {w : Wd} {H H' : Hp} {R R' : Addr → Prop} (k : KpW w H H' R) (s : Sub R' R) : KpW w H H' R' := ⟨fun a u z => k.reg a u (s a z), k.ks, k.tp⟩
abbrev swapF (F Fs Fs' : Addr → Prop) : Addr → Prop := fun a => (F a ∧ ¬ Fs a) ∨ Fs' a
theorem RepOs.focus {w : Wd} {H : Hp} : ∀ {os : List O} {vs : List V} {F : Addr → Prop} {n : Nat} {s : O}, RepOs w H os vs F → os[n]? = some s → ∃ v Fs, vs[n]? = some v ∧ RepO w H s v Fs ∧ Sub Fs F ∧
    ∀ H' s' Fs', KpW w H H' (fun a => F a ∧ ¬ Fs a) → RepO w H' s' v Fs' → (∀ a, Fs' a → F a → Fs a) → RepOs w H' (os.set n s') vs (swapF F Fs Fs')
  | [], vs, F, n, s, h, e => by simp at e
  | x :: os, vs, F, 0, s, h, e => by
    simp only [RepOs] at h
    obtain ⟨v, r, F1, F2, rfl, s1, s2, d, h1, h2⟩ := h
    simp at e; subst e
    refine ⟨v, F1, rfl, h1, s1, fun H' s' Fs' k h' hd => ?_⟩
    simp only [List.set_cons_zero, RepOs]
    refine ⟨v, r, Fs', F2, rfl, fun a z => .inr z, fun a z => .inl ⟨s2 a z, fun q => d a q z⟩, fun a z z2 => d a (hd a z (s2 a z2)) z2, h', k.os (fun a z => ⟨s2 a z, fun q => d a q z⟩) h2⟩
  | x :: os, vs, F, n + 1, s, h, e => by
    simp only [RepOs] at h
    obtain ⟨v, r, F1, F2, rfl, s1, s2, d, h1, h2⟩ := h
    obtain ⟨v', Fs, ev, hs, sF, upd⟩ := RepOs.focus h2 (show os[n]? = some s by simpa using e)
    refine ⟨v', Fs, by simpa using ev, hs, fun a z => s2 a (sF a z), fun H' s' Fs' k h' hd => ?_⟩
    have u := upd H' s' Fs' (k.sub fun a z => ⟨s2 a z.1, z.2⟩) h' fun a z q => hd a z (s2 a q)
    simp only [List.set_cons_succ, RepOs]
    refine ⟨v, r, F1, _, rfl, fun a z => .inl ⟨s1 a z, fun q => d a z (sF a q)⟩, ?_, ?_, k.o (fun a z => ⟨s1 a z, fun q => d a z (sF a q)⟩) h1, u⟩
    · rintro a (z | z)
      · exact .inl ⟨s2 a z.1, z.2⟩
      · exact .inr z
    · rintro a z (q | q)
      · exact d a z q.1
      · exact d a z (sF a (hd a q (s1 a z)))
theorem RepO.focus {w : Wd} {H : Hp} : ∀ {p : List Nat} {o : O} {v : V} {F : Addr → Prop} {s : O}, RepO w H o v F → o.at p = some s → ∃ vs Fs, walkV H v p = some vs ∧ RepO w H s vs Fs ∧ Sub Fs F ∧
    ∀ H' s' Fs', KpW w H H' (fun a => F a ∧ ¬ Fs a) → RepO w H' s' vs Fs' → (∀ a, Fs' a → F a → Fs a) → RepO w H' (o.put p s') v (swapF F Fs Fs')
  | [], o, v, F, s, h, e => by
    cases e
    refine ⟨v, F, rfl, h, fun _ z => z, fun H' s' Fs' k h' hd => RepO.mono (fun a z => .inr z) h'⟩
  | n :: p, .lf k d, v, F, s, h, e => by cases e
  | n :: p, .xn C fs ds, v, F, s, h, e => by cases e
  | n :: p, .xo C fs ds, v, F, s, h, e => by cases e
  | n :: p, .lst xs, v, F, s, h, e => by
    simp only [RepO] at h
    obtain ⟨a, us, G, rfl, r, fa, ga, sg, q⟩ := h
    simp only [O.at, O.kid] at e
    cases ek : xs[n]? with
    | none => rw [ek] at e; cases e
    | some kd =>
      rw [ek] at e
      obtain ⟨v1, F1, ev, hk, sF, updO⟩ := RepOs.focus q ek
      obtain ⟨vs, Fs, ew, hs, sF1, updI⟩ := RepO.focus (p := p) hk e
      refine ⟨vs, Fs, ?_, hs, fun b z => sg b (sF b (sF1 b z)), fun H' s' Fs' k h' hd => ?_⟩
      · simp only [walkV, kidV, r, ev, Option.bind_some]; exact ew
      · have h1 := updI H' s' Fs' (k.sub fun b z => ⟨sg b (sF b z.1), z.2⟩) h' fun b z q => hd b z (sg b (sF b q))
        have h2 := updO H' _ _ (k.sub fun b z => ⟨sg b z.1, fun q => z.2 (sF1 b q)⟩) h1 (fun b z q => z.elim (fun z => z.1) fun z => sF1 b (hd b z (sg b q)))
        simp only [O.put, O.kid, ek, O.setKid, RepO]
        have na : ¬ Fs a := fun z => ga (sF a (sF1 a z))
        refine ⟨a, us, _, rfl, k.reg a _ ⟨fa, na⟩ r, .inl ⟨fa, na⟩, ?_, ?_, h2⟩
        · rintro (z | z | z)
          · exact ga z.1
          · exact ga (sF a z.1)
          · exact na (hd a z fa)
        · rintro b (z | z | z)
          · exact .inl ⟨sg b z.1, fun q => z.2 (sF1 b q)⟩
          · exact .inl ⟨sg b (sF b z.1), z.2⟩
          · exact .inr z
  | n :: p, .tup xs, v, F, s, h, e => by
    simp only [RepO] at h
    obtain ⟨a, us, rfl, r, q⟩ := h
    simp only [O.at, O.kid] at e
    cases ek : xs[n]? with
    | none => rw [ek] at e; cases e
    | some kd =>
      rw [ek] at e
      obtain ⟨v1, F1, ev, hk, sF, updO⟩ := RepOs.focus q ek
      obtain ⟨vs, Fs, ew, hs, sF1, updI⟩ := RepO.focus (p := p) hk e
      refine ⟨vs, Fs, ?_, hs, fun b z => sF b (sF1 b z), fun H' s' Fs' k h' hd => ?_⟩
      · simp only [walkV, kidV, r, ev, Option.bind_some]; exact ew
      · have h1 := updI H' s' Fs' (k.sub fun b z => ⟨sF b z.1, z.2⟩) h' fun b z q => hd b z (sF b q)
        have h2 := updO H' _ _ (k.sub fun b z => ⟨z.1, fun q => z.2 (sF1 b q)⟩) h1 (fun b z q => z.elim (fun z => z.1) fun z => sF1 b (hd b z q))
        simp only [O.put, O.kid, ek, O.setKid, RepO]
        refine ⟨a, us, rfl, k.tp a us r, RepOs.mono ?_ h2⟩
        rintro b (z | z | z)
        · exact .inl ⟨z.1, fun q => z.2 (sF1 b q)⟩
        · exact .inl ⟨sF b z.1, z.2⟩
        · exact .inr z
  | n :: p, .dct ks xs, v, F, s, h, e => by
    simp only [RepO] at h
    obtain ⟨a, us, G, rfl, r, ez, fa, ga, sg, q⟩ := h
    simp only [O.at, O.kid] at e
    cases ek : xs[n]? with
    | none => rw [ek] at e; cases e
    | some kd =>
      rw [ek] at e
      obtain ⟨v1, F1, ev, hk, sF, updO⟩ := RepOs.focus q ek
      obtain ⟨vs, Fs, ew, hs, sF1, updI⟩ := RepO.focus (p := p) hk e
      refine ⟨vs, Fs, ?_, hs, fun b z => sg b (sF b (sF1 b z)), fun H' s' Fs' k h' hd => ?_⟩
      · simp only [walkV, kidV, r, ev, Option.bind_some]; exact ew
      · have h1 := updI H' s' Fs' (k.sub fun b z => ⟨sg b (sF b z.1), z.2⟩) h' fun b z q => hd b z (sg b (sF b q))
        have h2 := updO H' _ _ (k.sub fun b z => ⟨sg b z.1, fun q => z.2 (sF1 b q)⟩) h1 (fun b z q => z.elim (fun z => z.1) fun z => sF1 b (hd b z (sg b q)))
        simp only [O.put, O.kid, ek, O.setKid, RepO]
        have na : ¬ Fs a := fun z => ga (sF a (sF1 a z))
        refine ⟨a, us, _, rfl, k.reg a _ ⟨fa, na⟩ r, ez, .inl ⟨fa, na⟩, ?_, ?_, h2⟩
        · rintro (z | z | z)
          · exact ga z.1
          · exact ga (sF a z.1)
          · exact na (hd a z fa)
        · rintro b (z | z | z)
          · exact .inl ⟨sg b z.1, fun q => z.2 (sF1 b q)⟩
          · exact .inl ⟨sg b (sF b z.1), z.2⟩
          · exact .inr z
  | n :: p, .dcT ks xs, v, F, s, h, e => by
    simp only [RepO] at h
    obtain ⟨a, us, G, rfl, r, ez, fa, ga, sg, q⟩ := h
    simp only [O.at, O.kid] at e
    cases ek : xs[n]? with
    | none => rw [ek] at e; cases e
    | some kd =>
      rw [ek] at e
      obtain ⟨v1, F1, ev, hk, sF, updO⟩ := RepOs.focus q ek
      obtain ⟨vs, Fs, ew, hs, sF1, updI⟩ := RepO.focus (p := p) hk e
      refine ⟨vs, Fs, ?_, hs, fun b z => sg b (sF b (sF1 b z)), fun H' s' Fs' k h' hd => ?_⟩
      · simp only [walkV, kidV, r, ev, Option.bind_some]; exact ew
      · have h1 := updI H' s' Fs' (k.sub fun b z => ⟨sg b (sF b z.1), z.2⟩) h' fun b z q => hd b z (sg b (sF b q))
        have h2 := updO H' _ _ (k.sub fun b z => ⟨sg b z.1, fun q => z.2 (sF1 b q)⟩) h1 (fun b z q => z.elim (fun z => z.1) fun z => sF1 b (hd b z (sg b q)))
        simp only [O.put, O.kid, ek, O.setKid, RepO]
        have na : ¬ Fs a := fun z => ga (sF a (sF1 a z))
        refine ⟨a, us, _, rfl, k.reg a _ ⟨fa, na⟩ r, ez, .inl ⟨fa, na⟩, ?_, ?_, h2⟩
        · rintro (z | z | z)
          · exact ga z.1
          · exact ga (sF a z.1)
          · exact na (hd a z fa)
        · rintro b (z | z | z)
          · exact .inl ⟨sg b z.1, fun q => z.2 (sF1 b q)⟩
          · exact .inl ⟨sg b (sF b z.1), z.2⟩
          · exact .inr z
  | n :: p, .obj C fs xs, v, F, s, h, e => by
    simp only [RepO] at h
    obtain ⟨a, Ca, dx, us, G, rfl, cc, r, ez, fa, ga, sg, q⟩ := h
    simp only [O.at, O.kid] at e
    cases ek : xs[n]? with
    | none => rw [ek] at e; cases e
    | some kd =>
      rw [ek] at e
      obtain ⟨v1, F1, ev, hk, sF, updO⟩ := RepOs.focus q ek
      obtain ⟨vs, Fs, ew, hs, sF1, updI⟩ := RepO.focus (p := p) hk e
      refine ⟨vs, Fs, ?_, hs, fun b z => sg b (sF b (sF1 b z)), fun H' s' Fs' k h' hd => ?_⟩
      · simp only [walkV, kidV, r, ev, Option.bind_some]; exact ew
      · have h1 := updI H' s' Fs' (k.sub fun b z => ⟨sg b (sF b z.1), z.2⟩) h' fun b z q => hd b z (sg b (sF b q))
        have h2 := updO H' _ _ (k.sub fun b z => ⟨sg b z.1, fun q => z.2 (sF1 b q)⟩) h1 (fun b z q => z.elim (fun z => z.1) fun z => sF1 b (hd b z (sg b q)))
        simp only [O.put, O.kid, ek, O.setKid, RepO]
        have na : ¬ Fs a := fun z => ga (sF a (sF1 a z))
        refine ⟨a, Ca, dx, us, _, rfl, cc, k.reg a _ ⟨fa, na⟩ r, ez, .inl ⟨fa, na⟩, ?_, ?_, h2⟩
        · rintro (z | z | z)
          · exact ga z.1
          · exact ga (sF a z.1)
          · exact na (hd a z fa)
        · rintro b (z | z | z)
          · exact .inl ⟨sg b z.1, fun q => z.2 (sF1 b q)⟩
          · exact .inl ⟨sg b (sF b z.1), z.2⟩
          · exact .inr z
end VL
namespace VL
open PySem PySem.Spec PyProof.Rows L2
def getP (env : VEnv) (i : Nat) (p : List Nat) : Option O := match env[i]? with
  | some (some o) => o.at p
  | _ => none
def setP (env : VEnv) (i : Nat) (p : List Nat) (s : O) : VEnv := match env[i]? with
  | some (some o) => env.set i (some (o.put p s))
  | _ => env
theorem getP_some {env : VEnv} {i : Nat} {p : List Nat} {s : O} (h : getP env i p = some s) : ∃ o, env[i]? = some (some o) ∧ o.at p = some s := by
  unfold getP at h
  split at h
  · rename_i o e; exact ⟨o, e, h⟩
  · cases h
theorem setP_some {env : VEnv} {i : Nat} {p : List Nat} {s : O} {o : O} (h : env[i]? = some (some o)) : setP env i p s = env.set i (some (o.put p s)) := by
  unfold setP; rw [h]
section
variable {f : Fm} {Z : Addr → Prop} {Fs : Nat → Addr → Prop} {env : VEnv} {σ : L2.St} {H : Hp}
theorem GoodAt.place {i : Nat} {p : List Nat} {s : O} (g : GoodAt f Z Fs env σ H) (h : getP env i p = some s) : ∃ v0 vs Fp, σ[i]? = some (some v0) ∧ walkV H v0 p = some vs ∧ RepO (f.w Z) H s vs Fp ∧ Sub Fp (Fs i) ∧
    ∀ (H' : Hp) (s' : O) (F' Xf : Addr → Prop), Extra f Z Fs H Xf → (∀ b u, H b = some u → ¬ Fp b → H' b = some u) → (∀ b, H b ≠ none → H' b ≠ none) → (∀ b, F' b → Fp b ∨ Xf b) → (∀ b, F' b → NT (H' b)) → RepO (f.w Z) H' s' vs F' →
      GoodAt f Z (fun j b => if j = i then swapF (Fs i) Fp F' b else Fs j b) (setP env i p s') σ H' := by
  obtain ⟨o, eo, es⟩ := getP_some h
  obtain ⟨v0, ev, r⟩ := g.rep i o eo
  obtain ⟨vs, Fp, ew, hs, sF, upd⟩ := RepO.focus r es
  refine ⟨v0, vs, Fp, ev, ew, hs, sF, fun H' s' F' Xf x hk ht hF hN hr => ?_⟩
  have nx : ∀ b, Fp b → NT (H b) := fun b q => (g.own i b (sF b q)).2.2
  have tup : ∀ a xs, H a = some (.tup xs) → H' a = some (.tup xs) := fun a xs e => hk a _ e fun q => by
    obtain ⟨u, e', n⟩ := (g.own i a (sF a q)).2.2
    rw [e] at e'; cases e'; exact n
  have keepS : ∀ S : Addr → Prop, (∀ a, S a → ¬ Fp a) → KeepS H H' S S := fun S hS =>
    ⟨fun a u z r _ => ⟨z, r.elim (fun e => .inl (hk a _ e (hS a z))) fun ⟨q, e⟩ => .inr ⟨q, hk a _ e (hS a z)⟩⟩, fun a C dx fs z e => hk a _ e (hS a z), tup, fun a xs z e => hk a _ e (hS a z), fun a xs z e => hk a _ e (hS a z)⟩
  have kw : ∀ k, KeepS H H' ((f.w Z).S k) ((f.w Z).S k) := fun k => keepS _ fun a z q => by
    cases k with
    | fz => exact (g.own i a (sF a q)).1 z
    | bo => exact (g.own i a (sF a q)).2.1 z
    | tb => exact z
  have hd : ∀ a, F' a → Fs i a → Fp a := fun a z q => (hF a z).elim id fun w => absurd q ((x a w).2.2.2.2 i)
  have up := upd H' s' F' ⟨fun a u z e => hk a u e z.2, kw, tup⟩ hr hd
  have hi : i < env.length := (List.getElem?_eq_some_iff.mp eo).1
  rw [setP_some eo]
  refine ⟨fun j q e => ?_, fun j k a n z z' => ?_, fun j a z => ?_, fun a z => ht a (g.zal a z), fun a z => ht a (g.bal a z), fun a u e n => (g.keep a u e n).butF nx hk fun _ q => ?_, ⟨fun a n => ht a (g.there.1 a n), fun P q t => (g.there.2 P q t).butF nx hk⟩, fun j a z => ?_, g.znew, g.zold, g.pin, by simpa using g.len⟩
  · by_cases hj : j = i
    · subst hj
      rw [List.getElem?_set_self hi] at e
      cases e
      exact ⟨v0, ev, by simpa using up⟩
    · rw [List.getElem?_set_ne (Ne.symm hj)] at e
      obtain ⟨v', ev', r'⟩ := g.rep j q e
      refine ⟨v', ev', ?_⟩
      have : RepO (f.w Z) H' q v' (Fs j) := RepO.keep (w := f.w Z) (w' := f.w Z) (p := fun _ => false) rfl (fun k _ => kw k) tup (O.no_none q) (fun a u z e _ => hk a u e fun w => g.dis i j a (fun q => hj q.symm) (sF a w) z) r'
      simpa [hj] using this
  · replace z : if j = i then swapF (Fs i) Fp F' a else Fs j a := z
    replace z' : if k = i then swapF (Fs i) Fp F' a else Fs k a := z'
    split at z <;> split at z'
    · rename_i e e'; exact n (e.trans e'.symm)
    · rename_i e e'
      rcases z with z | z
      · exact g.dis i k a (fun q => e' q.symm) z.1 z'
      · rcases hF a z with w | w
        · exact g.dis i k a (fun q => e' q.symm) (sF a w) z'
        · exact (x a w).2.2.2.2 k z'
    · rename_i e e'
      rcases z' with z' | z'
      · exact g.dis i j a (fun q => e q.symm) z'.1 z
      · rcases hF a z' with w | w
        · exact g.dis i j a (fun q => e q.symm) (sF a w) z
        · exact (x a w).2.2.2.2 j z
    · exact g.dis j k a n z z'
  · replace z : if j = i then swapF (Fs i) Fp F' a else Fs j a := z
    have ntk : ∀ {b : Addr}, NT (H b) → ¬ Fp b → NT (H' b) := fun {b} ⟨u, e, n⟩ q => ⟨u, hk b u e q, n⟩
    split at z
    · rcases z with z | z
      · exact ⟨(g.own i a z.1).1, (g.own i a z.1).2.1, ntk (g.own i a z.1).2.2 z.2⟩
      · rcases hF a z with w | w
        · exact ⟨(g.own i a (sF a w)).1, (g.own i a (sF a w)).2.1, hN a z⟩
        · exact ⟨(x a w).1, (x a w).2.1, hN a z⟩
    · rename_i hj
      exact ⟨(g.own j a z).1, (g.own j a z).2.1, ntk (g.own j a z).2.2 fun w => g.dis i j a (fun q => hj q.symm) (sF a w) z⟩
  · rcases g.fnew i a (sF a q) with z | z
    · exact n z
    · rw [e] at z; cases z
  · replace z : if j = i then swapF (Fs i) Fp F' a else Fs j a := z
    split at z
    · rcases z with z | z
      · exact g.fnew i a z.1
      · rcases hF a z with w | w
        · exact g.fnew i a (sF a w)
        · exact (x a w).2.2.2.1
    · exact g.fnew j a z
theorem GoodAt.putL {i : Nat} {p : List Nat} {os : List O} (g : GoodAt f Z Fs env σ H) (h : getP env i p = some (.lst os)) : ∃ v0 a xs G, σ[i]? = some (some v0) ∧ walkV H v0 p = some (.ref a) ∧ H a = some (.lst xs) ∧ RepOs (f.w Z) H os xs G ∧ ¬ G a ∧ (∀ b, G b → Fs i b) ∧ Fs i a ∧
    ∀ (os' : List O) (xs' : List V) (G' Xf : Addr → Prop), Extra f Z Fs H Xf → (∀ b, G' b → G b ∨ Xf b) → RepOs (f.w Z) H os' xs' G' →
      ∃ Fs', GoodAt f Z Fs' (setP env i p (.lst os')) σ (upd H a (.lst xs')) ∧ (∀ b, b ≠ a → ¬ G' b → (∀ j, ¬ Fs j b) ∨ G b → ∀ j, ¬ Fs' j b) := by
  obtain ⟨v0, vs, Fp, ev, ew, hs, sF, upd_⟩ := g.place h
  simp only [RepO] at hs
  obtain ⟨a, xs, G, rfl, ha, fa, ga, sg, q⟩ := hs
  have hS : ∀ k, ¬ (f.w Z).S k a := fun k z => by
    cases k with
    | fz => exact (g.own i a (sF a fa)).1 z
    | bo => exact (g.own i a (sF a fa)).2.1 z
    | tb => exact z
  have nt : ∀ ys, H a ≠ some (.tup ys) := fun ys e => by rw [ha] at e; cases e
  refine ⟨v0, a, xs, G, ev, ew, ha, q, ga, fun b z => sF b (sg b z), sF a fa, fun os' xs' G' Xf x hG hr => ?_⟩
  have nG' : ¬ G' a := fun z => (hG a z).elim ga fun w => (x a w).2.2.2.2 i (sF a fa)
  have hk : ∀ b u, H b = some u → ¬ Fp b → (upd H a (.lst xs')) b = some u := fun b u e n => by rw [upd_ne (fun (q : b = a) => n (q ▸ fa))]; exact e
  have hn : ∀ b, H b ≠ none → (upd H a (.lst xs')) b ≠ none := fun b n => by
    by_cases hb : b = a
    · rw [hb, upd_same]; exact fun q => nomatch q
    · rw [upd_ne hb]; exact n
  have hnt : ∀ b, NT (H b) → NT ((upd H a (.lst xs')) b) := fun b n => by
    by_cases hb : b = a
    · rw [hb, upd_same]; exact NT.lst rfl
    · rw [upd_ne hb]; exact n
  refine ⟨_, upd_ (upd H a (.lst xs')) (.lst os') (fun b => b = a ∨ G' b) Xf x hk hn (fun b z => z.elim (fun q => .inl (q ▸ fa)) fun w => (hG b w).imp (sg b) id) (fun b z => ?_) ?_, fun b hb nb hh j z => ?_⟩
  · rcases z with rfl | z
    · rw [upd_same]; exact NT.lst rfl
    · refine hnt b ?_
      rcases hG b z with w | w
      · exact (g.own i b (sF b (sg b w))).2.2
      · exact (x b w).2.2.1
  · simp only [RepO]
    exact ⟨a, xs', G', rfl, upd_same, .inl rfl, nG', fun _ z => .inr z, RepOs.updD nG' hS nt hr⟩
  · replace z : if j = i then swapF (Fs i) Fp (fun b => b = a ∨ G' b) b else Fs j b := z
    split at z
    · rcases z with z | z | z
      · rcases hh with hh | hh
        · exact hh i z.1
        · exact z.2 (sg b hh)
      · exact hb z
      · exact nb z
    · rename_i hj
      rcases hh with hh | hh
      · exact hh j z
      · exact g.dis i j b (fun q => hj q.symm) (sF b (sg b hh)) z
end
end VL
namespace VL
open PySem PySem.Spec PyProof.Rows L2
theorem kidV_same {H H' : Hp} {v u : V} {n : Nat} (s : Same H H') (h : kidV H v n = some u) : kidV H' v n = some u := by
  unfold kidV at h ⊢
  split at h
  · split at h
    · rename_i e; rw [s _ _ e]; exact h
    · rename_i e; rw [s _ _ e]; exact h
    · rename_i e; rw [s _ _ e]; exact h
    · rename_i e; rw [s _ _ e]; exact h
    · rename_i e; rw [s _ _ e]; exact h
    · cases h
  · cases h
theorem walkV_same {H H' : Hp} (s : Same H H') : ∀ {p : List Nat} {v u : V}, walkV H v p = some u → walkV H' v p = some u
  | [], v, u, h => h
  | n :: p, v, u, h => by
    simp only [walkV] at h ⊢
    cases e : kidV H v n with
    | none => rw [e] at h; cases h
    | some k =>
      rw [e] at h
      rw [kidV_same s e]
      exact walkV_same s h
def rP (f : Fm) (mp : VEnv → Option (Nat × List Nat)) : TE := fun σ H Q => ∃ Z Fs env, GoodAt f Z Fs env σ H ∧ match mp env with
  | some (i, p) => ∀ v0 v H', σ[i]? = some (some v0) → Same H H' → walkV H' v0 p = some v → Q v H'
  | none => False
def VP (X : Cx) (P : List Nat) (e : Expr) (mp : VEnv → Option (Nat × List Nat)) : Prop := ∀ (W : WX), Takes X W → ∀ f : Fm, FOk X P f → PE X e (rP f mp)
def pName (i : Nat) : VEnv → Option (Nat × List Nat) := fun env => match env[i]? with
  | some (some _) => some (i, [])
  | _ => none
section
variable {X : Cx} {P : List Nat} {e a b : Expr} {es : List Expr} {mp : VEnv → Option (Nat × List Nat)} {ma mb : DEnv → R O} {mx : VEnv → RX O} {pos p : Pos} {x : Str}
theorem vp_name (i : Nat) {pos : Pos} (hN : X.N[i]? = some x := by rfl) (hv : Vis X.env.scope x := by first | exact Or.inl rfl | exact Or.inr (Or.inl rfl) | exact Or.inr (Or.inr rfl)) (hd : (x == ("__debug__" : Str)) = false := by decide)
    (hcd : (x == ("__classdict__" : Str)) = false := by decide) : VP X P (.Name x pos) (pName i) := fun W tk f hf => (pe_var hN hv hd hcd).imp fun σ H Q h => by
  obtain ⟨Z, Fs, env, g, h⟩ := h
  unfold pName at h
  split at h
  · rename_i i' p' e
    split at e
    · rename_i o eo
      cases e
      obtain ⟨v, ev, r⟩ := g.rep i o eo
      exact ⟨v, ev, h v v H ev (Same.refl H) rfl⟩
    · cases e
  · exact h.elim
def xApp (mp : VEnv → Option (Nat × List Nat)) (ma : DEnv → R O) : VEnv → RX O := fun env => match mp env with
  | none => .no
  | some (i, p) => match getP env i p with
    | some (.lst os) => (match ma (dl env) with
      | .ex x => if O.nos isTb x.xs then .ex x env else .no
      | .no => .no
      | .ok o => if o.no isTb && szOk (os.length + 1) then .ok (.lf .fz .non) (setP env i p (.lst (os ++ [o]))) else .no)
    | _ => .no
theorem GoodAt.is {f : Fm} {Z : Addr → Prop} {Fs : Nat → Addr → Prop} {env : VEnv} {σ : L2.St} {H : Hp} {i : Nat} {p : List Nat} {os : List O} {v0 v : V} (g : GoodAt f Z Fs env σ H) (h : getP env i p = some (.lst os)) (e0 : σ[i]? = some (some v0)) (ew : walkV H v0 p = some v) : ∃ a xs, v = .ref a ∧ H a = some (.lst xs) := by
  obtain ⟨v0', a, xs, G, ev, ew', ha, _⟩ := g.putL h
  rw [ev] at e0; cases e0
  rw [ew'] at ew; cases ew
  exact ⟨a, xs, rfl, ha⟩
theorem vx_append {apos cpos : Pos} (hp : VP X P e mp) (ha : VE X a ma) (hbase : attributeBase e "append" X.env (eval e X.env) = eval e X.env := by rfl)
    (hfew : ((backTo cpos (starEach [a] X.env)).all (fun x => !x.1) && (backToKw cpos (keywordEach [] X.env)).all (fun x => x.1.isSome)
      && decide ([a].length + ([] : List Keyword).length + (if ([] : List Keyword).isEmpty then 0 else 1) < 30)) = true := by rfl)
    (hline : (apos.endLine == cpos.line) = true := by rfl) (hs : starEach [a] X.env = (false, eval a X.env) :: starEach [] X.env := by rfl) (hplain : (backTo cpos (starEach [] X.env)).any (·.1) = false := by rfl) :
    VX X P (.Call (.Attribute e "append" apos) [a] [] cpos) (xApp mp ma) := fun W tk f hf => ⟨fun pins s σ H Q I h => by
  obtain ⟨env, ⟨Z, Fs, g⟩, h⟩ := h
  replace h : EOut f W σ (xApp mp ma env) Q := h
  refine (pe_bm PySem.F.plainAttrs_list PySem.F.slot_list_append PySem.F.type_list_append mt_append (hp W tk f hf) (pa_cons (ha.ef tk hf) pa_nil hs) hbase hfew hline hs hplain).run pins s σ H Q I ⟨Z, Fs, env, g, ?_⟩
  unfold xApp at h
  split at h
  · exact h.elim
  · rename_i i p em
    rw [em]
    split at h
    · rename_i os eg
      intro v0 v H1 ev s1 ew
      obtain ⟨a1, xs1, rfl, ha1⟩ := (g.same s1).is eg ev ew
      refine ⟨.inl ⟨rfl, xs1, SqL.of ha1⟩, Z, Fs, rE_of (g.same s1).goodE ?_⟩
      split at h
      · rename_i x ex
        rw [ex]
        split at h
        · rename_i n
          exact fun cls d H' F s r fr => h cls d H' ⟨Z, Fs, F, (g.same s1).same s, RepX.unlend n r, (g.same s1).fresh fr⟩
        · exact h.elim
      · exact h.elim
      · rename_i o eo
        rw [eo]
        split at h
        · rename_i hn
          rw [Bool.and_eq_true] at hn
          intro y H2 F2 s2 r2 f2
          have g2 := (g.same s1).same s2
          obtain ⟨v0', a, xs, G, ev', ew', hla, q, nG, sG, _, put⟩ := g2.putL eg
          rw [ev] at ev'; cases ev'
          have := (walkV_same s2 ew).symm.trans ew'
          cases this
          have x2 := (g.same s1).fresh f2
          have r2' := RepO.unlend hn.1 r2
          obtain ⟨Fs', g3, _⟩ := put (os ++ [o]) (xs ++ [y]) (fun b => G b ∨ F2 b) F2 x2 (fun _ z => z) (RepOs.append (fun b z z2 => (x2 b z2).2.2.2.2 i (sG b z)) q (by
            simp only [RepOs]
            exact ⟨y, [], F2, fun _ => False, rfl, fun _ z => z, fun _ z => z.elim, fun _ _ z => z, r2', rfl⟩))
          refine ⟨a1, xs, y, rfl, rfl, hla, ?_, h .non _ ⟨Z, Fs', fun _ => False, g3, by simp [RepO, Rep], fun _ z => z.elim⟩⟩
          rw [RepOs.length q, sizeLine_eq]
          have := szOk_le hn.2
          rw [sizeLine_eq] at this
          omega
        · exact h.elim
    · exact h.elim⟩
def sSetIx (mx : DEnv → R O) (mp : VEnv → Option (Nat × List Nat)) (mi : DEnv → R O) : VEnv → RS := fun env => match mx (dl env) with
  | .no => .no
  | .ex x => if O.nos isTb x.xs then .ex x env else .no
  | .ok o => match mp env with
    | none => .no
    | some (i, p) => match getP env i p, mi (dl env) with
      | some (.lst os), .ok oi => (match oi.er with
        | .int k => (match ixN os.length k with
          | some j => if o.no isTb then .ok .next (setP env i p (.lst (os.set j o))) else .no
          | none => .no)
        | _ => .no)
      | _, _ => .no
theorem RepOs.setAt {w : Wd} {H : Hp} {o : O} {v : V} {F1 : Addr → Prop} : ∀ {os : List O} {vs : List V} {F : Addr → Prop} (j : Nat), RepOs w H os vs F → RepO w H o v F1 → Disj F F1 → RepOs w H (os.set j o) (vs.set j v) (fun a => F a ∨ F1 a)
  | [], vs, F, j, h, _, _ => by simp only [RepOs] at h; subst h; simp [RepOs]
  | x :: os, vs, F, 0, h, h1, d => by
    simp only [RepOs] at h
    obtain ⟨u, r, Fa, Fb, rfl, s1, s2, dd, r1, r2⟩ := h
    simp only [List.set_cons_zero, RepOs]
    exact ⟨v, r, F1, Fb, rfl, fun _ z => .inr z, fun a z => .inl (s2 a z), fun a z z2 => d a (s2 a z2) z, h1, r2⟩
  | x :: os, vs, F, j + 1, h, h1, d => by
    simp only [RepOs] at h
    obtain ⟨u, r, Fa, Fb, rfl, s1, s2, dd, r1, r2⟩ := h
    simp only [List.set_cons_succ, RepOs]
    exact ⟨u, r.set j v, Fa, fun a => Fb a ∨ F1 a, rfl, fun a z => .inl (s1 a z), fun a z => z.imp (s2 a) id, fun a z z2 => z2.elim (dd a z) (d a (s1 a z)), r1, RepOs.setAt j r2 h1 fun a z => d a (s2 a z)⟩
theorem vs_setIx {tpos : Pos} (he : VE X a ma) (hp : VP X P e mp) (hi : VE X b mb)
    (hsub : ∀ v, assign (.Subscript e b tpos) X.env v = (do
      let ov ← holding [v] (eval e X.env)
      let iv ← holding [v, ov] (eval b X.env)
      standAt tpos
      holding [v, ov, iv] (setItem ov iv v)
      release [v, ov, iv] []) := by intro _; rfl)
    (hs : swapsWithSole [.Subscript e b tpos] a pos.line X.env = pure false := by rfl) (hw : swappedStores [.Subscript e b tpos] a X.env = pure none := by rfl)
    (h1 : (assignEach [.Subscript e b tpos] X.env).map (·.2) = [assign (.Subscript e b tpos) X.env] := by rfl) : VS X P (.Assign [.Subscript e b tpos] a pos) (sSetIx ma mp mb) := fun W tk f hf => ⟨fun pins s σ H D I h => by
  obtain ⟨env, ⟨Z, Fs, g⟩, h⟩ := rS_to h
  refine (ps_asg (he.ef tk hf) (pg_sub (hp W tk f hf) (hi.ef tk hf) set_list hsub) hs hw h1).run pins s σ H D I ⟨Z, Fs, rE_of g.goodE ?_⟩
  unfold sSetIx at h
  split at h
  · exact h.elim
  · rename_i x ex
    rw [ex]
    split at h
    · rename_i n
      exact fun cls d H' F s r fr => h cls d σ H' ⟨Z, Fs, F, g.same s, RepX.unlend n r, g.fresh fr⟩
    · exact h.elim
  · rename_i o eo
    rw [eo]
    intro y H1 F1 s1 r1 f1
    split at h
    · exact h.elim
    · rename_i i p em
      refine ⟨Z, Fs, env, g.same s1, ?_⟩
      rw [em]
      intro v0 v H2 ev s2 ew
      split at h
      · rename_i os oi eg ei
        obtain ⟨a1, xs1, rfl, ha1⟩ := ((g.same s1).same s2).is eg ev ew
        refine ⟨Z, Fs, rE_of ((g.same s1).same s2).goodE ?_⟩
        rw [ei]
        intro iv H3 F3 s3 r3 f3
        have zi := RepO.at r3
        split at h
        · rename_i k ek
          rw [ek] at zi
          split at h
          · rename_i j ej
            split at h
            · rename_i n
              have g3 := ((g.same s1).same s2).same s3
              obtain ⟨v0', a, xs, G, ev', ew', hla, q, nG, sG, _, put⟩ := g3.putL eg
              rw [ev] at ev'; cases ev'
              have := (walkV_same s3 ew).symm.trans ew'
              cases this
              have x1 : Extra f Z Fs H3 F1 := fun b z => by
                obtain ⟨x1, x2, x3, x4, x5⟩ := g.fresh f1 b z
                exact ⟨x1, x2, (x3.same s2).same s3, x4, x5⟩
              have r1' := RepO.same (s2.trans s3) (RepO.unlend n r1)
              obtain ⟨Fs', g4, _⟩ := put (os.set j o) (xs.set j y) (fun b => G b ∨ F1 b) F1 x1 (fun _ z => z) (RepOs.setAt j q r1' fun b z z2 => (x1 b z2).2.2.2.2 i (sG b z))
              exact ⟨a1, xs, k, j, rfl, zi, hla, by rw [RepOs.length q]; exact ej, h σ _ ⟨Z, Fs', g4⟩⟩
            · exact h.elim
          · exact h.elim
        · exact h.elim
      · exact h.elim⟩
def sAug (fn : Int → Int → Int) (i : Nat) (me : DEnv → R O) : VEnv → RS := fun env => match env[i]? with
  | some (some (.lf k (.int m))) => (match me (dl env) with
    | .ok oe => (match oe.er with
      | .int n => .ok .next (env.set i (some (.lf .fz (.int (fn m n)))))
      | _ => .no)
    | _ => .no)
  | _ => .no
end
end VL
namespace VL
open PySem PySem.Spec PyProof.Rows L2
section
variable {X : Cx} {P : List Nat} {e a b : Expr} {es : List Expr} {ma mb me : DEnv → R O} {pos p : Pos} {x : Str}
def eMeth (chk : O → Bool) (g : O → O → R O) (me ma : DEnv → R O) : DEnv → R O := fun env => (me env).bind fun x => if chk x then (ma env).bind fun y => g x y else .no
def isLO (o : O) : Bool := o.er.isL
theorem isLO_rep {w : Wd} {H : Hp} {o : O} {v : V} {F : Addr → Prop} (h : RepO w H o v F) (c : isLO o = true) : ∃ a vs ds, v = .ref a ∧ H a = some (.lst vs) ∧ o.er = .lst ds ∧ Reps w.cl H (fun _ => True) ds vs := by
  have z := RepO.at h
  unfold isLO at c
  cases e : o.er <;> rw [e] at c <;> simp only [D.isL] at c <;> try (cases c)
  rw [e] at z
  simp only [Rep] at z
  obtain ⟨a, vs, rfl, _, r, q⟩ := z
  exact ⟨a, vs, _, rfl, r, rfl, q⟩
def gCnt (x y : O) : R O := match x.er, y.er with
  | .lst ds, .int k => (match intsOf ds with
    | some ns => .ok (.lf .fz (.int (ns.count k : Nat)))
    | none => .no)
  | _, _ => .no
end
end VL
namespace VL
open PySem PySem.Spec PyProof.Rows L2
def bltNames : List String := ["len", "int", "abs", "sum", "max", "min", "list", "tuple", "all", "any", "range", "isinstance", "bool", "str", "dict", "sorted", "enumerate", "zip", "reversed", "ValueError", "print", "super", "iter", "KeyError", "IndexError"]
def BltOk (mg : Str → Option Value) : Prop := ∀ x ∈ bltNames, mg (Str.ofString x) = none
theorem BltOk.at {mg : Str → Option Value} (h : BltOk mg) (x : String) (hx : x ∈ bltNames := by decide) : mg (Str.ofString x) = none := h x hx
def OkF (P : Program) (w : World) (K : PySem.W.Frag) (mg : Str → Option Value) (base : Heap) (x : Str) (N ps : List Str) (m : VEnv → RS) (k : Nat) : Prop := ∃ f fd, mg x = some (.ref f) ∧ PySem.W.keepIn K (.ref f) = true ∧ Binds K fd ps [] ∧ FnOk P w K mg base (CXv mg P w) k f fd ps (SpV K mg N ps.length [] m)
def ALen (m : DEnv → R (List O)) (n : Nat) : Prop := ∀ env os, m env = .ok os → os.length = n
theorem alen_nil : ALen aNil 0 := fun env os h => by cases h; rfl
theorem alen_cons {m : DEnv → R O} {r : DEnv → R (List O)} {n : Nat} (h : ALen r n) : ALen (aCons m r) (n + 1) := fun env os e => by
  unfold aCons at e
  cases q : m env with
  | ok o =>
    rw [q] at e
    cases q2 : r env with
    | ok os' =>
      simp only [R.bind, q2] at e
      cases e
      simp [h env os' q2]
    | ex x => simp only [R.bind, q2] at e; cases e
    | no => simp only [R.bind, q2] at e; cases e
  | ex x => rw [q] at e; cases e
  | no => rw [q] at e; cases e
section
variable {X : Cx} {P : List Nat} {a : Expr} {es : List Expr} {mA : DEnv → R (List O)} {pos p : Pos} {x : Str} {k j : Nat} {N ps : List Str} {m : VEnv → RS}
theorem ve_callO (F : OkF X.prog X.w X.K X.mg X.base x N ps m k) (hr : Room k X.A) (ha : VA X (a :: es) mA) (hl : ALen mA j) {n : Nat} (hNn : N.length = n := by rfl) (hj : j = ps.length := by rfl) (hn : (a :: es).length = ps.length := by rfl) (hg : Gl X x := by rfl) (hdb : (x == ("__debug__" : Str)) = false := by decide)
    (he : starEach (a :: es) X.env = (false, eval a X.env) :: starEach es X.env := by rfl) (hpl : (backTo pos (starEach es X.env)).any (·.1) = false := by rfl) : VE X (.Call (.Name x p) (a :: es) [] pos) (eN (callM n m) mA) := by
  subst hNn
  subst hj
  obtain ⟨f, fd, hm, hk, hb, F⟩ := F
  exact ve_call F hr hm hk hb ha hn hg hdb he hpl hl
end
def FnT (K : PySem.W.Frag) (mg : Str → Option Value) (x : Str) (st : Stmt) (ps : List Str) : Prop := ∃ f fd, mg x = some (.ref f) ∧ Fun K x x st f fd ∧ Binds K fd ps []
theorem FnT.ok {P : Program} {w : World} {K : PySem.W.Frag} {mg : Str → Option Value} {base : Heap} {x : Str} {st : Stmt} {N ps : List Str} {k : Nat} {m : VEnv → RS} (T : FnT K mg x st ps) (S : FnScope N ps (defScope st))
    (hb : ∀ (f : Addr) (cdv : Value) (A : Around) (outer : List Env) (s : Shared) (H : Hp) (E : XK), Room k (A.deeper (envOfC x (defScope st) s.heap.objs.size f cdv)) → VB (cxOf (CXv mg P w) P w K mg base N x (defScope st) f cdv A outer s H E) [] (defBody st) m) : OkF P w K mg base x N ps m (k + 1) := by
  obtain ⟨f, fd, hm, F, hbn⟩ := T
  exact ⟨f, fd, hm, F.kp, hbn, fn_v F S (hb f)⟩
theorem hu_of {X : Cx} {k : Nat} (h : Room k X.A) : Hu X := by have := h.un; show X.A.units + 64 < cLine; omega
end VL
namespace VL
open PySem PySem.Spec PyProof.Rows L2
section
variable {P : Program} {w : World} {K : PySem.W.Frag} {h : Heap} {mg : Str → Option Value} {base : Heap}
def bltB (K : PySem.W.Frag) : Bool := bltNames.all fun x => decide (PySem.W.nsIn K mainGlobals (Str.ofString x) = some none)
theorem blt_of (X : K.In h) (G : h.Ns mainGlobals mg) (e : bltB K = true) : BltOk mg := fun x hx => PySem.W.mg_none_of X G (of_decide_eq_true (List.all_eq_true.mp e x hx))
def excCB (K : PySem.W.Frag) (D : Addr) : Bool := decide (PySem.W.findIn K (.ref D) "__getattribute__" = some (some (.builtin "BaseException.__getattribute__"))) && decide (PySem.W.findIn K (.ref D) "__getattr__" = some none) && decide (PySem.W.subIn K (.ref D) (.type "BaseException") = some true) && PySem.W.hasDictIn K D &&
  decide (PySem.W.findIn K (.ref D) "__class__" = some (some (.builtin "object.__class__"))) && decide (PySem.W.specialIn K (.builtin "object.__class__") "__get__" = some (some (.builtin "getset_descriptor.__get__"))) && decide (PySem.W.takesIn K (.builtin "object.__class__") = some true) && decide (PySem.W.mroIn K D (.type "object") = some true)
theorem excC_of {D : Addr} (e : excCB K D = true) : ExcC K D := by
  unfold excCB at e
  simp only [Bool.and_eq_true, decide_eq_true_eq] at e
  obtain ⟨⟨⟨⟨⟨⟨⟨h1, h2⟩, h3⟩, h4⟩, h5⟩, h6⟩, h7⟩, h8⟩ := e
  exact ⟨h1, h2, h3, h4, h5, h6, h7, h8⟩
def errOneB (K : PySem.W.Frag) (D : Addr) (fs : List String) : Bool := excCB K D && xfB K D && decide (PySem.W.kitOne K (.ref D) (.type "ValueError") = some true) && fs.all fun f => decide (PySem.W.findIn K (.ref D) (Str.ofString f) = some none)
def errB (K : PySem.W.Frag) (E : List ((String × List String) × Addr)) : Bool := E.all (fun p => errOneB K p.2 p.1.2) && E.all fun p => E.all fun q => decide (PySem.W.kitOne K (.ref p.2) (.ref q.2) = some (subE p.1.1 q.1.1)) && decide (PySem.W.exmOne K (.ref p.2) (.ref q.2) = some (subE p.1.1 q.1.1))
def NamesAt (mg : Str → Option Value) : List ((String × List String) × Addr) → Prop
  | [] => True
  | p :: r => mg (Str.ofString p.1.1) = some (.ref p.2) ∧ NamesAt mg r
theorem NamesAt.mem : ∀ {E : List ((String × List String) × Addr)}, NamesAt mg E → ∀ p ∈ E, mg (Str.ofString p.1.1) = some (.ref p.2)
  | [], _, p, m => by simp at m
  | q :: r, h, p, m => by
    rcases List.mem_cons.mp m with rfl | m
    · exact h.1
    · exact NamesAt.mem h.2 p m
theorem errF_of {E : List ((String × List String) × Addr)} (hm : NamesAt mg E) (e : errB K E = true) : ErrF K mg (E.map (·.1)) := by
  unfold errB at e
  rw [Bool.and_eq_true] at e
  obtain ⟨e1, e2⟩ := e
  have at_ : ∀ C ∈ E.map (·.1), ∃ a, (C, a) ∈ E := fun C hC => by
    obtain ⟨p, hp, rfl⟩ := List.mem_map.mp hC
    exact ⟨p.2, hp⟩
  have same : ∀ {C : String × List String} {a Ca : Addr}, (C, a) ∈ E → mg (Str.ofString C.1) = some (.ref Ca) → a = Ca := fun ha hc => by
    have := hm.mem _ ha
    rw [this] at hc
    cases hc; rfl
  refine ⟨fun C hC => ?_, fun C hC Ca hc => ?_, fun C hC D hD Ca Da hc hd => ?_⟩
  · obtain ⟨a, ha⟩ := at_ C hC
    exact ⟨a, hm.mem _ ha⟩
  · obtain ⟨a, ha⟩ := at_ C hC
    cases same ha hc
    have z := List.all_eq_true.mp e1 _ ha
    unfold errOneB at z
    simp only [Bool.and_eq_true, decide_eq_true_eq, List.all_eq_true] at z
    obtain ⟨⟨⟨h1, h2⟩, h3⟩, h4⟩ := z
    exact ⟨excC_of h1, xfB_ok h2, h3, h4⟩
  · obtain ⟨a, ha⟩ := at_ C hC
    obtain ⟨b, hb⟩ := at_ D hD
    cases same ha hc
    cases same hb hd
    have z := List.all_eq_true.mp (List.all_eq_true.mp e2 _ ha) _ hb
    simp only [Bool.and_eq_true, decide_eq_true_eq] at z
    exact z
theorem fnT_of {x : Str} {st : Stmt} {ps : List Str} {f : Addr} {oc kV dc pm cd ct : Value} {od an : Option Addr} {sl : Array (Option Value)} (X : K.In h) (G : h.Ns mainGlobals mg) (a : PySem.W.nsIn K mainGlobals x = some (some (.ref f)))
    (l : K.lookup f = some ⟨oc, od, .func (PySem.W.fnOf x x (defArgs st) (defBody st) (defScope st) .none kV dc pm an cd ct), sl⟩) (c : PySem.W.codeIn K cd x = true) (k : PySem.W.keepIn K (.ref f) = true)
    (hb : ∀ (kV doc pm : Value) (an : Option Addr) (cdv ct : Value) (us : List Value), us.length = ps.length → bindArgs (PySem.W.fnOf x x (defArgs st) (defBody st) (defScope st) .none kV doc pm an cdv ct) ⟨us, []⟩ = pure (ps.zip us)) : FnT K mg x st ps :=
  ⟨f, _, PySem.W.mg_of X G a, fun_mk l c k, (fun_mk l c k).binds hb⟩
def initB (P : Program) (K : PySem.W.Frag) (C f1 cda : Addr) (qual : Str) (fs : List String) : Bool :=
  decide (PySem.W.findIn K (.ref C) "__setattr__" = some (some (.builtin "object.__setattr__"))) && decide (PySem.W.subIn K (.ref C) (.type "BaseException") = some true) && decide (PySem.W.typeIn K (.ref C) = some (.type "type")) && PySem.W.keepIn K (.ref C) && decide (PySem.W.typeIn K (.ref f1) = some (.type "function")) && PySem.W.codeIn K (.ref cda) qual &&
  !(P.main.scope.names.lookup ("super" : Str)).isSome && decide (PySem.W.ks_superIn K C C "__init__" = some (some (.builtin "ValueError.__init__"))) && decide (PySem.W.subIn K (.ref C) (.type "ValueError") = some true) && decide (PySem.W.mroIn K C (.ref C) = some true) && decide (PySem.W.nsIn K cStatics "thirdparty.any" = some none) && fs.all fun f => decide (PySem.W.findIn K (.ref C) (Str.ofString f) = some none)
def codeB (P : Program) (K : PySem.W.Frag) (cda : Addr) : Bool := match K.lookup cda with
  | some ⟨_, _, .fields vs, _⟩ => (match (vs[2]? : Option Value) with
    | some (.str file _) => (P.main.file : Str) == file
    | _ => false)
  | _ => false
theorem codeB_of {cda : Addr} (e : codeB P K cda = true) : ∃ ccl cdd vs ccs file tf, K.lookup cda = some ⟨ccl, cdd, .fields vs, ccs⟩ ∧ vs[2]? = some (.str file tf) ∧ ((P.main.file : Str) == file) = true := by
  unfold codeB at e
  split at e
  · rename_i ccl cdd vs ccs hl
    split at e
    · rename_i file tf hv
      exact ⟨ccl, cdd, vs, ccs, file, tf, hl, hv, e⟩
    · cases e
  · cases e
structure InitT (P : Program) (K : PySem.W.Frag) (mg : Str → Option Value) (C : String) (st : Stmt) (qual : Str) (ps : List Str) (fs : List String) (Ca f1 cda cc : Addr) (fd : FuncData) : Prop where
  gC : mg (Str.ofString C) = some (.ref Ca)
  iC : PySem.W.findIn K (.ref Ca) "__init__" = some (some (.ref f1))
  tI : PySem.W.typeIn K (.ref f1) = some (.type "function")
  ox : OexC K Ca
  T : VLX.SupOk P K mg Ca f1 cda cc fd qual ps (defScope st) (defBody st)
  no : ∀ f ∈ fs, PySem.W.findIn K (.ref Ca) (Str.ofString f) = some none
  bd : Binds K fd ps []
theorem initT_of {C : String} {st : Stmt} {qual : Str} {ps : List Str} {fs : List String} {Ca f1 cda cc : Addr} {nm q : Str} {N : Addr} {bs bm : List Value} {sn : List Str} {sub : List Value} {ab : Bool} {col : Option Bool} {dd : Option Addr} {k0 k1 k2 k3 k5 : Option Value}
    {oc dV kV doc pm ct : Value} {od an : Option Addr} {osl : Array (Option Value)} {cl : Value} {cld : Option Addr} {csl : Array (Option Value)} {ar : Arg}
    (gC : mg (Str.ofString C) = some (.ref Ca)) (ms : mg "super" = none)
    (xL : K.lookup Ca = some (excClassObj nm q Ca N bs bm true sn sub ab col dd k0 k1 k2 k3 k5 "ValueError.__new__")) (hbm : PySem.HandSPX.refsVE bm = true)
    (iC : PySem.W.findIn K (.ref Ca) "__init__" = some (some (.ref f1)))
    (l1 : K.lookup f1 = some ⟨oc, od, .func (PySem.W.fnX "__init__" qual (defArgs st) (defBody st) (defScope st) [("__class__", cc)] dV kV doc pm an (.ref cda) ct), osl⟩)
    (ce : K.lookup cc = some ⟨cl, cld, .cell (some (.ref Ca)), csl⟩) (hc : codeB P K cda = true) (e : initB P K Ca f1 cda qual fs = true)
    (har : ((defArgs st).posonlyargs ++ (defArgs st).args).head? = some ar) (har0 : ps[0]? = some ar.arg)
    (hb : ∀ us : List Value, us.length = ps.length → bindArgs (PySem.W.fnX "__init__" qual (defArgs st) (defBody st) (defScope st) [("__class__", cc)] dV kV doc pm an (.ref cda) ct) ⟨us, []⟩ = pure (ps.zip us)) :
    InitT P K mg C st qual ps fs Ca f1 cda cc (PySem.W.fnX "__init__" qual (defArgs st) (defBody st) (defScope st) [("__class__", cc)] dV kV doc pm an (.ref cda) ct) := by
  unfold initB at e
  simp only [Bool.and_eq_true, decide_eq_true_eq, Bool.not_eq_true', List.all_eq_true] at e
  obtain ⟨⟨⟨⟨⟨⟨⟨⟨⟨⟨⟨sa, exC⟩, tyC⟩, kC⟩, t1⟩, c1⟩, top⟩, su⟩, ve⟩, me⟩, th⟩, no⟩ := e
  have ox : OexC K Ca := ⟨⟨nm, q, N, bs, bm, sn, sub, ab, col, dd, k0, k1, k2, k3, k5, xL, hbm⟩, sa, exC, tyC, kC⟩
  exact ⟨gC, iC, t1, ox, ⟨⟨oc, od, osl, _, _, dV, kV, doc, pm, an, ct, ar, rfl, l1, har, har0⟩, c1, codeB_of hc, top, ⟨cl, cld, csl, ce⟩, ox, su, ve, me, th, ms⟩, no, .all hb⟩
def spLaw (K : PySem.W.Frag) (mg : Str → Option Value) : Sp := fun vs H Q _ => (∀ P q, KTb K mg P q → TabAt H P q) ∧ ∃ (a : Addr) (ns : List Int), vs = [.ref a] ∧ ns.length ≤ 63 ∧ SqL K H a (ns.map V.int) ∧ ∀ H', Q (.bl true) H'
theorem reps_ints {cl : Cl} {H : Hp} {S : Addr → Prop} : ∀ ns : List Int, Reps cl H S (ns.map D.int) (ns.map V.int)
  | [] => by simp [Reps]
  | n :: r => by
    simp only [List.map_cons, Reps]
    exact ⟨.int n, _, rfl, rfl, reps_ints r⟩
def RunsTrue (n : Nat) (m : VEnv → RS) : Prop := ∀ ns : List Int, ns.length ≤ 63 → ∃ env', m (startE n [.lf .bo (.scr (ns.map D.int))]) = .ok (.ret (.lf .fz (.bl true))) env'
theorem law_fn {f : Addr} {fd : FuncData} {N : List Str} {m : VEnv → RS} {k : Nat} {x : Str} (F : FnOk P w K mg base (CXv mg P w) k f fd [x] (SpV K mg N 1 [] m)) (hm : RunsTrue N.length m) : FnOk P w K mg base (CXv mg P w) k f fd [x] (spLaw K mg) := F.imp fun vs H Q E h => by
  obtain ⟨htb, a, ns, rfl, hl, hs, hq⟩ := h
  obtain ⟨env', em⟩ := hm ns hl
  refine ⟨rfl, ⟨⟨⟨clM mg, fun a xs => KL K a xs, fun a => KT K a, KTb K mg⟩, fun _ _ _ => False⟩, H, fun _ => False, fun _ => False, fun b => H b ≠ none, []⟩, startE N.length [.lf .bo (.scr (ns.map D.int))], ⟨⟨⟨rfl, fun _ => Iff.rfl, fun _ _ q => q⟩, fun _ _ q => q⟩, fun _ _ _ q => q⟩, rfl, ⟨fun _ => False, fun _ _ => False, fun i o e => ?_, fun _ _ _ _ z => z.elim, fun _ _ z => z.elim, fun _ z => z.elim, fun _ z => z, fun a u e _ => Same.refl H a u e, ⟨fun _ n => n, htb⟩, fun _ _ z => z.elim, fun _ z => z.elim, fun _ z => z, fun p hp => absurd hp (by show p ∉ ([] : List (Nat × V)); simp), ?_⟩, ?_⟩
  · have e1 := startE_get e
    cases i with
    | succ i => simp at e1
    | zero =>
      simp at e1
      subst e1
      refine ⟨.ref a, start_get rfl, ?_⟩
      simp only [RepO, Rep]
      refine ⟨a, ns.map V.int, rfl, ?_, reps_ints ns⟩
      rcases hs with r | r
      · refine .inl ⟨?_, r⟩
        rcases r with r | ⟨o, r⟩
        · show H a ≠ none
          rw [r]; exact fun q => nomatch q
        · show H a ≠ none
          rw [r]; exact fun q => nomatch q
      · exact .inr r
  · unfold L2.start startE
    simp
  · unfold FOut
    rw [em]
    intro v σ' H' ⟨Z, Fs, F', g, r, x'⟩
    simp only [RepO, Rep] at r
    rw [r]
    exact hq H'
end
end VL
namespace VL
open PySem PySem.Spec PyProof.Rows L2
abbrev oi (n : Int) : O := .lf .fz (.int n)
abbrev ob (b : Bool) : O := .lf .fz (.bl b)
abbrev iL (ns : List Int) : D := .lst (ns.map D.int)
abbrev li (ns : List Int) : O := .lf .fz (iL ns)
abbrev ol (ns : List Int) : O := .lst (ns.map oi)
abbrev scrD (ns : List Int) : O := .lf .bo (.scr (ns.map D.int))
section
variable {ns ms : List Int} {k : Kd}
@[simp] theorem lfk_fz {d : D} : lfk .fz d = .lf .fz d := by unfold lfk; split <;> rfl
@[simp] theorem lfk_int {i : Int} : lfk k (.int i) = oi i := (rfl)
@[simp] theorem lfk_bl {i : Bool} : lfk k (.bl i) = ob i := (rfl)
@[simp] theorem lfk_non : lfk k .non = .lf .fz .non := (rfl)
@[simp] theorem lfk_iL : lfk k (iL ns) = .lf k (iL ns) := (rfl)
@[simp] theorem lfk_scr {ds : List D} : lfk k (.scr ds) = .lf k (.scr ds) := (rfl)
theorem ers_oi : O.ers (ns.map oi) = ns.map D.int := by rw [O.ers_eq, List.map_map]; rfl
@[simp] theorem er_ol : (ol ns).er = iL ns := by show D.lst (O.ers _) = _; rw [ers_oi]
@[simp] theorem nos_oi {p : Kd → Bool} : O.nos p (ns.map oi) = (ns.all fun _ => !p .fz) := by
  rw [O.nos_eq]
  induction ns with
  | nil => rfl
  | cons a r ih => simp [ih, O.no]
theorem no_ol {p : Kd → Bool} (h : p .fz = false) : (ol ns).no p = true := by
  show O.nos p _ = true
  rw [nos_oi, h]; simp
@[simp] theorem no_ol_tb : (ol ns).no isTb = true := no_ol rfl
@[simp] theorem no_ol_fz : (ol ns).no notFz = true := no_ol rfl
@[simp] theorem own_ol : (ol ns).own = true := by
  show O.owns _ = true
  rw [O.owns_eq]
  induction ns with
  | nil => rfl
  | cons a r ih => simp [ih, O.own, D.imm]
@[simp] theorem frz_ol : frzO (ol ns) = some (li ns) := by
  show (if (ol ns).no notFz = true then some (lfk .fz (ol ns).er) else none) = _
  rw [no_ol_fz, if_pos rfl, er_ol]; rfl
@[simp] theorem frz_lf {d : D} : frzO (.lf .fz d) = some (.lf .fz d) := by
  show (if (O.lf .fz d).no notFz = true then some (lfk .fz d) else none) = _
  rw [show (O.lf .fz d).no notFz = true from rfl, if_pos rfl, lfk_fz]
@[simp] theorem toArg_fz {d : D} : toArg (.lf .fz d) = .lf .fz d := (rfl)
@[simp] theorem toArg_bo {d : D} : toArg (.lf .bo d) = lfk .bo d := (rfl)
@[simp] theorem toArg_tb {d : D} : toArg (.lf .tb d) = lfk .bo d := (rfl)
@[simp] theorem toArg_ol : toArg (ol ns) = li ns := by
  show (if (ol ns).no notFz = true then lfk .fz (ol ns).er else _) = _
  rw [no_ol_fz, if_pos rfl, er_ol]; rfl
@[simp] theorem elems_li : elems (.lf k (iL ns)) = some (ns.map oi) := by
  show some ((ns.map D.int).map (lfk k)) = _
  rw [List.map_map]; rfl
@[simp] theorem elems_ol : elems (ol ns) = some (ns.map oi) := (rfl)
@[simp] theorem elems_oi {n : Int} : elems (oi n) = none := (rfl)
@[simp] theorem intsOf_int : intsOf (ns.map D.int) = some ns := intsOf_map ns
@[simp] theorem listInts_iL : listInts (iL ns) = some ns := intsOf_map ns
theorem pys_int : D.pys (ns.map D.int) = some (ns.map PyData.int) := by
  induction ns with
  | nil => rfl
  | cons a r ih => simp [D.pys, D.py, ih]
theorem shaped_int : SeqAt.shaped (.list (ns.map PyData.int)) = true := by
  have h1 : PyData.canLayAll0 (ns.map PyData.int) = true := by
    induction ns with
    | nil => rfl
    | cons a r ih => simp [PyData.canLayAll0, PyData.canLay0, ih]
  have h2 : PyData.depthAll (ns.map PyData.int) = 0 := by
    induction ns with
    | nil => rfl
    | cons a r ih => simp [PyData.depthAll, PyData.depth, ih (by simpa [PyData.canLayAll0, PyData.canLay0] using h1)]
  unfold SeqAt.shaped
  simp [PyData.canLay0, PyData.depth, h1, h2]
theorem eqv_int : ∀ {ns ms : List Int}, PyData.eqvAll (ns.map PyData.int) (ms.map PyData.int) = decide (ns = ms)
  | [], [] => rfl
  | [], b :: r => rfl
  | a :: r, [] => rfl
  | a :: r, b :: s => by
    have ih := eqv_int (ns := r) (ms := s)
    simp only [List.map_cons, PyData.eqvAll, PyData.eqv, ih]
    by_cases h : a = b
    · subst h; simp
    · simp [h]
@[simp] theorem eqD_iL : eqD (iL ns) (iL ms) = some (decide (ns = ms)) := by
  unfold eqD
  show (match (D.pys (ns.map D.int)).map PyData.list, (D.pys (ms.map D.int)).map PyData.list with
    | some p, some q => if SeqAt.shaped p && SeqAt.shaped q then some (PyData.eqv p q) else none
    | _, _ => none) = _
  rw [pys_int, pys_int]
  show (if SeqAt.shaped (.list _) && SeqAt.shaped (.list _) then some (PyData.eqv (.list _) (.list _)) else none) = _
  rw [shaped_int, shaped_int]
  show some (PyData.eqvAll _ _) = _
  rw [eqv_int]
@[simp] theorem eqD_int {a b : Int} : eqD (.int a) (.int b) = some (decide (a = b)) := by
  show (if SeqAt.shaped (.int a) && SeqAt.shaped (.int b) then some (a == b) else none) = _
  rw [show SeqAt.shaped (PyData.int a) = true from rfl, show SeqAt.shaped (PyData.int b) = true from rfl]
  show some (a == b) = _
  congr 1
@[simp] theorem eqD_non {a : Int} : eqD .non (.int a) = some false := (rfl)
@[simp] theorem dl_nil : dl [] = [] := (rfl)
@[simp] theorem dl_none {e : VEnv} : dl (none :: e) = none :: dl e := (rfl)
@[simp] theorem dl_lf {d : D} {e : VEnv} : dl (some (.lf k d) :: e) = some (.lf k d) :: dl e := (rfl)
@[simp] theorem dl_ol {e : VEnv} : dl (some (ol ns) :: e) = some (.lf .tb (iL ns)) :: dl e := by
  show some (.lf .tb (ol ns).er) :: dl e = _
  rw [er_ol]
end
section
variable {m1 m2 : VEnv → RS} {env e : VEnv} {o o' : O} {x : Exn} {me : DEnv → R O} {mx : VEnv → RX O} {t : DEnv → R Bool} {i : Nat}
end
end VL
namespace VL
open PySem PySem.Spec PyProof.Rows L2
section
variable {α β : Type} {a : α} {f : α → R β} {x : Exn} {env : DEnv} {ma mb mc : DEnv → R O} {mA : DEnv → R (List O)} {t t' : DEnv → R Bool} {g2 : O → O → R O} {g1 : O → R O} {gN : List O → R O} {i j : Int} {ns ms : List Int} {k k' : Kd} {o : O} {b c : Bool}
@[simp] theorem bind_ok : (R.ok a).bind f = f a := (rfl)
@[simp] theorem bind_ex : (R.ex x : R α).bind f = .ex x := (rfl)
@[simp] theorem e2_ev : e2 g2 ma mb env = (ma env).bind fun x => (mb env).bind fun y => g2 x y := (rfl)
@[simp] theorem e1_ev : e1 g1 ma env = (ma env).bind g1 := (rfl)
@[simp] theorem eN_ev : eN gN mA env = (mA env).bind gN := (rfl)
@[simp] theorem aCons_ev : aCons ma mA env = (ma env).bind fun o => (mA env).bind fun os => .ok (o :: os) := (rfl)
@[simp] theorem aNil_ev : aNil env = .ok [] := (rfl)
@[simp] theorem f1_ev : VL.f1 g1 [o] = g1 o := (rfl)
@[simp] theorem f2_ev {p : O} : VL.f2 g2 [o, p] = g2 o p := (rfl)
@[simp] theorem tOfE_ev : tOfE ma env = (ma env).bind asB := (rfl)
@[simp] theorem asB_ob : asB (ob b) = .ok b := (rfl)
@[simp] theorem tTru_ev : tTru ma env = (ma env).bind asT := (rfl)
@[simp] theorem asT_ob : asT (ob b) = .ok b := (rfl)
@[simp] theorem asT_oi : asT (oi i) = .ok (i != 0) := (rfl)
@[simp] theorem tNotM_ev : tNotM t env = (t env).bind fun b => .ok (!b) := (rfl)
@[simp] theorem tAndM_ev : tAndM t t' env = (t env).bind fun b => if b then t' env else .ok false := (rfl)
@[simp] theorem tOrM_ev : tOrM t t' env = (t env).bind fun b => if b then .ok true else t' env := (rfl)
@[simp] theorem bAnd_ev : bAnd ma mb env = ((ma env).bind asB).bind fun b => if b then mb env else .ok (ob false) := (rfl)
@[simp] theorem bOr_ev : bOr ma mb env = ((ma env).bind asB).bind fun b => if b then .ok (ob true) else mb env := (rfl)
@[simp] theorem bNot_ob : bNot (ob b) = .ok (ob !b) := (rfl)
@[simp] theorem eIf_ev : eIf t ma mb env = (t env).bind fun b => if b then ma env else mb env := (rfl)
@[simp] theorem eC_ev {d : D} : eC d env = .ok (.lf .fz d) := (rfl)
@[simp] theorem tYesM_ev : tYesM env = .ok true := (rfl)
@[simp] theorem eVar_0 {d : D} {e : DEnv} : eVar 0 (some (.lf k d) :: e) = .ok (lfk k d) := (rfl)
@[simp] theorem eVar_s {n : Nat} {o : Option O} {e : DEnv} : eVar (n + 1) (o :: e) = eVar n e := (rfl)
@[simp] theorem eVar_1 {o : Option O} {e : DEnv} : eVar 1 (o :: e) = eVar 0 e := (rfl)
@[simp] theorem gPlus_int : gPlus (oi i) (oi j) = .ok (oi (i + j)) := (rfl)
@[simp] theorem gSub_int : gSub (oi i) (oi j) = .ok (oi (i - j)) := (rfl)
@[simp] theorem gLt_int : gLt (oi i) (oi j) = .ok (ob (decide (i < j))) := (rfl)
@[simp] theorem gLe_int : gLe (oi i) (oi j) = .ok (ob (decide (i ≤ j))) := (rfl)
@[simp] theorem gGt_int : gGt (oi i) (oi j) = .ok (ob (decide (j < i))) := (rfl)
@[simp] theorem gGe_int : gGe (oi i) (oi j) = .ok (ob (decide (j ≤ i))) := (rfl)
@[simp] theorem gNeg_int : gNeg (oi i) = .ok (oi (-i)) := (rfl)
@[simp] theorem gInt_int : gInt (oi i) = .ok (oi i) := (rfl)
@[simp] theorem gAbs_int : gAbs (oi i) = .ok (oi (if i < 0 then -i else i)) := (rfl)
@[simp] theorem gEq_int : gEq (oi i) (oi j) = .ok (ob (decide (i = j))) := by
  show (match eqD (.int i) (.int j) with
    | some b => R.ok (ob b)
    | none => .no) = _
  rw [eqD_int]
@[simp] theorem gNe_int : gNe (oi i) (oi j) = .ok (ob (!decide (i = j))) := by
  show (match eqD (.int i) (.int j) with
    | some b => R.ok (ob !b)
    | none => .no) = _
  rw [eqD_int]
@[simp] theorem gEq_list : gEq (.lf k (iL ns)) (.lf k' (iL ms)) = .ok (ob (decide (ns = ms))) := by
  show (match eqD (iL ns) (iL ms) with
    | some b => R.ok (ob b)
    | none => .no) = _
  rw [eqD_iL]
@[simp] theorem gNe_list : gNe (.lf k (iL ns)) (.lf k' (iL ms)) = .ok (ob (!decide (ns = ms))) := by
  show (match eqD (iL ns) (iL ms) with
    | some b => R.ok (ob !b)
    | none => .no) = _
  rw [eqD_iL]
@[simp] theorem gLen_li : gLen (.lf k (iL ns)) = .ok (oi ns.length) := by
  show R.ok (oi ((ns.map D.int).length : Nat)) = _
  rw [List.length_map]
@[simp] theorem gLen_scr : gLen (.lf k (.scr (ns.map D.int))) = .ok (oi ns.length) := by
  show R.ok (oi ((ns.map D.int).length : Nat)) = _
  rw [List.length_map]
@[simp] theorem er_isL : (O.lf k (iL ns)).er.isL = true := (rfl)
@[simp] theorem ol_isL : (ol ns).er.isL = true := (rfl)
@[simp] theorem gLst_nil : gLst [] = .ok (ol []) := (rfl)
theorem setA_ok {i : Nat} {o : O} {env : VEnv} (h : i < env.length) : setA i o env = some (env.set i (some o)) := if_pos h
@[simp] theorem dl_Zs {k : Nat} : dl (List.replicate k none) = List.replicate k none := by
  induction k with
  | zero => rfl
  | succ k ih => rw [List.replicate_succ, dl_none, ih]
theorem gMaxD_li {k : Kd} {ns : List Int} {d : Int} : gMaxD (.lf k (iL ns)) (oi d) = .ok (oi (if ns.isEmpty then d else maxI ns)) := by
  unfold gMaxD
  simp only [O.er, listInts_iL]
def cntT (T : Nat) (l : List Int) : List Int := (List.range T).map fun (i : Nat) => ((l.count (i : Int) : Nat) : Int)
end
end VL
namespace VL
open PySem PySem.Spec PyProof.Rows L2
def setL : List Nat → List O → Asg
  | [], [], env => some env
  | j :: js, o :: os, env => if j < env.length then setL js os (env.set j (some o)) else none
  | _, _, _ => none
theorem good_names {f : Fm} {Z : Addr → Prop} {H : Hp} : ∀ {js : List Nat} {os : List O} {us : List V} {Fs : Nat → Addr → Prop} {env env1 : VEnv} {σ : L2.St} {Q : L2.St → Hp → Prop}, (∀ j ∈ js, ∀ p ∈ f.pin, p.1 ≠ j) → GoodAt f Z Fs env σ H → (∀ (i : Nat) (o : O), os[i]? = some o → ∃ v, us[i]? = some v ∧ RepO (f.w Z) H o v (fun _ => False)) → us.length = os.length → setL js os env = some env1 →
    (∀ σ1, Good f env1 σ1 H → Q σ1 H) → gNames js us σ H Q
  | [], [], us, Fs, env, env1, σ, Q, _, g, _, hl, e, hQ => by
    cases e
    exact ⟨List.length_eq_zero_iff.mp hl, hQ σ ⟨Z, Fs, g⟩⟩
  | [], o :: os, us, Fs, env, env1, σ, Q, _, g, _, hl, e, hQ => by cases e
  | j :: js, [], us, Fs, env, env1, σ, Q, _, g, _, hl, e, hQ => by cases e
  | j :: js, o :: os, [], Fs, env, env1, σ, Q, _, g, _, hl, e, hQ => by simp at hl
  | j :: js, o :: os, u :: us, Fs, env, env1, σ, Q, hp, g, hr, hl, e, hQ => by
    obtain ⟨v, ev, r⟩ := hr 0 o rfl
    cases ev
    simp only [setL] at e
    split at e
    · rename_i hlt
      refine ⟨u, us, rfl, ?_⟩
      exact good_names (fun k hk => hp k (List.mem_cons_of_mem _ hk)) (g.set r (fun _ z => z.elim) hlt (hp j List.mem_cons_self)) (fun i p ep => hr (i + 1) p ep) (by simpa using hl) e hQ
    · cases e
def setT (js : List Nat) (o : O) : Asg := fun env => match o with
  | .lf k (.tup ds) => setL js (ds.map (lfk k)) env
  | _ => none
section
variable {X : Cx} {P : List Nat} {tg a b : Expr} {ma mb : DEnv → R O} {pos p : Pos}
theorem pins_ne {f : Fm} {js : List Nat} (hf : f.pin.map (·.1) = P) (hP : js.all (fun j => !P.contains j) = true) : ∀ j ∈ js, ∀ p ∈ f.pin, p.1 ≠ j := fun j hj => pin_ne hf (by simpa using List.all_eq_true.mp hP j hj)
def iEnM (js : List Nat) (ma : DEnv → R O) : DEnv → R (List Asg) := fun env => (ma env).bind fun o => match seqF o, o.er.isL with
  | some (k, ds), true => .ok (ds.mapIdx fun i d => setL js [.lf .fz (.int (i : Nat)), lfk k d])
  | _, _ => .no
theorem vi_enum (js : List Nat) {elts : List Expr} {kk : Nat} {tpos : Pos} (hm : X.mg "enumerate" = none) (ha : VE X a ma) (hj : js.length = 2 := by rfl) (hP : js.all (fun j => !P.contains j) = true := by rfl) (hg : Gl X "enumerate" := by rfl) (hst : starEach [a] X.env = (false, eval a X.env) :: starEach [] X.env := by rfl) (hs : starEach [a] X.env = [(false, eval a X.env)] := by rfl) :
    VI X P (.Tuple elts kk tpos) (.Call (.Name "enumerate" p) [a] [] pos) (L2.gTup X.K js.length (gNames js)) (iEnM js ma) := fun W tk f hf => by
  refine ⟨_, pi_enum hg hm (pa_cons (ha.ef tk hf) pa_nil hst) hs, fun Z Fs env σ H Q g0 h => ?_⟩
  refine ⟨Z, Fs, rE_of g0.goodE ?_⟩
  unfold iEnM at h
  cases e : ma (dl env) with
  | no => rw [e] at h; exact h
  | ex x => rw [e] at h; exact fun cls d H' F s r fr => vi_err g0 h s r fr
  | ok o =>
    rw [e] at h
    intro v H1 F1 s1 p1 fr1
    simp only [R.bind] at h
    cases eo : seqF o with
    | none => rw [eo] at h; exact h.elim
    | some kd =>
      obtain ⟨k, ds⟩ := kd
      cases el : o.er.isL with
      | false => rw [eo, el] at h; exact h.elim
      | true =>
        rw [eo, el] at h
        obtain ⟨Z', zu, hk, d, ed, rd⟩ := seqF_rep eo s1 p1 fr1
        obtain ⟨x, vs, rfl, hx, hr⟩ := seq_rep ed rd
        have hls : H1 x = some (.lst vs) ∧ (f.w Z').S k x := by
          rcases hx with hx | hx
          · exact hx
          · obtain ⟨y, us, _, ev, hy, _, _⟩ := isLO_rep p1 el
            cases ev
            rw [hx] at hy; cases hy
        have g1 := g0.up s1 zu
        have hlen : vs.length = ds.length := Reps.length hr
        refine ⟨x, vs, rfl, SqL.of hls.1, h _ H1 Z' s1 zu ⟨fun i as env2 σ2 H2 e2 gg => ?_, fun env2 σ2 H2 gg => ?_⟩⟩
        · obtain ⟨st, _, all⟩ := re_seq (d := .non) hk g1 gg hr (.inl hls)
          have hs2 : SqL X.K H2 x vs := SqL.of (st hls.1)
          rw [List.getElem?_mapIdx] at e2
          cases q : ds[i]? with
          | none => rw [q] at e2; cases e2
          | some dd =>
            rw [q] at e2
            cases e2
            obtain ⟨Z3, Fs3, g3⟩ := gg
            obtain ⟨u, eu, ru⟩ := Reps.get (all Z3 Fs3 g3) q
            refine ⟨⟨vs, u, hs2, eu⟩, fun env1 e1 y H' yl Q' hQ' => ?_⟩
            obtain ⟨T, u', rfl, hT, rfl, hu⟩ := yl
            have := (hu vs hs2).symm.trans eu
            cases this
            have sm : Same H2 (upd H2 T (.tup [.int (i : Nat), u])) := Same.of fun b o e => by rw [upd_ne (ne_of_none e hT)]; exact e
            refine ⟨T, [.int (i : Nat), u], rfl, SqT.of upd_same, hj.symm, good_names (f := f.re Z' Fs H1) (pins_ne hf.2 hP) (g3.same sm) (fun n o en => ?_) rfl e1 fun σ1 h1 => hQ' σ1 _ h1⟩
            match n, en with
            | 0, en => cases en; exact ⟨_, rfl, by simp [RepO, Rep]⟩
            | 1, en => cases en; exact ⟨_, rfl, RepO.same sm (RepO.mono (fun _ z => z) (rep_lfk (w := (f.re Z' Fs H1).w Z3) ru))⟩
            | n + 2, en => cases en
        · obtain ⟨st, _, _⟩ := re_seq (d := .non) hk g1 gg hr (.inl hls)
          exact ⟨vs, SqL.of (st hls.1), by rw [hlen, List.length_mapIdx]; exact Nat.le_refl _⟩
def sExt (i : Nat) (me : DEnv → R O) : VEnv → RS := fun env => match env[i]? with
  | some (some (.lst os)) => (match me (dl env) with
    | .ex x => if O.nos isTb x.xs then .ex x env else .no
    | .no => .no
    | .ok oe => match elems oe with
      | some ps => if oe.er.isL && O.nos isTb ps && oe.no isTb && szOk (os.length + ps.length) then .ok .next (env.set i (some (.lst (os ++ ps)))) else .no
      | none => .no)
  | _ => .no
end
end VL
namespace VL
open PySem PySem.Spec PyProof.Rows L2
def wR0 {α : Type} (r : R α) (Q : α → Prop) (E : Exn → Prop) : Prop := match r with
  | .ok a => Q a
  | .ex x => E x
  | .no => False
def wS0 (r : RS) (Q : Ct → VEnv → Prop) (E : Exn → VEnv → Prop) : Prop := match r with
  | .ok c e => Q c e
  | .ex x e => E x e
  | .no => False
def wX0 (r : RX O) (Q : O → VEnv → Prop) (E : Exn → VEnv → Prop) : Prop := match r with
  | .ok c e => Q c e
  | .ex x e => E x e
  | .no => False
structure wR {α : Type} (r : R α) (Q : α → Prop) (E : Exn → Prop) : Prop where
  out : wR0 r Q E
structure wS (r : RS) (Q : Ct → VEnv → Prop) (E : Exn → VEnv → Prop) : Prop where
  out : wS0 r Q E
structure wX (r : RX O) (Q : O → VEnv → Prop) (E : Exn → VEnv → Prop) : Prop where
  out : wX0 r Q E
noncomputable def gd {α : Type} (c : Prop) (r : R α) : R α := @ite _ c (Classical.propDecidable c) r .no
theorem gd_eq {α : Type} {c : Prop} [Decidable c] {r : R α} : (if c then r else .no) = gd c r := by
  unfold gd
  by_cases h : c
  · rw [if_pos h, if_pos h]
  · rw [if_neg h, if_neg h]
@[simp] theorem gd_true {α : Type} {r : R α} : gd True r = r := by unfold gd; rw [if_pos trivial]
@[simp] theorem gd_false {α : Type} {r : R α} : gd False r = .no := by unfold gd; rw [if_neg not_false]
theorem gd_pos {α : Type} {c : Prop} {r : R α} (h : c) : gd c r = r := by unfold gd; rw [if_pos h]
theorem gd_neg {α : Type} {c : Prop} {r : R α} (h : ¬ c) : gd c r = .no := by unfold gd; rw [if_neg h]
def seqK (m : VEnv → RS) (Q : Ct → VEnv → Prop) (E : Exn → VEnv → Prop) : Ct → VEnv → Prop
  | .next, e => wS (m e) Q E
  | c, e => Q c e
def loopK (I : VEnv → Prop) (Q : Ct → VEnv → Prop) : Ct → VEnv → Prop
  | .next, e => I e
  | .cont, e => I e
  | .brk, e => Q .next e
  | .ret o, e => Q (.ret o) e
def retK (P : O → Prop) : Ct → VEnv → Prop
  | .ret o, _ => o.own = true ∧ P o
  | .next, _ => P (.lf .fz .non)
  | _, _ => False
def nextK (I : VEnv → Prop) : Ct → VEnv → Prop
  | .next, e => I e
  | _, _ => False
def noX (_ : Exn) (_ : VEnv) : Prop := False
section
variable {α β : Type} {a : α} {x : Exn} {Q : α → Prop} {E : Exn → Prop} {r : R α} {c : Prop} [Decidable c]
@[simp] theorem wR_ok : wR (.ok a) Q E ↔ Q a := ⟨fun h => h.out, fun h => ⟨h⟩⟩
@[simp] theorem wR_ex : wR (.ex x : R α) Q E ↔ E x := ⟨fun h => h.out, fun h => ⟨h⟩⟩
@[simp] theorem wR_no : wR (.no : R α) Q E ↔ False := ⟨fun h => h.out, fun h => ⟨h⟩⟩
@[simp] theorem wR_bind {r : R β} {f : β → R α} : wR (r.bind f) Q E ↔ wR r (fun b => wR (f b) Q E) E := by cases r <;> simp [R.bind]
@[simp] theorem wR_guard : wR (if c then r else .no) Q E ↔ c ∧ wR r Q E := by
  split
  · rename_i h; simp [h]
  · rename_i h; simp [h]
@[simp] theorem wR_gd {c : Prop} : wR (gd c r) Q E ↔ c ∧ wR r Q E := by
  by_cases h : c
  · rw [gd_pos h]; simp [h]
  · rw [gd_neg h]; simp [h]
@[simp] theorem bind_gd {c : Prop} {f : α → R β} : (gd c r).bind f = gd c (r.bind f) := by
  by_cases h : c
  · rw [gd_pos h, gd_pos h]
  · rw [gd_neg h, gd_neg h]; rfl
@[simp] theorem bind_guard {f : α → R β} : (if c then r else .no).bind f = if c then r.bind f else .no := by split <;> rfl
@[simp] theorem bind_no {f : α → R β} : (R.no : R α).bind f = .no := (rfl)
theorem wR_eq : wR r (fun b => b = a) (fun _ => False) ↔ r = .ok a := by
  cases r <;> simp
theorem wR_of (h : r = .ok a) (q : Q a) : wR r Q E := by rw [h]; exact ⟨q⟩
theorem wR_mono {Q' : α → Prop} (h : wR r Q E) (k : ∀ a, Q a → Q' a) : wR r Q' E := by
  cases r with
  | ok b => exact ⟨k b h.out⟩
  | ex x => exact ⟨h.out⟩
  | no => exact ⟨h.out⟩
end
section
variable {env e : VEnv} {m m1 m2 body : VEnv → RS} {mx : VEnv → RX O} {me : DEnv → R O} {t : DEnv → R Bool} {Q Q' : Ct → VEnv → Prop} {E E' : Exn → VEnv → Prop} {i n : Nat} {o : O} {x : Exn} {r : RS}
@[simp] theorem wS_ok {c : Ct} : wS (.ok c e) Q E ↔ Q c e := ⟨fun h => h.out, fun h => ⟨h⟩⟩
@[simp] theorem wS_ex : wS (.ex x e) Q E ↔ E x e := ⟨fun h => h.out, fun h => ⟨h⟩⟩
@[simp] theorem wS_no : wS .no Q E ↔ False := ⟨fun h => h.out, fun h => ⟨h⟩⟩
@[simp] theorem wX_ok {P : O → VEnv → Prop} : wX (.ok o e) P E ↔ P o e := ⟨fun h => h.out, fun h => ⟨h⟩⟩
@[simp] theorem wX_ex {P : O → VEnv → Prop} : wX (.ex x e) P E ↔ E x e := ⟨fun h => h.out, fun h => ⟨h⟩⟩
@[simp] theorem wX_no {P : O → VEnv → Prop} : wX .no P E ↔ False := ⟨fun h => h.out, fun h => ⟨h⟩⟩
theorem wS_mono (h : wS r Q E) (k : ∀ c e, Q c e → Q' c e) (k2 : ∀ x e, E x e → E' x e) : wS r Q' E' := by
  cases r with
  | ok c e => exact ⟨k c e h.out⟩
  | ex x e => exact ⟨k2 x e h.out⟩
  | no => exact ⟨h.out⟩
theorem wS_seq : wS (sSeq m1 m2 env) Q E ↔ wS (m1 env) (seqK m2 Q E) E := by
  unfold sSeq
  cases m1 env with
  | ok c e => cases c <;> simp [RX.bind, seqK]
  | ex x e => simp [RX.bind]
  | no => simp [RX.bind]
@[simp] theorem seqK_next : seqK m Q E .next e ↔ wS (m e) Q E := (Iff.rfl)
@[simp] theorem seqK_brk : seqK m Q E .brk e ↔ Q .brk e := (Iff.rfl)
@[simp] theorem seqK_cont : seqK m Q E .cont e ↔ Q .cont e := (Iff.rfl)
@[simp] theorem seqK_ret : seqK m Q E (.ret o) e ↔ Q (.ret o) e := (Iff.rfl)
@[simp] theorem loopK_next {I : VEnv → Prop} : loopK I Q .next e ↔ I e := (Iff.rfl)
@[simp] theorem loopK_cont {I : VEnv → Prop} : loopK I Q .cont e ↔ I e := (Iff.rfl)
@[simp] theorem loopK_brk {I : VEnv → Prop} : loopK I Q .brk e ↔ Q .next e := (Iff.rfl)
@[simp] theorem loopK_ret {I : VEnv → Prop} : loopK I Q (.ret o) e ↔ Q (.ret o) e := (Iff.rfl)
@[simp] theorem retK_next {P : O → Prop} : retK P .next e ↔ P (.lf .fz .non) := (Iff.rfl)
@[simp] theorem retK_ret {P : O → Prop} : retK P (.ret o) e ↔ o.own = true ∧ P o := (Iff.rfl)
@[simp] theorem retK_brk {P : O → Prop} : retK P .brk e ↔ False := (Iff.rfl)
@[simp] theorem retK_cont {P : O → Prop} : retK P .cont e ↔ False := (Iff.rfl)
@[simp] theorem nextK_next {I : VEnv → Prop} : nextK I .next e ↔ I e := (Iff.rfl)
@[simp] theorem wS_next : wS (sNext env) Q E ↔ Q .next env := wS_ok
@[simp] theorem wX_pur {P : O → VEnv → Prop} : wX (pur me env) P E ↔ wR (me (dl env)) (fun o => o.no isTb = true ∧ P o env) (fun x => O.nos isTb x.xs = true ∧ E x env) := by
  unfold pur
  cases me (dl env) with
  | ok o =>
    show wX (if o.no isTb = true then .ok o env else .no) P E ↔ _
    split
    · rename_i h; simp [h]
    · rename_i h; simp [h]
  | ex x =>
    show wX (if O.nos isTb x.xs = true then .ex x env else .no) P E ↔ _
    split
    · rename_i h; simp [h]
    · rename_i h; simp [h]
  | no => simp
@[simp] theorem wX_mv {P : O → VEnv → Prop} : wX (mvM i env) P E ↔ ∃ o, env[i]? = some (some o) ∧ P o (env.set i none) := by
  unfold mvM
  cases q : env[i]? with
  | none => simp
  | some z =>
    cases z with
    | none => simp
    | some o => simp
theorem wS_bind {k : O → VEnv → RS} : wS ((mx env).bind k) Q E ↔ wX (mx env) (fun o e => wS (k o e) Q E) E := by
  cases mx env <;> simp [RX.bind]
@[simp] theorem wS_set : wS (sSet i mx env) Q E ↔ wX (mx env) (fun o e => i < e.length ∧ Q .next (e.set i (some o))) E := by
  unfold sSet
  rw [wS_bind]
  cases mx env with
  | ok o e =>
    rw [wX_ok]
    split
    · rename_i h; simp [h]
    · rename_i h; simp [h]
  | ex x e => simp
  | no => simp
@[simp] theorem wS_setZ : wS (sSetZ i mx env) Q E ↔ wX (mx env) (fun o e => ∃ o', frzO o = some o' ∧ i < e.length ∧ Q .next (e.set i (some o'))) E := by
  unfold sSetZ
  rw [wS_bind]
  cases mx env with
  | ok o e =>
    rw [wX_ok]
    cases q : frzO o with
    | none => simp [q]
    | some o' =>
      show wS (if i < e.length then RX.ok .next (e.set i (some o')) else .no) Q E ↔ _
      split
      · rename_i h; simp [h, q]
      · rename_i h; simp [h]
  | ex x e => simp
  | no => simp
@[simp] theorem wS_ret : wS (sRet mx env) Q E ↔ wX (mx env) (fun o e => Q (.ret o) e) E := by unfold sRet; rw [wS_bind]; simp
@[simp] theorem wS_retN : wS (sRetN env) Q E ↔ Q (.ret (.lf .fz .non)) env := wS_ok
@[simp] theorem wS_drop : wS (sDrop mx env) Q E ↔ wX (mx env) (fun _ e => Q .next e) E := by unfold sDrop; rw [wS_bind]; simp
theorem wS_if : wS (sIf t m1 m2 env) Q E ↔ wR (t (dl env)) (fun b => if b then wS (m1 env) Q E else wS (m2 env) Q E) (fun x => O.nos isTb x.xs = true ∧ E x env) := by
  unfold sIf
  cases t (dl env) with
  | ok b => cases b <;> simp
  | ex x =>
    show wS (if O.nos isTb x.xs = true then .ex x env else .no) Q E ↔ _
    split
    · rename_i h; simp [h]
    · rename_i h; simp [h]
  | no => simp
@[simp] theorem wS_raise1 {C f : String} : wS (sRaise1 C f me env) Q E ↔ wR (me (dl env)) (fun o => o.no isTb = true ∧ E ⟨C, [f], [o]⟩ env) (fun x => O.nos isTb x.xs = true ∧ E x env) := by
  unfold sRaise1
  cases me (dl env) with
  | ok o =>
    show wS (if o.no isTb = true then .ex ⟨C, [f], [o]⟩ env else .no) Q E ↔ _
    split
    · rename_i h; simp [h]
    · rename_i h; simp [h]
  | ex x =>
    show wS (if O.nos isTb x.xs = true then .ex x env else .no) Q E ↔ _
    split
    · rename_i h; simp [h]
    · rename_i h; simp [h]
  | no => simp
theorem wS_cut (I : VEnv → Prop) (h1 : wS (m1 env) (nextK I) E) (h2 : ∀ e, I e → wS (m2 e) Q E) : wS (sSeq m1 m2 env) Q E := by
  rw [wS_seq]
  refine wS_mono h1 (fun c e q => ?_) (fun _ _ q => q)
  cases c with
  | next => exact h2 e q
  | _ => exact q.elim
theorem wS_for {ms : DEnv → R (List Asg)} : wS (sFor ms body env) Q E ↔ wR (ms (dl env)) (fun as => wS (forL body as env) Q E) (fun x => O.nos isTb x.xs = true ∧ E x env) := by
  unfold sFor
  cases ms (dl env) with
  | ok as => simp
  | ex x =>
    show wS (if O.nos isTb x.xs = true then .ex x env else .no) Q E ↔ _
    split
    · rename_i h; simp [h]
    · rename_i h; simp [h]
  | no => simp
theorem forL_cons {a : Asg} {as : List Asg} : wS (forL body (a :: as) env) Q E ↔ ∃ e, a env = some e ∧ wS (body e) (loopK (fun e => wS (forL body as e) Q E) Q) E := by
  have u : forL body (a :: as) env = (match a env with
    | none => .no
    | some e => match body e with
      | .ok .next e' => forL body as e'
      | .ok .cont e' => forL body as e'
      | .ok .brk e' => .ok .next e'
      | .ok (.ret o) e' => .ok (.ret o) e'
      | .ex x e' => .ex x e'
      | .no => .no) := rfl
  rw [u]
  cases a env with
  | none => simp
  | some e =>
    simp only [Option.some.injEq, exists_eq_left']
    cases body e with
    | ok c e => cases c <;> simp
    | ex x e => simp
    | no => simp
@[simp] theorem forL_nil : wS (forL body [] env) Q E ↔ Q .next env := wS_ok
theorem wS_forI {as : List Asg} (I : Nat → VEnv → Prop) (h0 : I 0 env) (hs : ∀ (j : Nat) (a : Asg) (e : VEnv), as[j]? = some a → I j e → ∃ e1, a e = some e1 ∧ wS (body e1) (loopK (I (j + 1)) Q) E) (h1 : ∀ e, I as.length e → Q .next e) : wS (forL body as env) Q E := by
  have go : ∀ (l : List Asg) (j : Nat) (e : VEnv), (∀ k, l[k]? = as[j + k]?) → j + l.length = as.length → I j e → wS (forL body l e) Q E := by
    intro l
    induction l with
    | nil => intro j e _ hj hI; exact forL_nil.mpr (h1 e (by rw [← hj]; simpa using hI))
    | cons a l ih =>
      intro j e hl hj hI
      obtain ⟨e1, ha, hb⟩ := hs j a e (by have := hl 0; simpa using this.symm) hI
      rw [forL_cons]
      refine ⟨e1, ha, wS_mono hb (fun c e q => ?_) (fun _ _ q => q)⟩
      have nx : ∀ e, I (j + 1) e → wS (forL body l e) Q E := fun e q => ih (j + 1) e (fun k => by have := hl (k + 1); simpa [Nat.add_assoc, Nat.add_comm 1 k] using this) (by simp at hj; omega) q
      cases c with
      | next => exact nx e q
      | cont => exact nx e q
      | brk => exact q
      | ret o => exact q
  exact go as 0 env (fun k => by simp) (by simp) h0
theorem wS_forP {α : Type} {xs : List α} {f : α → Asg} (I : List α → VEnv → Prop) (h0 : I [] env) (hs : ∀ (pre : List α) (x : α) (post : List α) (e : VEnv), xs = pre ++ x :: post → I pre e → ∃ e1, f x e = some e1 ∧ wS (body e1) (loopK (I (pre ++ [x])) Q) E) (h1 : ∀ e, I xs e → Q .next e) : wS (forL body (xs.map f) env) Q E := by
  have go : ∀ (l pre : List α) (e : VEnv), xs = pre ++ l → I pre e → wS (forL body (l.map f) e) Q E := by
    intro l
    induction l with
    | nil => intro pre e hx hI; exact forL_nil.mpr (h1 e (by rw [hx, List.append_nil]; exact hI))
    | cons a l ih =>
      intro pre e hx hI
      obtain ⟨e1, ha, hb⟩ := hs pre a l e hx hI
      rw [List.map_cons, forL_cons]
      refine ⟨e1, ha, wS_mono hb (fun c e q => ?_) (fun _ _ q => q)⟩
      have nx : ∀ e, I (pre ++ [a]) e → wS (forL body (l.map f) e) Q E := fun e q => ih (pre ++ [a]) e (by rw [hx]; simp) q
      cases c with
      | next => exact nx e q
      | cont => exact nx e q
      | brk => exact q
      | ret o => exact q
  exact go xs [] env rfl h0
theorem wS_forN {n : Nat} {f : Nat → Asg} (I : Nat → VEnv → Prop) (h0 : I 0 env) (hs : ∀ (j : Nat) (e : VEnv), j < n → I j e → ∃ e1, f j e = some e1 ∧ wS (body e1) (loopK (I (j + 1)) Q) E) (h1 : ∀ e, I n e → Q .next e) : wS (forL body ((List.range n).map f) env) Q E := by
  refine wS_forI I h0 (fun j a e ha hI => ?_) (fun e h => h1 e (by simpa using h))
  rw [List.getElem?_map] at ha
  by_cases hj : j < n
  · rw [List.getElem?_range hj] at ha
    cases ha
    exact hs j e hj hI
  · rw [List.getElem?_eq_none (by simpa using Nat.le_of_not_lt hj)] at ha
    cases ha
theorem wS_forNE {n : Nat} {f : Nat → Asg} (I : VEnv → Nat → VEnv → Prop) (h0 : I env 0 env) (hs : ∀ (j : Nat) (e : VEnv), j < n → I env j e → ∃ e1, f j e = some e1 ∧ wS (body e1) (loopK (I env (j + 1)) Q) E) (h1 : ∀ e, I env n e → Q .next e) : wS (forL body ((List.range n).map f) env) Q E := wS_forN (I env) h0 hs h1
theorem wS_forX {α : Type} {as : List Asg} (xs : List α) (f : α → Asg) (h : as = xs.map f) (I : VEnv → List α → VEnv → Prop) (h0 : I env [] env) (hs : ∀ (pre : List α) (x : α) (post : List α) (e : VEnv), xs = pre ++ x :: post → I env pre e → ∃ e1, f x e = some e1 ∧ wS (body e1) (loopK (I env (pre ++ [x])) Q) E) (h1 : ∀ e, I env xs e → Q .next e) : wS (forL body as env) Q E := by
  subst h; exact wS_forP (I env) h0 hs h1
theorem call_wp {os : List O} {P : O → Prop} {F : Exn → Prop} (h : wS (m (startE n (os.map toArg))) (retK P) (fun x _ => O.owns x.xs = true ∧ F x)) : wR (callM n m os) P F := by
  unfold callM
  have h := h.out
  cases q : m (startE n (os.map toArg)) with
  | ok c e =>
    rw [q] at h
    cases c with
    | next => exact ⟨h⟩
    | brk => exact h.elim
    | cont => exact h.elim
    | ret o =>
      show wR (if o.own = true then R.ok o else .no) P F
      rw [if_pos h.1]; exact ⟨h.2⟩
  | ex x e =>
    rw [q] at h
    show wR (if O.owns x.xs = true then R.ex x else .no : R O) P F
    rw [if_pos h.1]; exact ⟨h.2⟩
  | no => rw [q] at h; exact ⟨h⟩
theorem call_ok {os : List O} (h : wS (m (startE n (os.map toArg))) (retK fun p => p = o) noX) : callM n m os = .ok o :=
  wR_eq.mp (call_wp (wS_mono h (fun _ _ q => q) (fun _ _ q => q.elim)))
theorem runs_of {n : Nat} {m : VEnv → RS} (h : ∀ ns : List Int, ns.length ≤ 63 → wS (m (startE n [scrD ns])) (fun c _ => c = .ret (ob true)) noX) : RunsTrue n m := by
  intro ns hl
  have := (h ns hl).out
  cases q : m (startE n [scrD ns]) with
  | ok c e =>
    rw [q] at this
    have hc : c = .ret (ob true) := this
    subst hc
    exact ⟨e, rfl⟩
  | ex x e => rw [q] at this; exact this.elim
  | no => rw [q] at this; exact this.elim
end
end VL
namespace VL
open PySem PySem.Spec PyProof.Rows L2
def lendV : Option (Option O) → R O
  | some (some (.lf k d)) => .ok (lfk k d)
  | some (some (.xn C fs ds)) => .ok (.xn C fs ds)
  | some (some (.xo C _ _)) => .ok (.xn C [] [])
  | some (some o) => .ok (lfk .tb o.er)
  | _ => .no
section
variable {env : VEnv} {de : DEnv} {n i j : Nat} {k k' : Kd} {d d' : D} {ds ds' : List D} {o p : O} {os ps : List O} {a b : Int} {C : String} {fs : List String}
@[simp] theorem eVar_dl : eVar n (dl env) = lendV env[n]? := by
  unfold eVar dl
  rw [List.getElem?_map]
  cases env[n]? with
  | none => rfl
  | some z =>
    cases z with
    | none => rfl
    | some o => cases o <;> rfl
@[simp] theorem lendV_lf : lendV (some (some (.lf k d))) = .ok (lfk k d) := (rfl)
@[simp] theorem lendV_xn : lendV (some (some (.xn C fs ds))) = .ok (.xn C fs ds) := (rfl)
@[simp] theorem lendV_xo {xs : List O} : lendV (some (some (.xo C fs xs))) = .ok (.xn C [] []) := (rfl)
@[simp] theorem lendV_lst : lendV (some (some (.lst os))) = .ok (.lf .tb (.lst (O.ers os))) := (rfl)
@[simp] theorem lendV_tup : lendV (some (some (.tup os))) = .ok (lfk .tb (.tup (O.ers os))) := (rfl)
@[simp] theorem lfk_lst : lfk k (.lst ds) = .lf k (.lst ds) := (rfl)
@[simp] theorem lfk_str {z : Str} : lfk k (.str z) = .lf .fz (.str z) := (rfl)
@[simp] theorem lfk_tup : lfk k (.tup ds) = if D.imms ds then .lf .fz (.tup ds) else .lf k (.tup ds) := (rfl)
@[simp] theorem er_lf : (O.lf k d).er = d := (rfl)
@[simp] theorem er_lst : (O.lst os).er = .lst (O.ers os) := (rfl)
@[simp] theorem er_tup : (O.tup os).er = .tup (O.ers os) := (rfl)
@[simp] theorem er_lfk : (lfk k d).er = d := lfk_er k d
@[simp] theorem ers_nil : O.ers [] = [] := (rfl)
@[simp] theorem ers_cons : O.ers (o :: os) = o.er :: O.ers os := (rfl)
@[simp] theorem ers_append : O.ers (os ++ ps) = O.ers os ++ O.ers ps := by simp [O.ers_eq]
@[simp] theorem ers_map {α : Type} {f : α → O} {xs : List α} : O.ers (xs.map f) = xs.map fun x => (f x).er := by rw [O.ers_eq, List.map_map]; rfl
@[simp] theorem imms_nil : D.imms [] = true := (rfl)
@[simp] theorem imms_cons : D.imms (d :: ds) = (d.imm && D.imms ds) := (rfl)
@[simp] theorem imm_int : (D.int a).imm = true := (rfl)
@[simp] theorem imm_bl {b : Bool} : (D.bl b).imm = true := (rfl)
@[simp] theorem imm_non : D.non.imm = true := (rfl)
@[simp] theorem imm_str {z : Str} : (D.str z).imm = true := (rfl)
@[simp] theorem imm_tup : (D.tup ds).imm = D.imms ds := (rfl)
@[simp] theorem imm_lst : (D.lst ds).imm = false := (rfl)
@[simp] theorem imms_map {α : Type} {f : α → D} {xs : List α} : D.imms (xs.map f) = xs.all fun x => (f x).imm := by rw [D.imms_eq, List.all_map]; rfl
@[simp] theorem no_lf {q : Kd → Bool} : (O.lf k d).no q = !q k := (rfl)
@[simp] theorem no_lst {q : Kd → Bool} : (O.lst os).no q = O.nos q os := (rfl)
@[simp] theorem no_tup {q : Kd → Bool} : (O.tup os).no q = O.nos q os := (rfl)
@[simp] theorem nos_nil {q : Kd → Bool} : O.nos q [] = true := (rfl)
@[simp] theorem nos_cons {q : Kd → Bool} : O.nos q (o :: os) = (o.no q && O.nos q os) := (rfl)
@[simp] theorem nos_append {q : Kd → Bool} : O.nos q (os ++ ps) = (O.nos q os && O.nos q ps) := by simp [O.nos_eq]
@[simp] theorem nos_map {α : Type} {q : Kd → Bool} {f : α → O} {xs : List α} : O.nos q (xs.map f) = xs.all fun x => (f x).no q := by rw [O.nos_eq, List.all_map]; rfl
@[simp] theorem nos_rep {q : Kd → Bool} : O.nos q (List.replicate n o) = (decide (n = 0) || o.no q) := by
  rw [O.nos_eq]
  induction n with
  | zero => rfl
  | succ n ih => rw [List.replicate_succ, List.all_cons, ih]; cases o.no q <;> simp
@[simp] theorem isTb_fz : isTb .fz = false := (rfl)
@[simp] theorem isTb_bo : isTb .bo = false := (rfl)
@[simp] theorem isTb_tb : isTb .tb = true := (rfl)
@[simp] theorem notFz_fz : notFz .fz = false := (rfl)
@[simp] theorem notFz_bo : notFz .bo = true := (rfl)
@[simp] theorem notFz_tb : notFz .tb = true := (rfl)
@[simp] theorem own_lf : (O.lf k d).own = d.imm := (rfl)
@[simp] theorem own_lst : (O.lst os).own = O.owns os := (rfl)
@[simp] theorem own_tup : (O.tup os).own = O.owns os := (rfl)
@[simp] theorem owns_nil : O.owns [] = true := (rfl)
@[simp] theorem owns_cons : O.owns (o :: os) = (o.own && O.owns os) := (rfl)
@[simp] theorem owns_append : O.owns (os ++ ps) = (O.owns os && O.owns ps) := by simp [O.owns_eq]
@[simp] theorem owns_map {α : Type} {f : α → O} {xs : List α} : O.owns (xs.map f) = xs.all fun x => (f x).own := by rw [O.owns_eq, List.all_map]; rfl
@[simp] theorem frz_bo : frzO (.lf .bo d) = some (.lf .bo d) := (rfl)
@[simp] theorem frz_lst : frzO (.lst os) = if O.nos notFz os then some (.lf .fz (.lst (O.ers os))) else none := (rfl)
@[simp] theorem frz_tup : frzO (.tup os) = if O.nos notFz os then some (.lf .fz (.tup (O.ers os))) else none := by
  show (if O.nos notFz os then some (lfk .fz (.tup (O.ers os))) else none) = _
  rw [lfk_fz]
@[simp] theorem guard_some {α : Type} {c : Prop} [Decidable c] {x y : α} : (if c then some x else none) = some y ↔ c ∧ x = y := by split <;> simp [*]
@[simp] theorem toArg_lf_bo {d : D} : toArg (.lf .bo d) = lfk .bo d := (rfl)
@[simp] theorem toArg_lf_tb {d : D} : toArg (.lf .tb d) = lfk .bo d := (rfl)
@[simp] theorem toArg_lst : toArg (.lst os) = if O.nos notFz os then .lf .fz (.lst (O.ers os)) else .lf .bo (.lst (O.ers os)) := (rfl)
@[simp] theorem toArg_tup : toArg (.tup os) = if O.nos notFz os then .lf .fz (.tup (O.ers os)) else lfk .bo (.tup (O.ers os)) := by
  show (if O.nos notFz os then lfk .fz (.tup (O.ers os)) else lfk .bo (.tup (O.ers os))) = _
  rw [lfk_fz]
@[simp] theorem startE_eq : startE n os = os.map some ++ List.replicate (n - os.length) none := (rfl)
@[simp] theorem elems_lf_lst : elems (.lf k (.lst ds)) = some (ds.map (lfk k)) := (rfl)
@[simp] theorem elems_lf_tup : elems (.lf k (.tup ds)) = some (ds.map (lfk k)) := (rfl)
@[simp] theorem elems_lst : elems (.lst os) = some os := (rfl)
@[simp] theorem elems_tup : elems (.tup os) = some os := (rfl)
@[simp] theorem elems_str {z : Str} : elems (.lf k (.str z)) = none := (rfl)
@[simp] theorem isL_lst : (D.lst ds).isL = true := (rfl)
@[simp] theorem isL_tup : (D.tup ds).isL = false := (rfl)
@[simp] theorem isTp_tup : (D.tup ds).isTp = true := (rfl)
@[simp] theorem isTp_lst : (D.lst ds).isTp = false := (rfl)
@[simp] theorem atI_map {α β : Type} {f : α → β} {xs : List α} {i : Int} : atI (xs.map f) i = (atI xs i).map f := by
  unfold atI
  rw [List.length_map]
  cases ixN xs.length i with
  | none => rfl
  | some j => simp
@[simp] theorem atI_cast {α : Type} {xs : List α} {n : Nat} : atI xs (n : Int) = xs[n]? := by
  unfold atI ixN
  by_cases h : n < xs.length
  · simp [h]
  · simp [h, List.getElem?_eq_none (Nat.le_of_not_lt h)]
@[simp] theorem atI_lit {α : Type} {xs : List α} {n : Nat} : atI xs (no_index (OfNat.ofNat n) : Int) = xs[(OfNat.ofNat n : Nat)]? := atI_cast (n := n)
theorem atI_last {α : Type} {xs : List α} : atI xs (-1) = xs[xs.length - 1]? := by
  unfold atI ixN
  cases xs with
  | nil => rfl
  | cons a r =>
    have h1 : ¬ (0 : Int) ≤ -1 := by omega
    have h2 : -(((a :: r).length : Nat) : Int) ≤ -1 := by simp only [List.length_cons]; omega
    have h3 : (-1 + (((a :: r).length : Nat) : Int)).toNat = (a :: r).length - 1 := by simp only [List.length_cons]; omega
    simp only [h1, h2, if_true, if_false, false_and, h3]
    rfl
@[simp] theorem atI_neg1 {α : Type} {xs : List α} : atI xs (-1) = xs.getLast? := by rw [atI_last, List.getLast?_eq_getElem?]
theorem atI_lt {α : Type} {xs : List α} {i : Int} (h : 0 ≤ i) (h2 : i < xs.length) : ∃ x, x ∈ xs ∧ atI xs i = some x ∧ xs[i.toNat]? = some x := by
  obtain ⟨n, rfl⟩ : ∃ n : Nat, i = n := ⟨i.toNat, by omega⟩
  have hn : n < xs.length := by omega
  refine ⟨xs[n], List.getElem_mem hn, ?_, ?_⟩
  · rw [atI_cast]; exact List.getElem?_eq_getElem hn
  · simp [hn]
def optR {α : Type} (z : Option α) : R α := match z with
  | some a => .ok a
  | none => .no
@[simp] theorem optR_some {α : Type} {a : α} : optR (some a) = .ok a := (rfl)
@[simp] theorem wR_optR {α : Type} {z : Option α} {Q : α → Prop} {E : Exn → Prop} : wR (optR z) Q E ↔ ∃ a, z = some a ∧ Q a := by cases z <;> simp [optR]
@[simp] theorem optR_map {α β : Type} {f : α → β} {z : Option α} : optR (z.map f) = (optR z).bind fun a => .ok (f a) := by cases z <;> rfl
theorem gIx_els (h : elems o = some os) : gIx o (oi a) = optR (atI os a) := by
  unfold gIx optR
  rw [h]
  show (match atI os a with
    | some o => R.ok o
    | none => R.no) = _
  cases atI os a <;> rfl
@[simp] theorem gIx_lf_lst : gIx (.lf k (.lst ds)) (oi a) = optR ((atI ds a).map (lfk k)) := by rw [gIx_els elems_lf_lst, atI_map]
@[simp] theorem gIx_lf_tup : gIx (.lf k (.tup ds)) (oi a) = optR ((atI ds a).map (lfk k)) := by rw [gIx_els elems_lf_tup, atI_map]
@[simp] theorem gIx_lst : gIx (.lst os) (oi a) = optR (atI os a) := gIx_els elems_lst
@[simp] theorem gIx_tup : gIx (.tup os) (oi a) = optR (atI os a) := gIx_els elems_tup
@[simp] theorem gIx_scrD {ns : List Int} : gIx (scrD ns) (oi a) = optR ((atI ns a).map oi) := by
  unfold gIx
  show (match atI (ns.map D.int) a with
      | some d => if d.imm then R.ok (O.lf .fz d) else .no
      | none => .no) = _
  rw [atI_map]
  cases atI ns a with
  | none => rfl
  | some v => rfl
@[simp] theorem gLen_lf_lst : gLen (.lf k (.lst ds)) = .ok (oi ds.length) := (rfl)
@[simp] theorem gLen_lf_tup : gLen (.lf k (.tup ds)) = .ok (oi ds.length) := (rfl)
@[simp] theorem gLen_lst : gLen (.lst os) = .ok (oi os.length) := by
  show R.ok (oi ((O.ers os).length : Nat)) = _
  rw [O.ers_eq, List.length_map]
@[simp] theorem gLen_tup : gLen (.tup os) = .ok (oi os.length) := by
  show R.ok (oi ((O.ers os).length : Nat)) = _
  rw [O.ers_eq, List.length_map]
@[simp] theorem gList_lf_lst : gList (.lf k (.lst ds)) = .ok (.lst (ds.map (lfk k))) := (rfl)
@[simp] theorem gList_lf_tup : gList (.lf k (.tup ds)) = .ok (.lst (ds.map (lfk k))) := (rfl)
@[simp] theorem gList_lst : gList (.lst os) = .ok (.lst os) := (rfl)
@[simp] theorem gTuple_lf_lst : gTuple (.lf k (.lst ds)) = .ok (.tup (ds.map (lfk k))) := (rfl)
@[simp] theorem gTuple_lst : gTuple (.lst os) = .ok (.tup os) := (rfl)
@[simp] theorem szOk_iff : szOk n = decide (n ≤ 16777216) := (rfl)
theorem gPlus_els (h1 : elems o = some os) (h2 : elems p = some ps) (l1 : o.er.isL = true) (l2 : p.er.isL = true) : gPlus o p = if os.length + ps.length ≤ 16777216 then .ok (.lst (os ++ ps)) else .no := by
  unfold gPlus
  rw [h1, h2]
  simp [l1, l2]
theorem gPlus_elt (h1 : elems o = some os) (h2 : elems p = some ps) (l1 : o.er.isTp = true) (l2 : p.er.isTp = true) (l3 : o.er.isL = false) : gPlus o p = if os.length + ps.length ≤ 16777216 then .ok (.tup (os ++ ps)) else .no := by
  unfold gPlus
  rw [h1, h2]
  simp [l1, l2, l3]
theorem gPlus_1 : gPlus (.lf k (.lst ds)) (.lf k' (.lst ds')) = if ds.length + ds'.length ≤ 16777216 then .ok (.lst (ds.map (lfk k) ++ ds'.map (lfk k'))) else .no := by rw [gPlus_els elems_lf_lst elems_lf_lst rfl rfl]; simp
@[simp] theorem gPlus_1_g : gPlus (.lf k (.lst ds)) (.lf k' (.lst ds')) = gd (ds.length + ds'.length ≤ 16777216) (.ok (.lst (ds.map (lfk k) ++ ds'.map (lfk k')))) := by
  rw [gPlus_1]
  simp only [gd_eq]
theorem gPlus_2 : gPlus (.lst os) (.lf k' (.lst ds')) = if os.length + ds'.length ≤ 16777216 then .ok (.lst (os ++ ds'.map (lfk k'))) else .no := by rw [gPlus_els elems_lst elems_lf_lst rfl rfl]; simp
@[simp] theorem gPlus_2_g : gPlus (.lst os) (.lf k' (.lst ds')) = gd (os.length + ds'.length ≤ 16777216) (.ok (.lst (os ++ ds'.map (lfk k')))) := by
  rw [gPlus_2]
  simp only [gd_eq]
theorem gPlus_3 : gPlus (.lf k (.lst ds)) (.lst ps) = if ds.length + ps.length ≤ 16777216 then .ok (.lst (ds.map (lfk k) ++ ps)) else .no := by rw [gPlus_els elems_lf_lst elems_lst rfl rfl]; simp
@[simp] theorem gPlus_3_g : gPlus (.lf k (.lst ds)) (.lst ps) = gd (ds.length + ps.length ≤ 16777216) (.ok (.lst (ds.map (lfk k) ++ ps))) := by
  rw [gPlus_3]
  simp only [gd_eq]
theorem gPlus_4 : gPlus (.lst os) (.lst ps) = if os.length + ps.length ≤ 16777216 then .ok (.lst (os ++ ps)) else .no := by rw [gPlus_els elems_lst elems_lst rfl rfl]
@[simp] theorem gPlus_4_g : gPlus (.lst os) (.lst ps) = gd (os.length + ps.length ≤ 16777216) (.ok (.lst (os ++ ps))) := by
  rw [gPlus_4]
  simp only [gd_eq]
theorem gPlus_5 : gPlus (.lf k (.tup ds)) (.lf k' (.tup ds')) = if ds.length + ds'.length ≤ 16777216 then .ok (.tup (ds.map (lfk k) ++ ds'.map (lfk k'))) else .no := by rw [gPlus_elt elems_lf_tup elems_lf_tup rfl rfl rfl]; simp
@[simp] theorem gPlus_5_g : gPlus (.lf k (.tup ds)) (.lf k' (.tup ds')) = gd (ds.length + ds'.length ≤ 16777216) (.ok (.tup (ds.map (lfk k) ++ ds'.map (lfk k')))) := by
  rw [gPlus_5]
  simp only [gd_eq]
theorem gPlus_6 : gPlus (.lf k (.tup ds)) (.tup ps) = if ds.length + ps.length ≤ 16777216 then .ok (.tup (ds.map (lfk k) ++ ps)) else .no := by rw [gPlus_elt elems_lf_tup elems_tup rfl rfl rfl]; simp
@[simp] theorem gPlus_6_g : gPlus (.lf k (.tup ds)) (.tup ps) = gd (ds.length + ps.length ≤ 16777216) (.ok (.tup (ds.map (lfk k) ++ ps))) := by
  rw [gPlus_6]
  simp only [gd_eq]
theorem gPlus_7 : gPlus (.tup os) (.lf k' (.tup ds')) = if os.length + ds'.length ≤ 16777216 then .ok (.tup (os ++ ds'.map (lfk k'))) else .no := by rw [gPlus_elt elems_tup elems_lf_tup rfl rfl rfl]; simp
@[simp] theorem gPlus_7_g : gPlus (.tup os) (.lf k' (.tup ds')) = gd (os.length + ds'.length ≤ 16777216) (.ok (.tup (os ++ ds'.map (lfk k')))) := by
  rw [gPlus_7]
  simp only [gd_eq]
theorem gPlus_8 : gPlus (.tup os) (.tup ps) = if os.length + ps.length ≤ 16777216 then .ok (.tup (os ++ ps)) else .no := by rw [gPlus_elt elems_tup elems_tup rfl rfl rfl]
@[simp] theorem gPlus_8_g : gPlus (.tup os) (.tup ps) = gd (os.length + ps.length ≤ 16777216) (.ok (.tup (os ++ ps))) := by
  rw [gPlus_8]
  simp only [gd_eq]
theorem gLst_ev : gLst os = if os.length ≤ 16777216 then .ok (.lst os) else .no := by unfold gLst; simp
@[simp] theorem gLst_ev_g : gLst os = gd (os.length ≤ 16777216) (.ok (.lst os)) := by
  rw [gLst_ev]
  simp only [gd_eq]
theorem gTup_ev : VL.gTup os = if os.length ≤ 16777216 then .ok (.tup os) else .no := by unfold VL.gTup; simp
@[simp] theorem gTup_ev_g : VL.gTup os = gd (os.length ≤ 16777216) (.ok (.tup os)) := by
  rw [gTup_ev]
  simp only [gd_eq]
@[simp] theorem cutA_map {α β : Type} {f : α → β} {xs : List α} {lo hi : Option Int} : cutA (xs.map f) lo hi = (cutA xs lo hi).map f := by
  unfold cutA
  rw [List.length_map, ← List.map_drop, ← List.map_take]
@[simp] theorem gSl_lf_lst {lo hi : Option Int} : gSl (.lf k (.lst ds)) lo hi = .ok (.lst ((cutA ds lo hi).map (lfk k))) := by
  unfold gSl
  rw [elems_lf_lst]
  simp
@[simp] theorem gSl_lf_tup {lo hi : Option Int} : gSl (.lf k (.tup ds)) lo hi = .ok (.tup ((cutA ds lo hi).map (lfk k))) := by
  unfold gSl
  rw [elems_lf_tup]
  simp
@[simp] theorem gSl_lst {lo hi : Option Int} : gSl (.lst os) lo hi = .ok (.lst (cutA os lo hi)) := by
  unfold gSl
  rw [elems_lst]
  simp
@[simp] theorem oNo_ev' : oNo de = .ok none := (rfl)
def asI (o : O) : R (Option Int) := match o.er with
  | .int i => .ok (some i)
  | _ => .no
@[simp] theorem asI_oi : asI (oi a) = .ok (some a) := (rfl)
@[simp] theorem oYes_ev' {m : DEnv → R O} : oYes m de = (m de).bind asI := (rfl)
@[simp] theorem eSl_ev {m : DEnv → R O} {l u : DEnv → R (Option Int)} : eSl m l u de = (m de).bind fun o => (l de).bind fun lo => (u de).bind fun hi => gSl o lo hi := (rfl)
@[simp] theorem cutA_no {α : Type} {xs : List α} : cutA xs none none = xs := by
  unfold cutA
  rw [HT.sIx_none, HT.sIx_none, List.drop_zero, Nat.sub_zero, List.take_length]
theorem cutA_to {α : Type} {xs : List α} : cutA xs none (some (n : Int)) = xs.take n := by
  unfold cutA
  rw [HT.sIx_nat, HT.sIx_none, List.drop_zero, Nat.sub_zero, ← List.take_eq_take_min]
theorem cutA_from {α : Type} {xs : List α} : cutA xs (some (n : Int)) none = xs.drop n := by
  unfold cutA
  rw [HT.sIx_nat, HT.sIx_none]
  by_cases h : n ≤ xs.length
  · rw [Nat.min_eq_left h, List.take_of_length_le (by simp)]
  · rw [Nat.min_eq_right (by omega), List.drop_length, List.drop_eq_nil_of_le (by omega), List.take_nil]
theorem cutA_to' {α : Type} {xs : List α} (h : 0 ≤ a) : cutA xs none (some a) = xs.take a.toNat := by
  obtain ⟨n, rfl⟩ : ∃ n : Nat, a = n := ⟨a.toNat, by omega⟩
  rw [cutA_to]; rfl
theorem cutA_from' {α : Type} {xs : List α} (h : 0 ≤ a) : cutA xs (some a) none = xs.drop a.toNat := by
  obtain ⟨n, rfl⟩ : ∃ n : Nat, a = n := ⟨a.toNat, by omega⟩
  rw [cutA_from]; rfl
theorem gMod_ev : gMod (oi a) (oi b) = if 0 < b then .ok (oi (a % b)) else .no := by
  show (if cModB a b then R.ok (oi (a % b)) else .no) = _
  unfold cModB
  by_cases h : 0 < b
  · simp [h]
  · simp [h]
@[simp] theorem gMod_ev_g : gMod (oi a) (oi b) = gd (0 < b) (.ok (oi (a % b))) := by
  rw [gMod_ev]
  simp only [gd_eq]
def mulOk (a b : Int) : Prop := CMul a b ∨ CMulW a b
instance : Decidable (mulOk a b) := by unfold mulOk; exact inferInstance
theorem gMul_ev : gMul (oi a) (oi b) = if mulOk a b then .ok (oi (a * b)) else .no := by
  show (if cMulB a b then R.ok (oi (a * b)) else .no) = _
  unfold cMulB
  by_cases h : mulOk a b
  · rw [if_pos h, if_pos (by rw [Bool.or_eq_true]; exact h.imp (decide_eq_true ·) (decide_eq_true ·))]
  · rw [if_neg h, if_neg (by rw [Bool.or_eq_true]; exact fun q => h (q.imp of_decide_eq_true of_decide_eq_true))]
theorem gTimes_ev : gTimes (oi a) (oi b) = if mulOk a b then .ok (oi (a * b)) else .no := gMul_ev
@[simp] theorem gTimes_ev_g : gTimes (oi a) (oi b) = gd (mulOk a b) (.ok (oi (a * b))) := by
  rw [gTimes_ev]
  simp only [gd_eq]
theorem mulOk_r (h : -(2 ^ 64) < b) (h2 : b < 2 ^ 64) : mulOk a b := .inl (.inr ⟨h, h2⟩)
theorem mulOk_l (h : -(2 ^ 64) < a) (h2 : a < 2 ^ 64) : mulOk a b := .inl (.inl ⟨h, h2⟩)
@[simp] theorem mulOk_litL {n : Nat} (h : n < 2 ^ 64) : mulOk (no_index (OfNat.ofNat n) : Int) b := mulOk_l (by show -(2 ^ 64) < (n : Int); omega) (by show (n : Int) < 2 ^ 64; omega)
@[simp] theorem mulOk_lit {n : Nat} (h : n < 2 ^ 64) : mulOk a (no_index (OfNat.ofNat n) : Int) := by
  exact mulOk_r (by show -(2 ^ 64) < (n : Int); omega) (by show (n : Int) < 2 ^ 64; omega)
theorem gTimes_els (h : elems o = some os) (l : o.er.isL = true) : gTimes o (oi a) = if allLf os = true ∧ -(2 ^ 63) ≤ a ∧ a < 2 ^ 63 ∧ os.length * a.toNat ≤ 16777216 then .ok (.lst (List.replicate a.toNat os).flatten) else .no := by
  unfold gTimes
  rw [h]
  show (if (o.er.isL && allLf os && decide (-(2 ^ 63) ≤ a) && decide (a < 2 ^ 63) && szOk (os.length * a.toNat)) = true then R.ok (O.lst (List.replicate a.toNat os).flatten) else .no) = _
  rw [l]
  by_cases q : allLf os = true ∧ -(2 ^ 63) ≤ a ∧ a < 2 ^ 63 ∧ os.length * a.toNat ≤ 16777216
  · rw [if_pos q, if_pos (by simp only [Bool.true_and, Bool.and_eq_true, decide_eq_true_eq, szOk_iff]; exact ⟨⟨⟨q.1, q.2.1⟩, q.2.2.1⟩, q.2.2.2⟩)]
  · rw [if_neg q, if_neg]
    simp only [Bool.true_and, Bool.and_eq_true, decide_eq_true_eq, szOk_iff]
    exact fun z => q ⟨z.1.1.1, z.1.1.2, z.1.2, z.2⟩
theorem gTimes_lst : gTimes (.lst os) (oi a) = if allLf os = true ∧ -(2 ^ 63) ≤ a ∧ a < 2 ^ 63 ∧ os.length * a.toNat ≤ 16777216 then .ok (.lst (List.replicate a.toNat os).flatten) else .no := gTimes_els elems_lst rfl
@[simp] theorem gTimes_lst_g : gTimes (.lst os) (oi a) = gd (allLf os = true ∧ -(2 ^ 63) ≤ a ∧ a < 2 ^ 63 ∧ os.length * a.toNat ≤ 16777216) (.ok (.lst (List.replicate a.toNat os).flatten)) := by
  rw [gTimes_lst]
  simp only [gd_eq]
theorem gTimes_lf_lst : gTimes (.lf k (.lst ds)) (oi a) = if allLf (ds.map (lfk k)) = true ∧ -(2 ^ 63) ≤ a ∧ a < 2 ^ 63 ∧ ds.length * a.toNat ≤ 16777216 then .ok (.lst (List.replicate a.toNat (ds.map (lfk k))).flatten) else .no := by
  rw [gTimes_els elems_lf_lst rfl]; simp
@[simp] theorem gTimes_lf_lst_g : gTimes (.lf k (.lst ds)) (oi a) = gd (allLf (ds.map (lfk k)) = true ∧ -(2 ^ 63) ≤ a ∧ a < 2 ^ 63 ∧ ds.length * a.toNat ≤ 16777216) (.ok (.lst (List.replicate a.toNat (ds.map (lfk k))).flatten)) := by
  rw [gTimes_lf_lst]
  simp only [gd_eq]
@[simp] theorem allLf_nil : allLf [] = true := (rfl)
@[simp] theorem allLf_lf : allLf (.lf k d :: os) = allLf os := (rfl)
@[simp] theorem allLf_map_lfk : allLf (ds.map (lfk k)) = true := by
  induction ds with
  | nil => rfl
  | cons a r ih => rw [List.map_cons]; unfold lfk; split <;> exact ih
@[simp] theorem allLf_map_lf {α : Type} {f : α → D} {g : α → Kd} {xs : List α} : allLf (xs.map fun x => .lf (g x) (f x)) = true := by
  induction xs with
  | nil => rfl
  | cons a r ih => exact ih
end
end VL
namespace VL
open PySem PySem.Spec PyProof.Rows L2
section
variable {env e : VEnv} {de : DEnv} {n i j : Nat} {k k' : Kd} {d d' : D} {ds ds' : List D} {o p : O} {os ps : List O} {a b : Int} {m m1 m2 body : VEnv → RS} {me mi ma mb : DEnv → R O} {Q : Ct → VEnv → Prop} {E : Exn → VEnv → Prop} {x : Exn}
theorem joinK {c : Prop} [Decidable c] (K : Ct → VEnv → Prop) {e1 e2 : VEnv} : (if c then K .next e1 else K .next e2) ↔ K .next (if c then e1 else e2) := by split <;> rfl
theorem joinA {c A P Q : Prop} [Decidable c] : (if c then A ∧ P else Q) ↔ (c → A) ∧ (if c then P else Q) := by split <;> simp [*]
theorem joinB {c A P Q : Prop} [Decidable c] : (if c then P else A ∧ Q) ↔ (¬ c → A) ∧ (if c then P else Q) := by split <;> simp [*]
@[simp] theorem ite_cons {α : Type} {c : Prop} [Decidable c] {x y : α} {xs ys : List α} : (if c then x :: xs else y :: ys) = (if c then x else y) :: (if c then xs else ys) := by split <;> rfl
@[simp] theorem ite_some {α : Type} {c : Prop} [Decidable c] {x y : α} : (if c then some x else some y) = some (if c then x else y) := by split <;> rfl
@[simp] theorem ite_lf {c : Prop} [Decidable c] {x y : D} : (if c then O.lf k x else O.lf k y) = .lf k (if c then x else y) := by split <;> rfl
@[simp] theorem ite_int {c : Prop} [Decidable c] {x y : Int} : (if c then D.int x else D.int y) = .int (if c then x else y) := by split <;> rfl
@[simp] theorem ite_dlst {c : Prop} [Decidable c] {x y : List D} : (if c then D.lst x else D.lst y) = .lst (if c then x else y) := by split <;> rfl
@[simp] theorem ite_dstr {c : Prop} [Decidable c] {x y : Str} : (if c then D.str x else D.str y) = .str (if c then x else y) := by split <;> rfl
@[simp] theorem ite_olst {c : Prop} [Decidable c] {x y : List O} : (if c then O.lst x else O.lst y) = .lst (if c then x else y) := by split <;> rfl
theorem wS_try {E0 : Errs} {C : String} : wS (sTryAs E0 C i body m env) Q E ↔ wS (body env) Q (fun x e => E0.has x.cls = true ∧ if subE x.cls C then (O.nos notFz x.xs = true ∧ i < e.length ∧ wS (sOut i (m (e.set i (some (.xn x.cls x.fs (O.ers x.xs)))))) Q E) else badE x.cls = true ∧ E x e) := by
  unfold sTryAs
  cases body env with
  | ok c e => simp
  | no => simp
  | ex x e =>
    show wS (if E0.has x.cls = true then (if subE x.cls C = true then (if (O.nos notFz x.xs && decide (i < e.length)) = true then sOut i (m (e.set i (some (.xn x.cls x.fs (O.ers x.xs))))) else .no) else (if badE x.cls = true then .ex x e else .no)) else .no) Q E ↔ _
    simp only [wS_ex]
    split
    · rename_i h
      rw [h]
      simp only [true_and]
      split
      · rename_i h2
        split
        · rename_i h3
          simp at h3
          simp [h3]
        · rename_i h3
          simp at h3
          simp
          intro q1 q2
          have := h3 q1
          omega
      · split
        · rename_i q; simp [q]
        · rename_i q; simp [q]
    · rename_i h
      simp [h]
@[simp] theorem wS_sOut {r : RS} : wS (sOut i r) Q E ↔ wS r (fun c e => nxE (e.set i none) = true ∧ (match c with | .ret o => o.nx = true | _ => True) ∧ Q c (e.set i none)) (fun _ _ => False) := by
  cases r with
  | ok c e =>
    cases c with
    | ret o =>
      show wS (if (o.nx && nxE (e.set i none)) = true then RX.ok (.ret o) (e.set i none) else .no) Q E ↔ _
      split
      · rename_i h; simp at h; simp [h]
      · rename_i h; simp at h; simp; intro q1 q2; have := h q2; rw [this] at q1; cases q1
    | next =>
      show wS (if (nxE (e.set i none)) = true then RX.ok .next (e.set i none) else .no) Q E ↔ _
      split
      · rename_i h; simp [h]
      · rename_i h; simp [h]
    | brk =>
      show wS (if (nxE (e.set i none)) = true then RX.ok .brk (e.set i none) else .no) Q E ↔ _
      split
      · rename_i h; simp [h]
      · rename_i h; simp [h]
    | cont =>
      show wS (if (nxE (e.set i none)) = true then RX.ok .cont (e.set i none) else .no) Q E ↔ _
      split
      · rename_i h; simp [h]
      · rename_i h; simp [h]
  | ex x e => exact ⟨fun h => h.out.elim, fun h => h.out.elim⟩
  | no => exact ⟨fun h => h.out.elim, fun h => h.out.elim⟩
@[simp] theorem nxE_nil : nxE [] = true := (rfl)
@[simp] theorem nxE_cons {z : Option O} {e : VEnv} : nxE (z :: e) = (nxO z && nxE e) := (rfl)
@[simp] theorem nxO_none : nxO none = true := (rfl)
@[simp] theorem nxO_some : nxO (some o) = o.nx := (rfl)
@[simp] theorem nx_lf : (O.lf k d).nx = true := (rfl)
@[simp] theorem nx_lst : (O.lst os).nx = O.nxs os := (rfl)
@[simp] theorem nx_tup : (O.tup os).nx = O.nxs os := (rfl)
@[simp] theorem nxs_nil : O.nxs [] = true := (rfl)
@[simp] theorem nxs_cons : O.nxs (o :: os) = (o.nx && O.nxs os) := (rfl)
@[simp] theorem nxs_append : O.nxs (os ++ ps) = (O.nxs os && O.nxs ps) := by simp [O.nxs_eq]
@[simp] theorem nxs_map {α : Type} {f : α → O} {xs : List α} : O.nxs (xs.map f) = xs.all fun x => (f x).nx := by rw [O.nxs_eq, List.all_map]; rfl
theorem gIsE_xn {E0 : Errs} {C D0 : String} {fs : List String} : gIsE E0 D0 (.xn C fs ds) = if E0.has C then .ok (ob (subE C D0)) else .no := (rfl)
@[simp] theorem gIsE_xn_g {E0 : Errs} {C D0 : String} {fs : List String} : gIsE E0 D0 (.xn C fs ds) = gd (E0.has C) (.ok (ob (subE C D0))) := by
  rw [gIsE_xn]
  simp only [gd_eq]
theorem gIsV_xn {E0 : Errs} {C : String} {fs : List String} : gIsV E0 (.xn C fs ds) = if E0.has C then .ok (ob true) else .no := (rfl)
@[simp] theorem gIsV_xn_g {E0 : Errs} {C : String} {fs : List String} : gIsV E0 (.xn C fs ds) = gd (E0.has C) (.ok (ob true)) := by
  rw [gIsV_xn]
  simp only [gd_eq]
theorem gIsT_xn {E0 : Errs} {C : String} {Ds fs : List String} : gIsT E0 Ds (.xn C fs ds) = if E0.has C then .ok (ob (Ds.any (subE C))) else .no := (rfl)
@[simp] theorem gIsT_xn_g {E0 : Errs} {C : String} {Ds fs : List String} : gIsT E0 Ds (.xn C fs ds) = gd (E0.has C) (.ok (ob (Ds.any (subE C)))) := by
  rw [gIsT_xn]
  simp only [gd_eq]
theorem gXf_xn {E0 : Errs} {C f : String} {fs : List String} : gXf E0 f (.xn C fs ds) = if E0.fl C f then optR ((lkD (Str.ofString f) (fs.map Str.ofString) ds).map (lfk .fz)) else .no := by
  unfold gXf
  show (if E0.fl C f = true then (match lkD (Str.ofString f) (fs.map Str.ofString) ds with
    | some d => R.ok (lfk .fz d)
    | none => .no) else .no) = _
  cases lkD (Str.ofString f) (fs.map Str.ofString) ds <;> rfl
@[simp] theorem gXf_xn_g {E0 : Errs} {C f : String} {fs : List String} : gXf E0 f (.xn C fs ds) = gd (E0.fl C f) (optR ((lkD (Str.ofString f) (fs.map Str.ofString) ds).map (lfk .fz))) := by
  rw [gXf_xn]
  simp only [gd_eq]
@[simp] theorem lkD_cons {f q : Str} {ks : List Str} : lkD f (q :: ks) (d :: ds) = if f == q then some d else lkD f ks ds := (rfl)
@[simp] theorem gIsN_ev : gIsN ma de = (ma de).bind fun o => (optR o.er.isNon).bind fun b => .ok (ob b) := by
  unfold gIsN e1
  cases ma de with
  | ok o => show _ = (optR o.er.isNon).bind _; cases h : o.er.isNon <;> simp [R.bind, h, optR]
  | ex x => rfl
  | no => rfl
@[simp] theorem gNotN_ev : gNotN ma de = (ma de).bind fun o => (optR o.er.isNon).bind fun b => .ok (ob (!b)) := by
  unfold gNotN e1
  cases ma de with
  | ok o => show _ = (optR o.er.isNon).bind _; cases h : o.er.isNon <;> simp [R.bind, h, optR]
  | ex x => rfl
  | no => rfl
@[simp] theorem isNon_non : D.non.isNon = some true := (rfl)
@[simp] theorem isNon_int : (D.int a).isNon = some false := (rfl)
@[simp] theorem isNon_lst : (D.lst ds).isNon = some false := (rfl)
@[simp] theorem isNon_tup : (D.tup ds).isNon = some false := (rfl)
@[simp] theorem isNon_str {z : Str} : (D.str z).isNon = some false := (rfl)
@[simp] theorem isNon_bl {b : Bool} : (D.bl b).isNon = some false := (rfl)
@[simp] theorem gIsi_ev {T : String} : gIsi T o = (optR (tyD o.er)).bind fun t => .ok (ob (isTy t T)) := by
  unfold gIsi
  cases tyD o.er <;> rfl
@[simp] theorem tyD_int : tyD (.int a) = some "int" := (rfl)
@[simp] theorem tyD_bl {b : Bool} : tyD (.bl b) = some "bool" := (rfl)
@[simp] theorem tyD_str {z : Str} : tyD (.str z) = some "str" := (rfl)
@[simp] theorem tyD_lst : tyD (.lst ds) = some "list" := (rfl)
@[simp] theorem tyD_tup : tyD (.tup ds) = some "tuple" := (rfl)
@[simp] theorem tyD_non : tyD .non = some "NoneType" := (rfl)
@[simp] theorem gInt_bl {b : Bool} : gInt (ob b) = .ok (oi (if b then 1 else 0)) := (rfl)
@[simp] theorem iSeqM_ev {asg : O → Asg} : iSeqM asg ma de = (ma de).bind fun o => gd ((seqF o).isSome = true) (.ok (((seqF o).getD (.tb, [])).2.map fun d => asg (lfk ((seqF o).getD (.tb, [])).1 d))) := by
  unfold iSeqM
  cases ma de with
  | ok o =>
    show (match seqF o with | some (k, ds) => R.ok (ds.map fun d => asg (lfk k d)) | none => .no) = gd ((seqF o).isSome = true) (.ok (((seqF o).getD (.tb, [])).2.map fun d => asg (lfk ((seqF o).getD (.tb, [])).1 d)))
    cases h : seqF o with
    | none => simp
    | some q => simp
  | ex x => rfl
  | no => rfl
@[simp] theorem seqF_fz_lst : seqF (.lf .fz (.lst ds)) = some (.fz, ds) := (rfl)
@[simp] theorem seqF_bo_lst : seqF (.lf .bo (.lst ds)) = some (.bo, ds) := (rfl)
@[simp] theorem seqF_fz_tup : seqF (.lf .fz (.tup ds)) = some (.fz, ds) := (rfl)
@[simp] theorem seqF_bo_tup : seqF (.lf .bo (.tup ds)) = some (.bo, ds) := (rfl)
@[simp] theorem seqF_lst : seqF (.lst os) = if O.nos notFz os then some (.fz, O.ers os) else none := by
  show (if O.nos notFz os = true then (D.lst (O.ers os)).seq.map fun ds => (Kd.fz, ds) else none) = _
  rfl
def intD : D → Option Int
  | .int n => some n
  | _ => none
@[simp] theorem intD_int : intD (.int a) = some a := (rfl)
@[simp] theorem intD_ite {c : Prop} [Decidable c] : intD (if c then .int a else .int b) = some (if c then a else b) := by split <;> rfl
theorem iR1_ev : iR1 i ma de = (ma de).bind fun o => (optR (intD o.er)).bind fun n => if -(2 ^ 62) ≤ n ∧ n < 2 ^ 62 then .ok ((List.range n.toNat).map fun (q : Nat) => setA i (oi (q : Int))) else .no := by
  unfold iR1
  cases ma de with
  | ok o =>
    show (match o.er with
      | .int n => if (decide (-(2 ^ 62) ≤ n) && decide (n < 2 ^ 62)) = true then R.ok ((List.range n.toNat).map fun (q : Nat) => setA i (.lf .fz (.int (0 + (q : Int))))) else .no
      | _ => .no) = _
    cases h : o.er <;> simp [h, intD, optR, R.bind]
  | ex x => rfl
  | no => rfl
@[simp] theorem iR1_ev_g : iR1 i ma de = (ma de).bind fun o => (optR (intD o.er)).bind fun n => gd (-(2 ^ 62) ≤ n ∧ n < 2 ^ 62) (.ok ((List.range n.toNat).map fun (q : Nat) => setA i (oi (q : Int)))) := by
  rw [iR1_ev]
  simp only [gd_eq]
theorem iR2_ev : iR2 i ma mb de = (ma de).bind fun o => (mb de).bind fun p => (optR (intD o.er)).bind fun l => (optR (intD p.er)).bind fun r => if -(2 ^ 62) ≤ l ∧ l < 2 ^ 62 ∧ -(2 ^ 62) ≤ r ∧ r < 2 ^ 62 then .ok ((List.range (r - l).toNat).map fun (z : Nat) => setA i (oi (l + (z : Int)))) else .no := by
  unfold iR2
  cases ma de with
  | ok o =>
    cases mb de with
    | ok p =>
      simp only [bind_ok]
      cases h : o.er <;> cases h2 : p.er <;> simp [h, h2, intD, R.bind, optR, and_assoc]
    | ex x => rfl
    | no => rfl
  | ex x => rfl
  | no => rfl
@[simp] theorem iR2_ev_g : iR2 i ma mb de = (ma de).bind fun o => (mb de).bind fun p => (optR (intD o.er)).bind fun l => (optR (intD p.er)).bind fun r => gd (-(2 ^ 62) ≤ l ∧ l < 2 ^ 62 ∧ -(2 ^ 62) ≤ r ∧ r < 2 ^ 62) (.ok ((List.range (r - l).toNat).map fun (z : Nat) => setA i (oi (l + (z : Int))))) := by
  rw [iR2_ev]
  simp only [gd_eq]
@[simp] theorem iEnM_ev {js : List Nat} : iEnM js ma de = (ma de).bind fun o => gd ((seqF o).isSome = true ∧ o.er.isL = true) (.ok (((seqF o).getD (.tb, [])).2.mapIdx fun i d => setL js [oi (i : Nat), lfk ((seqF o).getD (.tb, [])).1 d])) := by
  unfold iEnM
  cases ma de with
  | ok o =>
    show (match seqF o, o.er.isL with
      | some (k, ds), true => R.ok (ds.mapIdx fun i d => setL js [.lf .fz (.int (i : Nat)), lfk k d])
      | _, _ => .no) = gd ((seqF o).isSome = true ∧ o.er.isL = true) (.ok (((seqF o).getD (.tb, [])).2.mapIdx fun i d => setL js [oi (i : Nat), lfk ((seqF o).getD (.tb, [])).1 d]))
    cases h : seqF o with
    | none => simp
    | some q =>
      obtain ⟨k, ds⟩ := q
      cases h2 : o.er.isL <;> simp
  | ex x => rfl
  | no => rfl
@[simp] theorem setL_nil : setL [] [] env = some env := (rfl)
@[simp] theorem setL_cons {js : List Nat} : setL (j :: js) (o :: os) env = if j < env.length then setL js os (env.set j (some o)) else none := (rfl)
@[simp] theorem setT_lf {js : List Nat} : setT js (.lf k (.tup ds)) env = setL js (ds.map (lfk k)) env := (rfl)
@[simp] theorem wX_app {P : O → VEnv → Prop} : wX (xApp (pName i) ma env) P E ↔ ∃ os, env[i]? = some (some (.lst os)) ∧ wR (ma (dl env)) (fun o => o.no isTb = true ∧ os.length + 1 ≤ 16777216 ∧ P (.lf .fz .non) (env.set i (some (.lst (os ++ [o]))))) (fun x => O.nos isTb x.xs = true ∧ E x env) := by
  unfold xApp pName
  cases h : env[i]? with
  | none => simp
  | some z =>
    cases z with
    | none => simp
    | some o =>
      have e2 : getP env i [] = some o := by unfold getP; rw [h]; rfl
      have e3 : ∀ s, setP env i [] s = env.set i (some s) := fun s => by unfold setP; rw [h]; rfl
      simp only [e2, e3, Option.some.injEq]
      cases o with
      | lst os =>
        simp only [O.lst.injEq, exists_eq_left']
        cases ma (dl env) with
        | ok o =>
          simp only [wR_ok]
          show wX (if (o.no isTb && szOk (os.length + 1)) = true then RX.ok (.lf .fz .non) (env.set i (some (.lst (os ++ [o])))) else .no) P E ↔ _
          split
          · rename_i q; simp at q; simp [q]
          · rename_i q; simp at q; simp; intro q1 q2; have := q q1; omega
        | ex x =>
          simp only [wR_ex]
          show wX (if O.nos isTb x.xs = true then .ex x env else .no) P E ↔ _
          split
          · rename_i q; simp [q, wX]
          · rename_i q; simp [q]
        | no => simp
      | _ => simp
theorem ixN_nat {l : Nat} : ixN l (n : Int) = if n < l then some n else none := by
  unfold ixN
  by_cases h : n < l
  · simp [h]
  · simp [h]
@[simp] theorem wS_ext : wS (sExt i me env) Q E ↔ ∃ os, env[i]? = some (some (.lst os)) ∧ wR (me (dl env)) (fun o => ∃ ps, elems o = some ps ∧ o.er.isL = true ∧ O.nos isTb ps = true ∧ o.no isTb = true ∧ os.length + ps.length ≤ 16777216 ∧ Q .next (env.set i (some (.lst (os ++ ps))))) (fun x => O.nos isTb x.xs = true ∧ E x env) := by
  unfold sExt
  cases h : env[i]? with
  | none => simp
  | some z =>
    cases z with
    | none => simp
    | some o =>
      cases o with
      | lst os =>
        simp only [Option.some.injEq, O.lst.injEq, exists_eq_left']
        cases me (dl env) with
        | ok o =>
          simp only [wR_ok]
          cases elems o with
          | none => simp
          | some ps =>
            simp only [Option.some.injEq, exists_eq_left']
            split
            · rename_i q; simp at q; simp [q]
            · rename_i q; simp at q; simp; intro q1 q2 q3 q4; have := q q1 q2 q3; omega
        | ex x =>
          simp only [wR_ex]
          split
          · rename_i q; simp [q]
          · rename_i q; simp [q]
        | no => simp
      | _ => simp
@[simp] theorem wS_aug {fn : Int → Int → Int} : wS (sAug fn i me env) Q E ↔ ∃ k q, env[i]? = some (some (.lf k (.int q))) ∧ wR (me (dl env)) (fun o => ∃ w, o.er = .int w ∧ Q .next (env.set i (some (oi (fn q w))))) (fun _ => False) := by
  unfold sAug
  cases h : env[i]? with
  | none => simp
  | some z =>
    cases z with
    | none => simp
    | some o =>
      cases o with
      | lf k d =>
        cases d with
        | int q =>
          simp only [Option.some.injEq, O.lf.injEq, D.int.injEq]
          cases me (dl env) with
          | ok o =>
            cases h2 : o.er <;> simp [h2]
            constructor
            · intro h; exact ⟨_, _, ⟨rfl, rfl⟩, h⟩
            · rintro ⟨_, _, ⟨rfl, rfl⟩, h⟩; exact h
          | ex x => simp
          | no => simp
        | _ => simp
      | _ => simp
end
mutual
/-- plain data without bools, no deeper than n -/
def D.pl : Nat → D → Bool
  | _, .non => true
  | _, .int _ => true
  | _, .str z => PySem.PyData.strOk z
  | 0, _ => false
  | n + 1, .lst xs => D.pls n xs
  | n + 1, .tup xs => D.pls n xs
  | _, _ => false
def D.pls : Nat → List D → Bool
  | _, [] => true
  | n, d :: ds => d.pl n && D.pls n ds
end
theorem D.pls_eq {n : Nat} {ds : List D} : D.pls n ds = ds.all (D.pl n) := by
  induction ds with
  | nil => simp [D.pls]
  | cons d ds ih => simp [D.pls, ih]
noncomputable instance instDecEqD : DecidableEq D := fun _ _ => Classical.propDecidable _
mutual
theorem pl_py : ∀ {n : Nat} {d : D}, d.pl n = true → ∃ p, d.py = some p ∧ p.canLay0 = true ∧ p.depth ≤ n
  | n, .non, h => ⟨.none, by simp only [D.py], rfl, by simp [PyData.depth]⟩
  | n, .int i, h => ⟨.int i, by simp only [D.py], rfl, by simp [PyData.depth]⟩
  | n, .str z, h => ⟨.str z, by simp only [D.py], by cases n <;> simpa [D.pl, PyData.canLay0] using h, by simp [PyData.depth]⟩
  | 0, .lst xs, h => by simp [D.pl] at h
  | 0, .tup xs, h => by simp [D.pl] at h
  | 0, .bl b, h => by simp [D.pl] at h
  | n + 1, .bl b, h => by simp [D.pl] at h
  | 0, .dct _ _, h => by simp [D.pl] at h
  | n + 1, .dct _ _, h => by simp [D.pl] at h
  | 0, .dcT _ _, h => by simp [D.pl] at h
  | n + 1, .dcT _ _, h => by simp [D.pl] at h
  | 0, .obj _ _ _, h => by simp [D.pl] at h
  | n + 1, .obj _ _ _, h => by simp [D.pl] at h
  | 0, .scr _, h => by simp [D.pl] at h
  | n + 1, .scr _, h => by simp [D.pl] at h
  | 0, .kt, h => by simp [D.pl] at h
  | 0, .opq, h => by simp [D.pl] at h
  | n + 1, .kt, h => by simp [D.pl] at h
  | n + 1, .opq, h => by simp [D.pl] at h
  | n + 1, .lst xs, h => by
    simp only [D.pl] at h
    obtain ⟨ps, h1, h2, h3⟩ := pls_py h
    exact ⟨.list ps, by simp [D.py, h1], by simp [PyData.canLay0, h2], by simp [PyData.depth]; omega⟩
  | n + 1, .tup xs, h => by
    simp only [D.pl] at h
    obtain ⟨ps, h1, h2, h3⟩ := pls_py h
    exact ⟨.tuple ps, by simp [D.py, h1], by simp [PyData.canLay0, h2], by simp [PyData.depth]; omega⟩
theorem pls_py : ∀ {n : Nat} {ds : List D}, D.pls n ds = true → ∃ ps, D.pys ds = some ps ∧ PyData.canLayAll0 ps = true ∧ PyData.depthAll ps ≤ n
  | n, [], h => ⟨[], by simp only [D.pys], rfl, by simp [PyData.depthAll]⟩
  | n, d :: ds, h => by
    simp only [D.pls, Bool.and_eq_true] at h
    obtain ⟨p, h1, h2, h3⟩ := pl_py h.1
    obtain ⟨ps, h4, h5, h6⟩ := pls_py h.2
    exact ⟨p :: ps, by simp [D.pys, h1, h4], by simp [PyData.canLayAll0, h2, h5], by simp [PyData.depthAll]; omega⟩
end
mutual
theorem pl_eqv : ∀ {n : Nat} {x y : D} {p q : PyData}, x.pl n = true → y.pl n = true → x.py = some p → y.py = some q → PyData.eqv p q = decide (x = y)
  | n, x, .bl b, p, q, hx, hy, ex, ey => by cases n <;> simp [D.pl] at hy
  | n, x, .dct _ _, p, q, hx, hy, ex, ey => by cases n <;> simp [D.pl] at hy
  | n, x, .dcT _ _, p, q, hx, hy, ex, ey => by cases n <;> simp [D.pl] at hy
  | n, x, .obj _ _ _, p, q, hx, hy, ex, ey => by cases n <;> simp [D.pl] at hy
  | n, x, .scr _, p, q, hx, hy, ex, ey => by cases n <;> simp [D.pl] at hy
  | n, x, .kt, p, q, hx, hy, ex, ey => by cases n <;> simp [D.pl] at hy
  | n, x, .opq, p, q, hx, hy, ex, ey => by cases n <;> simp [D.pl] at hy
  | n, .bl b, y, p, q, hx, hy, ex, ey => by cases n <;> simp [D.pl] at hx
  | n, .dct _ _, y, p, q, hx, hy, ex, ey => by cases n <;> simp [D.pl] at hx
  | n, .dcT _ _, y, p, q, hx, hy, ex, ey => by cases n <;> simp [D.pl] at hx
  | n, .obj _ _ _, y, p, q, hx, hy, ex, ey => by cases n <;> simp [D.pl] at hx
  | n, .scr _, y, p, q, hx, hy, ex, ey => by cases n <;> simp [D.pl] at hx
  | n, .kt, y, p, q, hx, hy, ex, ey => by cases n <;> simp [D.pl] at hx
  | n, .opq, y, p, q, hx, hy, ex, ey => by cases n <;> simp [D.pl] at hx
  | n, .non, .non, p, q, hx, hy, ex, ey => by simp only [D.py] at ex ey; cases ex; cases ey; simp [PyData.eqv]
  | n, .non, .int _, p, q, hx, hy, ex, ey => by simp only [D.py] at ex ey; cases ex; cases ey; simp [PyData.eqv]
  | n, .non, .str _, p, q, hx, hy, ex, ey => by simp only [D.py] at ex ey; cases ex; cases ey; simp [PyData.eqv]
  | n, .int _, .non, p, q, hx, hy, ex, ey => by simp only [D.py] at ex ey; cases ex; cases ey; simp [PyData.eqv]
  | n, .int a, .int b, p, q, hx, hy, ex, ey => by
    simp only [D.py] at ex ey; cases ex; cases ey
    by_cases h : a = b
    · subst h; simp [PyData.eqv]
    · simp [PyData.eqv, h]
  | n, .int _, .str _, p, q, hx, hy, ex, ey => by simp only [D.py] at ex ey; cases ex; cases ey; simp [PyData.eqv]
  | n, .str _, .non, p, q, hx, hy, ex, ey => by simp only [D.py] at ex ey; cases ex; cases ey; simp [PyData.eqv]
  | n, .str _, .int _, p, q, hx, hy, ex, ey => by simp only [D.py] at ex ey; cases ex; cases ey; simp [PyData.eqv]
  | n, .str a, .str b, p, q, hx, hy, ex, ey => by
    simp only [D.py] at ex ey; cases ex; cases ey
    by_cases h : a = b
    · subst h; simp [PyData.eqv]
    · simp [PyData.eqv, h]
  | 0, .lst _, y, p, q, hx, hy, ex, ey => by simp [D.pl] at hx
  | 0, .tup _, y, p, q, hx, hy, ex, ey => by simp [D.pl] at hx
  | 0, x, .lst _, p, q, hx, hy, ex, ey => by simp [D.pl] at hy
  | 0, x, .tup _, p, q, hx, hy, ex, ey => by simp [D.pl] at hy
  | n + 1, .lst xs, .non, p, q, hx, hy, ex, ey => by
    simp only [D.py, Option.map_eq_some_iff] at ex ey; obtain ⟨ps, _, rfl⟩ := ex; cases ey; simp [PyData.eqv]
  | n + 1, .lst xs, .int _, p, q, hx, hy, ex, ey => by
    simp only [D.py, Option.map_eq_some_iff] at ex ey; obtain ⟨ps, _, rfl⟩ := ex; cases ey; simp [PyData.eqv]
  | n + 1, .lst xs, .str _, p, q, hx, hy, ex, ey => by
    simp only [D.py, Option.map_eq_some_iff] at ex ey; obtain ⟨ps, _, rfl⟩ := ex; cases ey; simp [PyData.eqv]
  | n + 1, .tup xs, .non, p, q, hx, hy, ex, ey => by
    simp only [D.py, Option.map_eq_some_iff] at ex ey; obtain ⟨ps, _, rfl⟩ := ex; cases ey; simp [PyData.eqv]
  | n + 1, .tup xs, .int _, p, q, hx, hy, ex, ey => by
    simp only [D.py, Option.map_eq_some_iff] at ex ey; obtain ⟨ps, _, rfl⟩ := ex; cases ey; simp [PyData.eqv]
  | n + 1, .tup xs, .str _, p, q, hx, hy, ex, ey => by
    simp only [D.py, Option.map_eq_some_iff] at ex ey; obtain ⟨ps, _, rfl⟩ := ex; cases ey; simp [PyData.eqv]
  | n + 1, .non, .lst xs, p, q, hx, hy, ex, ey => by
    simp only [D.py, Option.map_eq_some_iff] at ex ey; obtain ⟨ps, _, rfl⟩ := ey; cases ex; simp [PyData.eqv]
  | n + 1, .int _, .lst xs, p, q, hx, hy, ex, ey => by
    simp only [D.py, Option.map_eq_some_iff] at ex ey; obtain ⟨ps, _, rfl⟩ := ey; cases ex; simp [PyData.eqv]
  | n + 1, .str _, .lst xs, p, q, hx, hy, ex, ey => by
    simp only [D.py, Option.map_eq_some_iff] at ex ey; obtain ⟨ps, _, rfl⟩ := ey; cases ex; simp [PyData.eqv]
  | n + 1, .non, .tup xs, p, q, hx, hy, ex, ey => by
    simp only [D.py, Option.map_eq_some_iff] at ex ey; obtain ⟨ps, _, rfl⟩ := ey; cases ex; simp [PyData.eqv]
  | n + 1, .int _, .tup xs, p, q, hx, hy, ex, ey => by
    simp only [D.py, Option.map_eq_some_iff] at ex ey; obtain ⟨ps, _, rfl⟩ := ey; cases ex; simp [PyData.eqv]
  | n + 1, .str _, .tup xs, p, q, hx, hy, ex, ey => by
    simp only [D.py, Option.map_eq_some_iff] at ex ey; obtain ⟨ps, _, rfl⟩ := ey; cases ex; simp [PyData.eqv]
  | n + 1, .lst xs, .tup ys, p, q, hx, hy, ex, ey => by
    simp only [D.py, Option.map_eq_some_iff] at ex ey; obtain ⟨ps, _, rfl⟩ := ey; obtain ⟨ps2, _, rfl⟩ := ex; simp [PyData.eqv]
  | n + 1, .tup xs, .lst ys, p, q, hx, hy, ex, ey => by
    simp only [D.py, Option.map_eq_some_iff] at ex ey; obtain ⟨ps, _, rfl⟩ := ey; obtain ⟨ps2, _, rfl⟩ := ex; simp [PyData.eqv]
  | n + 1, .lst xs, .lst ys, p, q, hx, hy, ex, ey => by
    simp only [D.py, Option.map_eq_some_iff] at ex ey; obtain ⟨ps, e1, rfl⟩ := ex; obtain ⟨qs, e2, rfl⟩ := ey
    simp only [D.pl] at hx hy
    show PyData.eqvAll ps qs = _
    rw [pls_eqv hx hy e1 e2]; simp
  | n + 1, .tup xs, .tup ys, p, q, hx, hy, ex, ey => by
    simp only [D.py, Option.map_eq_some_iff] at ex ey; obtain ⟨ps, e1, rfl⟩ := ex; obtain ⟨qs, e2, rfl⟩ := ey
    simp only [D.pl] at hx hy
    show PyData.eqvAll ps qs = _
    rw [pls_eqv hx hy e1 e2]; simp
theorem pls_eqv : ∀ {n : Nat} {xs ys : List D} {ps qs : List PyData}, D.pls n xs = true → D.pls n ys = true → D.pys xs = some ps → D.pys ys = some qs → PyData.eqvAll ps qs = decide (xs = ys)
  | n, [], [], ps, qs, hx, hy, ex, ey => by simp only [D.pys] at ex ey; cases ex; cases ey; simp [PyData.eqvAll]
  | n, [], y :: ys, ps, qs, hx, hy, ex, ey => by
    simp only [D.pys] at ex ey; cases ex
    split at ey
    · cases ey; simp [PyData.eqvAll]
    · cases ey
  | n, x :: xs, [], ps, qs, hx, hy, ex, ey => by
    simp only [D.pys] at ex ey; cases ey
    split at ex
    · cases ex; simp [PyData.eqvAll]
    · cases ex
  | n, x :: xs, y :: ys, ps, qs, hx, hy, ex, ey => by
    simp only [D.pys] at ex ey
    simp only [D.pls, Bool.and_eq_true] at hx hy
    split at ex
    · rename_i p1 ps1 e1 e2
      cases ex
      split at ey
      · rename_i q1 qs1 e3 e4
        cases ey
        simp only [PyData.eqvAll]
        rw [pl_eqv hx.1 hy.1 e1 e3, pls_eqv hx.2 hy.2 e2 e4]
        by_cases h1 : x = y
        · by_cases h2 : xs = ys
          · simp [h1, h2]
          · simp [h1, h2]
        · simp [h1]
      · cases ey
    · cases ex
end
theorem eqD_pl {x y : D} (hx : x.pl 60 = true) (hy : y.pl 60 = true) : eqD x y = some (decide (x = y)) := by
  obtain ⟨p, e1, c1, d1⟩ := pl_py hx
  obtain ⟨q, e2, c2, d2⟩ := pl_py hy
  unfold eqD
  rw [e1, e2]
  have s1 : SeqAt.shaped p = true := by unfold SeqAt.shaped; rw [c1, Bool.true_and]; exact decide_eq_true (by omega)
  have s2 : SeqAt.shaped q = true := by unfold SeqAt.shaped; rw [c2, Bool.true_and]; exact decide_eq_true (by omega)
  simp only [s1, s2, Bool.and_self, if_true, Option.some.injEq]
  exact pl_eqv hx hy e1 e2
section
variable {n : Nat} {o p : O} {ds : List D}
@[simp] theorem pl_int {a : Int} : (D.int a).pl n = true := by cases n <;> simp [D.pl]
@[simp] theorem pl_str {a : Str} : (D.str a).pl n = PySem.PyData.strOk a := by cases n <;> simp [D.pl]
@[simp] theorem pl_non : D.non.pl n = true := by cases n <;> simp [D.pl]
@[simp] theorem pl_lst : (D.lst ds).pl n = (decide (0 < n) && D.pls (n - 1) ds) := by cases n <;> simp [D.pl]
@[simp] theorem pl_tup : (D.tup ds).pl n = (decide (0 < n) && D.pls (n - 1) ds) := by cases n <;> simp [D.pl]
@[simp] theorem pls_nil : D.pls n [] = true := by simp [D.pls]
@[simp] theorem pls_cons {d : D} : D.pls n (d :: ds) = (d.pl n && D.pls n ds) := by simp [D.pls]
@[simp] theorem pls_append {ds' : List D} : D.pls n (ds ++ ds') = (D.pls n ds && D.pls n ds') := by simp [D.pls_eq]
@[simp] theorem pls_map {α : Type} {f : α → D} {xs : List α} : D.pls n (xs.map f) = xs.all fun x => (f x).pl n := by rw [D.pls_eq, List.all_map]; rfl
@[simp] theorem gEq_pl (h1 : o.er.pl 60 = true) (h2 : p.er.pl 60 = true) : gEq o p = .ok (ob (decide (o.er = p.er))) := by
  unfold gEq; rw [eqD_pl h1 h2]
@[simp] theorem gNe_pl (h1 : o.er.pl 60 = true) (h2 : p.er.pl 60 = true) : gNe o p = .ok (ob (!decide (o.er = p.er))) := by
  unfold gNe; rw [eqD_pl h1 h2]
end
end VL
namespace VL
open PySem PySem.Spec PyProof.Rows L2
section
variable {α β : Type} {env : VEnv} {e de : DEnv} {n i j : Nat} {k : Kd} {d : D} {ds : List D} {o p : O} {os : List O} {a b : Int} {ma mb me : DEnv → R O} {t : DEnv → R Bool} {asg : O → AsgE} {fl : Bool} {x : Exn} {E : Exn → Prop}
@[simp] theorem dl_len : (dl env).length = env.length := by unfold dl; rw [List.length_map]
@[simp] theorem wipeE_nil : wipeE e [] = e := (rfl)
@[simp] theorem wipeE_cons {vs : List Nat} {v : Nat} : wipeE e (v :: vs) = (wipeE e vs).set v none := (rfl)
@[simp] theorem lentO_lf : lentO (.lf k d) = .lf k d := (rfl)
@[simp] theorem lentO_lst : lentO (.lst os) = .lf .tb (.lst (O.ers os)) := (rfl)
@[simp] theorem lentO_tup : lentO (.tup os) = .lf .tb (.tup (O.ers os)) := (rfl)
@[simp] theorem lentO_lfk : lentO (lfk k d) = lfk k d := by unfold lfk; split <;> rfl
@[simp] theorem asgN_ev : asgN j o e = some (e.set j (some (lentO o))) := (rfl)
@[simp] theorem asgL_nil : asgL [] [] e = some e := (rfl)
@[simp] theorem asgL_cons {js : List Nat} : asgL (j :: js) (o :: os) e = asgL js os (e.set j (some (lentO o))) := (rfl)
@[simp] theorem asgT_lf {js : List Nat} : asgT js (.lf k (.tup ds)) e = asgL js (ds.map (lfk k)) e := (rfl)
@[simp] theorem asgT_tup {js : List Nat} : asgT js (.tup os) e = asgL js os e := (rfl)
theorem eVar_setN {z : Option O} : eVar i (e.set j z) = if i = j then (if i < e.length then (match z with
    | some (.lf k d) => .ok (lfk k d)
    | some (.xn C fs ds) => .ok (.xn C fs ds)
    | _ => .no) else .no) else eVar i e := by
  unfold eVar
  rw [List.getElem?_set]
  by_cases h : i = j
  · subst h
    simp only [if_true]
    by_cases h2 : i < e.length
    · rw [if_pos h2, if_pos h2]
      cases z with
      | none => rfl
      | some o => cases o <;> rfl
    · rw [if_neg h2, if_neg h2]
  · rw [if_neg (Ne.symm h), if_neg h]
@[simp] theorem eVar_set_none : eVar i (e.set j none) = if i = j then .no else eVar i e := by
  rw [eVar_setN]
  split
  · split <;> rfl
  · rfl
@[simp] theorem eVar_set_lf : eVar i (e.set j (some (.lf k d))) = if i = j then (if i < e.length then .ok (lfk k d) else .no) else eVar i e := eVar_setN
@[simp] theorem eVar_set_lfk : eVar i (e.set j (some (lfk k d))) = if i = j then (if i < e.length then .ok (lfk k d) else .no) else eVar i e := by
  unfold lfk
  split
  · rename_i h
    rw [eVar_set_lf, lfk_fz]
  · rename_i h
    rw [eVar_set_lf]
    unfold lfk
    rw [if_neg h]
@[simp] theorem seqE_lf_lst : seqE (.lf k (.lst ds)) = some (true, k, ds) := (rfl)
@[simp] theorem seqE_lf_tup : seqE (.lf k (.tup ds)) = some (true, k, ds) := (rfl)
@[simp] theorem seqE_lst : seqE (.lst os) = some (false, .tb, O.ers os) := (rfl)
@[simp] theorem seqE_tup : seqE (.tup os) = some (false, .tb, O.ers os) := (rfl)
@[simp] theorem jSq_ev : jSq ma de = (ma de).bind fun o => gd ((seqE o).isSome = true) (.ok (((seqE o).getD (false, .tb, [])).1, ((seqE o).getD (false, .tb, [])).2.2.map (lfk ((seqE o).getD (false, .tb, [])).2.1))) := by
  unfold jSq
  cases ma de with
  | ok o =>
    show (match seqE o with | some (fl, k, ds) => R.ok (fl, ds.map (lfk k)) | none => .no) = gd ((seqE o).isSome = true) (.ok (((seqE o).getD (false, .tb, [])).1, ((seqE o).getD (false, .tb, [])).2.2.map (lfk ((seqE o).getD (false, .tb, [])).2.1)))
    cases h : seqE o with
    | none => simp
    | some q => simp
  | ex x => rfl
  | no => rfl
theorem jR1_ev : jR1 ma de = (ma de).bind fun o => (optR (intD o.er)).bind fun n => if -(2 ^ 62) ≤ n ∧ n < 2 ^ 62 then .ok (true, (List.range n.toNat).map fun (q : Nat) => oi (q : Int)) else .no := by
  unfold jR1
  cases ma de with
  | ok o =>
    show (match o.er with
      | .int n => if (decide (-(2 ^ 62) ≤ n) && decide (n < 2 ^ 62)) = true then R.ok (true, (List.range n.toNat).map fun (q : Nat) => O.lf .fz (.int (0 + (q : Int)))) else .no
      | _ => .no) = _
    cases h : o.er <;> simp [h, intD, optR, R.bind]
  | ex x => rfl
  | no => rfl
@[simp] theorem jR1_ev_g : jR1 ma de = (ma de).bind fun o => (optR (intD o.er)).bind fun n => gd (-(2 ^ 62) ≤ n ∧ n < 2 ^ 62) (.ok (true, (List.range n.toNat).map fun (q : Nat) => oi (q : Int))) := by
  rw [jR1_ev]
  simp only [gd_eq]
theorem jR2_ev : jR2 ma mb de = (ma de).bind fun o => (mb de).bind fun p => (optR (intD o.er)).bind fun l => (optR (intD p.er)).bind fun r => if -(2 ^ 62) ≤ l ∧ l < 2 ^ 62 ∧ -(2 ^ 62) ≤ r ∧ r < 2 ^ 62 then .ok (true, (List.range (r - l).toNat).map fun (z : Nat) => oi (l + (z : Int))) else .no := by
  unfold jR2
  cases ma de with
  | ok o =>
    cases mb de with
    | ok p =>
      simp only [bind_ok]
      cases h : o.er <;> cases h2 : p.er <;> simp [h, h2, intD, R.bind, optR, and_assoc]
    | ex x => rfl
    | no => rfl
  | ex x => rfl
  | no => rfl
@[simp] theorem jR2_ev_g : jR2 ma mb de = (ma de).bind fun o => (mb de).bind fun p => (optR (intD o.er)).bind fun l => (optR (intD p.er)).bind fun r => gd (-(2 ^ 62) ≤ l ∧ l < 2 ^ 62 ∧ -(2 ^ 62) ≤ r ∧ r < 2 ^ 62) (.ok (true, (List.range (r - l).toNat).map fun (z : Nat) => oi (l + (z : Int)))) := by
  rw [jR2_ev]
  simp only [gd_eq]
theorem gLc_ev {vs : List Nat} {src : DEnv → R (Bool × List O)} : gLc vs src asg t me de = (src de).bind fun q => if q.2.length ≤ 16777216 then (lcL q.1 asg t me (wipeE de vs) q.2).bind fun os => .ok (.lst os) else .no := by
  unfold gLc
  simp
@[simp] theorem gLc_ev_g {vs : List Nat} {src : DEnv → R (Bool × List O)} : gLc vs src asg t me de = (src de).bind fun q => gd (q.2.length ≤ 16777216) ((lcL q.1 asg t me (wipeE de vs) q.2).bind fun os => .ok (.lst os)) := by
  rw [gLc_ev]
  simp only [gd_eq]
@[simp high] theorem ers_oi' {ns : List Int} : O.ers (ns.map oi) = ns.map D.int := ers_oi
@[simp high] theorem ers_lfk' {k : Kd} {ds : List D} : O.ers (ds.map (lfk k)) = ds := by
  rw [O.ers_eq, List.map_map]
  have : (O.er ∘ lfk k) = id := funext fun d => lfk_er k d
  rw [this, List.map_id]
@[simp high] theorem ers_lfk'' {k : Kd} {f : α → D} {xs : List α} : O.ers (xs.map (lfk k ∘ f)) = xs.map f := by
  rw [← List.map_map, ers_lfk']
@[simp] theorem lfk_comp_int {k : Kd} : (lfk k ∘ D.int) = oi := (rfl)
@[simp] theorem ers_rep : O.ers (List.replicate n o) = List.replicate n o.er := by rw [O.ers_eq, List.map_replicate]
@[simp] theorem owns_rep : O.owns (List.replicate n o) = (decide (n = 0) || o.own) := by
  rw [O.owns_eq]
  induction n with
  | zero => rfl
  | succ n ih => rw [List.replicate_succ, List.all_cons, ih]; cases o.own <;> simp
@[simp] theorem lcL_nil : lcL fl asg t me e [] = .ok [] := (rfl)
theorem lcL_cons {r : List O} : lcL fl asg t me e (o :: r) = (optR (asg o e)).bind fun e1 => (match t e1 with
      | .ok false => lcL fl asg t me e r
      | .ok true => (match me e1 with
        | .ok y => if y.own || fl then (lcL fl asg t me e r).bind fun ys => R.ok (y :: ys) else R.no
        | _ => R.no)
      | _ => R.no : R (List O)) := by
  show (match asg o e with
    | none => .no
    | some e => match t e with
      | .ok false => lcL fl asg t me _ r
      | .ok true => match me e with
        | .ok y => if y.own || fl then (lcL fl asg t me _ r).bind fun ys => .ok (y :: ys) else .no
        | _ => .no
      | _ => .no : R (List O)) = _
  cases asg o e <;> rfl
def lcF (fl : Bool) (t : α → R Bool) (m : α → R O) : List α → R (List O)
  | [] => .ok []
  | x :: r => match t x with
      | .ok false => lcF fl t m r
      | .ok true => (match m x with
        | .ok y => if y.own || fl then (lcF fl t m r).bind fun ys => .ok (y :: ys) else .no
        | _ => .no)
      | _ => .no
@[simp] theorem lcL_lcF {xs : List α} {φ : α → O} : lcL fl asg t me e (xs.map φ) = lcF fl (fun x => (optR (asg (φ x) e)).bind t) (fun x => (optR (asg (φ x) e)).bind me) xs := by
  induction xs with
  | nil => rfl
  | cons x r ih =>
    rw [List.map_cons, lcL_cons, ih]
    show _ = (match (optR (asg (φ x) e)).bind t with
      | .ok false => lcF fl (fun x => (optR (asg (φ x) e)).bind t) (fun x => (optR (asg (φ x) e)).bind me) r
      | .ok true => (match (optR (asg (φ x) e)).bind me with
        | .ok y => if y.own || fl then (lcF fl (fun x => (optR (asg (φ x) e)).bind t) (fun x => (optR (asg (φ x) e)).bind me) r).bind fun ys => .ok (y :: ys) else .no
        | _ => .no)
      | _ => .no : R (List O))
    cases asg (φ x) e <;> rfl
theorem lcF_gen {q : α → Bool} {c : α → Prop} {g : α → O} {xs : List α} : lcF fl (fun x => .ok (q x)) (fun x => gd (c x) (.ok (g x))) xs = gd (∀ x ∈ xs, q x = true → c x ∧ ((g x).own || fl) = true) (.ok ((xs.filter q).map g)) := by
  induction xs with
  | nil => rw [gd_pos (by simp)]; rfl
  | cons x r ih =>
    show (match (R.ok (q x) : R Bool) with
      | .ok false => lcF fl (fun x => .ok (q x)) (fun x => gd (c x) (.ok (g x))) r
      | .ok true => (match gd (c x) (.ok (g x)) with
        | .ok y => if y.own || fl then (lcF fl (fun x => .ok (q x)) (fun x => gd (c x) (.ok (g x))) r).bind fun ys => .ok (y :: ys) else .no
        | _ => .no)
      | _ => .no : R (List O)) = _
    cases hq : q x with
    | false =>
      simp only []
      rw [ih, List.filter_cons_of_neg (by simp [hq])]
      congr 1
      simp [hq]
    | true =>
      simp only []
      rw [List.filter_cons_of_pos hq]
      by_cases hc : c x
      · rw [gd_pos hc]
        by_cases ho : ((g x).own || fl) = true
        · simp only [ho, if_true]
          rw [ih, bind_gd]
          congr 1
          simp only [List.mem_cons, forall_eq_or_imp, hq, hc, ho, true_and, forall_const, and_self]
        · simp only [ho]
          rw [gd_neg (fun z => ho (z x List.mem_cons_self hq).2)]
          rfl
      · rw [gd_neg hc, gd_neg (fun z => hc (z x List.mem_cons_self hq).1)]
@[simp] theorem lcF_1 {q : α → Bool} {g : α → O} {xs : List α} : lcF fl (fun x => .ok (q x)) (fun x => .ok (g x)) xs = gd (∀ x ∈ xs, q x = true → ((g x).own || fl) = true) (.ok ((xs.filter q).map g)) := by
  have := lcF_gen (fl := fl) (q := q) (c := fun _ => True) (g := g) (xs := xs)
  simpa using this
@[simp] theorem lcF_2 {q : α → Bool} {c : α → Prop} {g : α → O} {xs : List α} : lcF fl (fun x => .ok (q x)) (fun x => gd (c x) (.ok (g x))) xs = gd (∀ x ∈ xs, q x = true → c x ∧ ((g x).own || fl) = true) (.ok ((xs.filter q).map g)) := lcF_gen
@[simp high] theorem lcF_3 {g : α → O} {xs : List α} : lcF fl (fun _ => .ok true) (fun x => .ok (g x)) xs = gd (∀ x ∈ xs, ((g x).own || fl) = true) (.ok (xs.map g)) := by
  have := lcF_gen (fl := fl) (q := fun _ => true) (c := fun _ => True) (g := g) (xs := xs)
  rw [show xs.filter (fun _ => true) = xs from List.filter_eq_self.mpr fun _ _ => rfl] at this
  simpa using this
@[simp high] theorem lcF_4 {c : α → Prop} {g : α → O} {xs : List α} : lcF fl (fun _ => .ok true) (fun x => gd (c x) (.ok (g x))) xs = gd (∀ x ∈ xs, c x ∧ ((g x).own || fl) = true) (.ok (xs.map g)) := by
  have := lcF_gen (fl := fl) (q := fun _ => true) (c := c) (g := g) (xs := xs)
  rw [show xs.filter (fun _ => true) = xs from List.filter_eq_self.mpr fun _ _ => rfl] at this
  simpa using this
theorem lcF_of {t : α → R Bool} {m : α → R O} {xs : List α} (q : α → Bool) (g : α → O) (ht : ∀ x ∈ xs, t x = .ok (q x)) (hm : ∀ x ∈ xs, q x = true → m x = .ok (g x)) (ho : ∀ x ∈ xs, q x = true → ((g x).own || fl) = true) : lcF fl t m xs = .ok ((xs.filter q).map g) := by
  induction xs with
  | nil => rfl
  | cons x r ih =>
    have ih := ih (fun y hy => ht y (List.mem_cons_of_mem _ hy)) (fun y hy => hm y (List.mem_cons_of_mem _ hy)) (fun y hy => ho y (List.mem_cons_of_mem _ hy))
    have mm := List.mem_cons_self (a := x) (l := r)
    show (match t x with
      | .ok false => lcF fl t m r
      | .ok true => (match m x with
        | .ok y => if y.own || fl then (lcF fl t m r).bind fun ys => .ok (y :: ys) else .no
        | _ => .no)
      | _ => .no : R (List O)) = _
    rw [ht x mm]
    cases hq : q x with
    | false => rw [List.filter_cons_of_neg (by simp [hq])]; exact ih
    | true =>
      rw [List.filter_cons_of_pos hq]
      simp only [hm x mm hq, ho x mm hq, if_true, ih]
      rfl
theorem lcF_ofM {m : α → R O} {xs : List α} (g : α → O) (hm : ∀ x ∈ xs, m x = .ok (g x)) (ho : ∀ x ∈ xs, ((g x).own || fl) = true) : lcF fl (fun _ => .ok true) m xs = .ok (xs.map g) := by
  have := lcF_of (fl := fl) (t := fun _ => .ok true) (xs := xs) (fun _ => true) g (fun _ _ => rfl) (fun x hx _ => hm x hx) (fun x hx _ => ho x hx)
  rwa [show xs.filter (fun _ => true) = xs from List.filter_eq_self.mpr fun _ _ => rfl] at this
@[simp] theorem lcF_nil {t : α → R Bool} {m : α → R O} : lcF fl t m [] = .ok [] := (rfl)
@[simp] theorem lcF_map {t : β → R Bool} {m : β → R O} {f : α → β} {xs : List α} : lcF fl t m (xs.map f) = lcF fl (fun x => t (f x)) (fun x => m (f x)) xs := by
  induction xs with
  | nil => rfl
  | cons x r ih =>
    show (match t (f x) with
      | .ok false => lcF fl t m (r.map f)
      | .ok true => (match m (f x) with
        | .ok y => if y.own || fl then (lcF fl t m (r.map f)).bind fun ys => .ok (y :: ys) else .no
        | _ => .no)
      | _ => .no : R (List O)) = _
    rw [ih]; rfl
@[simp] theorem gSum_ev : gSum o = (optR (listInts o.er)).bind fun ns => .ok (oi ns.sum) := by
  unfold gSum
  cases listInts o.er <;> rfl
@[simp] theorem listInts_map {f : α → Int} {xs : List α} : listInts (.lst (xs.map fun x => D.int (f x))) = some (xs.map f) := by
  show intsOf _ = _
  have : (xs.map fun x => D.int (f x)) = (xs.map f).map D.int := by rw [List.map_map]; rfl
  rw [this, intsOf_map]
@[simp] theorem listInts_int {ns : List Int} : listInts (.lst (ns.map D.int)) = some ns := intsOf_map ns
@[simp] theorem listInts_cons : listInts (.lst (.int a :: ds)) = (listInts (.lst ds)).map (a :: ·) := by
  show intsOf (.int a :: ds) = _
  simp only [intsOf]
  rfl
@[simp] theorem listInts_nil : listInts (.lst []) = some [] := (rfl)
@[simp] theorem intsOf_nil : intsOf [] = some [] := (rfl)
@[simp] theorem intsOf_cons : intsOf (.int a :: ds) = (intsOf ds).map (a :: ·) := by
  simp only [intsOf]
theorem gMax_ev : gMax o = (optR (listInts o.er)).bind fun ns => if ns ≠ [] then .ok (oi (maxI ns)) else .no := by
  unfold gMax
  cases h : listInts o.er with
  | none => rfl
  | some ns => cases ns <;> simp
@[simp] theorem gMax_ev_g : gMax o = (optR (listInts o.er)).bind fun ns => gd (ns ≠ []) (.ok (oi (maxI ns))) := by
  rw [gMax_ev]
  simp only [gd_eq]
theorem gMin_ev : gMin o = (optR (listInts o.er)).bind fun ns => if ns ≠ [] then .ok (oi (minI ns)) else .no := by
  unfold gMin
  cases h : listInts o.er with
  | none => rfl
  | some ns => cases ns <;> simp
@[simp] theorem gMin_ev_g : gMin o = (optR (listInts o.er)).bind fun ns => gd (ns ≠ []) (.ok (oi (minI ns))) := by
  rw [gMin_ev]
  simp only [gd_eq]
@[simp] theorem gMax2_int : gMax2 (oi a) (oi b) = .ok (oi (max a b)) := (rfl)
@[simp] theorem gMin2_int : gMin2 (oi a) (oi b) = .ok (oi (min a b)) := (rfl)
@[simp] theorem gMaxD_ev : gMaxD o (oi a) = (optR (listInts o.er)).bind fun ns => .ok (oi (if ns.isEmpty then a else maxI ns)) := by
  unfold gMaxD
  cases listInts o.er <;> rfl
theorem eMeth_ev {chk : O → Bool} {g : O → O → R O} : eMeth chk g ma mb de = (ma de).bind fun x => if chk x then (mb de).bind fun y => g x y else .no := (rfl)
@[simp] theorem eMeth_ev_g {chk : O → Bool} {g : O → O → R O} : eMeth chk g ma mb de = (ma de).bind fun x => gd (chk x) ((mb de).bind fun y => g x y) := by
  rw [eMeth_ev]
  simp only [gd_eq]
@[simp] theorem isLO_ev : isLO o = o.er.isL := (rfl)
@[simp] theorem gCnt_ev : gCnt o (oi a) = (optR (listInts o.er)).bind fun ns => .ok (oi (ns.count a : Nat)) := by
  unfold gCnt listInts
  cases o.er <;> simp [optR, R.bind]
  cases h : intsOf _ <;> rfl
theorem gPow_ev : gPow (oi a) (oi b) = if 0 ≤ b ∧ b ≤ 1000000 ∧ a.natAbs < 2 ^ 64 then .ok (oi (a ^ b.toNat)) else .no := by
  show (if decide (CPow a b) = true then R.ok (oi (a ^ b.toNat)) else .no) = _
  by_cases h : CPow a b
  · have h' : 0 ≤ b ∧ b ≤ 1000000 ∧ a.natAbs < 2 ^ 64 := h
    rw [if_pos (decide_eq_true h), if_pos h']
  · have h' : ¬ (0 ≤ b ∧ b ≤ 1000000 ∧ a.natAbs < 2 ^ 64) := h
    rw [if_neg (by simpa using h), if_neg h']
@[simp] theorem gPow_ev_g : gPow (oi a) (oi b) = gd (0 ≤ b ∧ b ≤ 1000000 ∧ a.natAbs < 2 ^ 64) (.ok (oi (a ^ b.toNat))) := by
  rw [gPow_ev]
  simp only [gd_eq]
@[simp] theorem log2_lit {n : Nat} (h : n < 2 ^ 64) : Nat.log2 n < 9000 := by
  by_cases h0 : n = 0
  · subst h0; decide
  · have := (Nat.log2_lt h0).mpr h; omega
theorem gDiv_ite : gDiv (oi a) (oi b) = if 0 < b ∧ b.natAbs.log2 < 9000 then .ok (oi (a / b)) else .no := by
  show (if cDivB a b = true then R.ok (oi (a / b)) else .no) = _
  unfold cDivB
  by_cases h : CDivW a b
  · have h' : 0 < b ∧ b.natAbs.log2 < 9000 := h
    rw [if_pos (decide_eq_true h), if_pos h']
  · have h' : ¬ (0 < b ∧ b.natAbs.log2 < 9000) := h
    rw [if_neg (by simpa using h), if_neg h']
@[simp] theorem gDiv_ite_g : gDiv (oi a) (oi b) = gd (0 < b ∧ b.natAbs.log2 < 9000) (.ok (oi (a / b))) := by
  rw [gDiv_ite]
  simp only [gd_eq]
end
end VL
namespace VL
open PySem PySem.Spec PyProof.Rows L2
class KOk (k : Kd) : Prop where
  ne : k ≠ .tb
instance : KOk .fz := ⟨nofun⟩
instance : KOk .bo := ⟨nofun⟩
def argK : Kd → Kd
  | .fz => .fz
  | _ => .bo
instance {k : Kd} : KOk (argK k) := ⟨by cases k <;> exact nofun⟩
section
variable {α : Type} {k : Kd} {ds : List D} {o : O} {os : List O} {a : Int} {z : Str} {xs : List α} {env : VEnv} {i : Nat}
@[simp] theorem seqF_ok [h : KOk k] : seqF (.lf k (.lst ds)) = some (k, ds) := by
  cases k
  · rfl
  · rfl
  · exact absurd rfl h.ne
@[simp] theorem seqF_ok_tup [h : KOk k] : seqF (.lf k (.tup ds)) = some (k, ds) := by
  cases k
  · rfl
  · rfl
  · exact absurd rfl h.ne
@[simp] theorem isTb_ok [h : KOk k] : isTb k = false := by
  cases k
  · rfl
  · rfl
  · exact absurd rfl h.ne
@[simp] theorem toArg_ok [h : KOk k] {d : D} : toArg (.lf k d) = lfk k d := by
  cases k
  · rw [lfk_fz]; rfl
  · rfl
  · exact absurd rfl h.ne
@[simp] theorem frz_ok [h : KOk k] : frzO (.lf k (.lst ds)) = some (.lf k (.lst ds)) := by
  cases k
  · exact frz_lf
  · rfl
  · exact absurd rfl h.ne
@[simp] theorem asT_ev : asT o = optR (truD o.er) := by unfold asT; cases truD o.er <;> rfl
@[simp] theorem truD_non : truD .non = some false := (rfl)
@[simp] theorem truD_bl {b : Bool} : truD (.bl b) = some b := (rfl)
@[simp] theorem truD_int : truD (.int a) = some (a != 0) := (rfl)
@[simp] theorem truD_lst : truD (.lst ds) = some (!ds.isEmpty) := (rfl)
@[simp] theorem truD_tup : truD (.tup ds) = some (!ds.isEmpty) := (rfl)
def blD : D → Option Bool
  | .bl b => some b
  | _ => none
@[simp] theorem blD_bl {b : Bool} : blD (.bl b) = some b := (rfl)
@[simp] theorem asB_ev : asB o = optR (blD o.er) := by unfold asB; cases o.er <;> rfl
@[simp] theorem isTy_ev {t T : String} : isTy t T = (t == T || (t == "bool" && T == "int")) := (rfl)
@[simp] theorem cntT_nil {T : Nat} : cntT T [] = List.replicate T 0 := by
  unfold cntT
  simp only [List.count_nil, Int.ofNat_eq_natCast, Int.natCast_zero]
  rw [List.map_const', List.length_range]
theorem split_at {xs : List α} {j : Nat} {x : α} (h : xs[j]? = some x) : xs = xs.take j ++ x :: xs.drop (j + 1) := by
  obtain ⟨hj, rfl⟩ := List.getElem?_eq_some_iff.mp h
  rw [← List.drop_eq_getElem_cons hj, List.take_append_drop]
@[simp] theorem mapIdx_map' {β γ : Type} {f : α → β} {g : Nat → β → γ} : (xs.map f).mapIdx g = xs.mapIdx fun i x => g i (f x) := by
  apply List.ext_getElem?
  intro i
  rw [List.getElem?_mapIdx, List.getElem?_mapIdx, List.getElem?_map]
  cases xs[i]? <;> rfl
theorem wS_forE {body : VEnv → RS} {Q : Ct → VEnv → Prop} {E : Exn → VEnv → Prop} {f : Nat → α → Asg} (I : List α → VEnv → Prop) (h0 : I [] env) (hs : ∀ (pre : List α) (x : α) (post : List α) (e : VEnv), xs = pre ++ x :: post → I pre e → ∃ e1, f pre.length x e = some e1 ∧ wS (body e1) (loopK (I (pre ++ [x])) Q) E) (h1 : ∀ e, I xs e → Q .next e) : wS (forL body (xs.mapIdx f) env) Q E := by
  refine wS_forI (fun j e => I (xs.take j) e) (by simpa using h0) (fun j a e ha hI => ?_) (fun e h => h1 e (by simpa using h))
  rw [List.getElem?_mapIdx] at ha
  cases q : xs[j]? with
  | none => rw [q] at ha; cases ha
  | some x =>
    rw [q] at ha
    cases ha
    have hj : j < xs.length := (List.getElem?_eq_some_iff.mp q).1
    obtain ⟨e1, h2, h3⟩ := hs (xs.take j) x (xs.drop (j + 1)) e (split_at q) hI
    rw [List.length_take, Nat.min_eq_left (by omega)] at h2
    refine ⟨e1, h2, ?_⟩
    have e2 : xs.take (j + 1) = xs.take j ++ [x] := by
      rw [List.take_add_one, q]; rfl
    show wS (body e1) (loopK (fun e => I (xs.take (j + 1)) e) Q) E
    rw [e2]
    exact h3
theorem len1 {xs : List α} (h : xs.length = 1) : ∃ x0, xs = [x0] := by
  match xs, h with
  | [x0], _ => exact ⟨x0, rfl⟩
theorem len2 {xs : List α} (h : xs.length = 2) : ∃ x0 x1, xs = [x0, x1] := by
  match xs, h with
  | [x0, x1], _ => exact ⟨x0, x1, rfl⟩
theorem len3 {xs : List α} (h : xs.length = 3) : ∃ x0 x1 x2, xs = [x0, x1, x2] := by
  match xs, h with
  | [x0, x1, x2], _ => exact ⟨x0, x1, x2, rfl⟩
end
end VL
namespace VL
open PySem PySem.Spec PyProof.Rows L2
def aKw (mA : DEnv → R (List O)) (me : DEnv → R O) : DEnv → R (List O) := fun env => (mA env).bind fun os => (me env).bind fun o => .ok (os ++ [o])
def aDef (d : D) (mA : DEnv → R (List O)) : DEnv → R (List O) := fun env => (mA env).bind fun os => .ok (os ++ [.lf .fz d])
def OkK (P : Program) (w : World) (K : PySem.W.Frag) (mg : Str → Option Value) (base : Heap) (x : Str) (N ps : List Str) (kw : Str) (dv : V) (j : Nat) (m : VEnv → RS) (k : Nat) : Prop :=
  ∃ f fd, mg x = some (.ref f) ∧ PySem.W.keepIn K (.ref f) = true ∧ (∃ ds, Vals [dv] ds ∧ Binds K fd ps ds) ∧ KBn K fd ps j [kw] (fun us ws => us ++ ws) (fun vs zs => vs ++ zs) ∧ FnOk P w K mg base (CXv mg P w) k f fd ps (SpV K mg N ps.length [] m)
section
variable {X : Cx} {CX : CXT} {k n j : Nat} {f : Addr} {fd : FuncData} {N ps ks : List Str} {sp : Sp} {E : L2.St → XK} {x kw : Str} {p pos kpos : Pos} {e a : Expr} {es : List Expr} {kws : List Keyword} {t tk : TA} {g : List Value → List Value → List Value} {gV : List V → List V → List V} {mA : DEnv → R (List O)} {me : DEnv → R O} {m : VEnv → RS}
end
def FnK (K : PySem.W.Frag) (mg : Str → Option Value) (x : Str) (st : Stmt) (ps : List Str) (kw : Str) (dv : V) (j : Nat) : Prop := ∃ f fd, mg x = some (.ref f) ∧ Fun K x x st f fd ∧ (∃ ds, Vals [dv] ds ∧ Binds K fd ps ds) ∧ KBn K fd ps j [kw] (fun us ws => us ++ ws) (fun vs zs => vs ++ zs)
theorem FnK.ok {P : Program} {w : World} {K : PySem.W.Frag} {mg : Str → Option Value} {base : Heap} {x : Str} {st : Stmt} {N ps : List Str} {kw : Str} {dv : V} {j k : Nat} {m : VEnv → RS} (T : FnK K mg x st ps kw dv j) (S : FnScope N ps (defScope st))
    (hb : ∀ (f : Addr) (cdv : Value) (A : Around) (outer : List Env) (s : Shared) (H : Hp) (E : XK), Room k (A.deeper (envOfC x (defScope st) s.heap.objs.size f cdv)) → VB (cxOf (CXv mg P w) P w K mg base N x (defScope st) f cdv A outer s H E) [] (defBody st) m) : OkK P w K mg base x N ps kw dv j m (k + 1) := by
  obtain ⟨f, fd, hm, F, hd, hbn⟩ := T
  exact ⟨f, fd, hm, F.kp, hd, hbn, fn_v F S (hb f)⟩
end VL
namespace VL
open PySem PySem.Spec PyProof.Rows L2
def takeAll : List Nat → VEnv → Option (List O × VEnv)
  | [], env => some ([], env)
  | j :: js, env => match env[j]? with
    | some (some o) => (takeAll js (env.set j none)).map fun q => (o :: q.1, q.2)
    | _ => none
section
variable {X : Cx} {P : List Nat} {es : List Expr} {js : List Nat} {pos pos2 : Pos} {x : Str}
def xMvL (js : List Nat) : VEnv → RX O := fun env => match takeAll js env with
  | some (os, env') => if szOk os.length then .ok (.lst os) env' else .no
  | none => .no
def xMvT (js : List Nat) : VEnv → RX O := fun env => match takeAll js env with
  | some (os, env') => if szOk os.length then .ok (.tup os) env' else .no
  | none => .no
end
end VL
namespace VL
open PySem PySem.Spec PyProof.Rows L2
section
variable {de : DEnv} {mA : DEnv → R (List O)} {me : DEnv → R O} {d : D}
@[simp] theorem aKw_ev : aKw mA me de = (mA de).bind fun os => (me de).bind fun o => .ok (os ++ [o]) := (rfl)
@[simp] theorem aDef_ev : aDef d mA de = (mA de).bind fun os => .ok (os ++ [.lf .fz d]) := (rfl)
variable {env : VEnv} {js : List Nat} {j : Nat} {E : Exn → VEnv → Prop} {P : O → VEnv → Prop} {o : O}
@[simp] theorem takeAll_nil : takeAll [] env = some ([], env) := (rfl)
theorem takeAll_cons (h : env[j]? = some (some o)) : takeAll (j :: js) env = (takeAll js (env.set j none)).map fun q => (o :: q.1, q.2) := by
  unfold takeAll; rw [h]; cases js <;> rfl
@[simp] theorem takeAll_some {r : List O × VEnv} : takeAll (j :: js) env = some r ↔ ∃ o, env[j]? = some (some o) ∧ ∃ q, takeAll js (env.set j none) = some q ∧ (o :: q.1, q.2) = r := by
  cases h : env[j]? with
  | none => unfold takeAll; rw [h]; simp
  | some z =>
    cases z with
    | none => unfold takeAll; rw [h]; simp
    | some o => rw [takeAll_cons h]; simp
@[simp] theorem wX_mvL : wX (xMvL js env) P E ↔ ∃ q, takeAll js env = some q ∧ q.1.length ≤ 16777216 ∧ P (.lst q.1) q.2 := by
  unfold xMvL
  cases h : takeAll js env with
  | none => simp
  | some q =>
    obtain ⟨os, e⟩ := q
    simp only [Option.some.injEq, exists_eq_left']
    split
    · rename_i hz; simp at hz; simp [hz]
    · rename_i hz; simp at hz; simp; omega
@[simp] theorem wX_mvT : wX (xMvT js env) P E ↔ ∃ q, takeAll js env = some q ∧ q.1.length ≤ 16777216 ∧ P (.tup q.1) q.2 := by
  unfold xMvT
  cases h : takeAll js env with
  | none => simp
  | some q =>
    obtain ⟨os, e⟩ := q
    simp only [Option.some.injEq, exists_eq_left']
    split
    · rename_i hz; simp at hz; simp [hz]
    · rename_i hz; simp at hz; simp; omega
end
end VL
namespace VL
open PySem PySem.Spec PyProof.Rows L2
structure ClsO (K : PySem.W.Frag) (mg : Str → Option Value) (E : Errs) : Prop where
  one : ∀ p ∈ E, ∀ Ca, mg (Str.ofString p.1) = some (.ref Ca) → Cls K Ca ∧ ∀ f ∈ p.2, NoAttr K Ca (Str.ofString f)
section
variable {X : Cx} {P : List Nat} {E : Errs} {a b o : Expr} {es : List Expr} {ma mb mo : DEnv → R O} {mA : DEnv → R (List O)} {pos p apos : Pos} {x : Str}
section
variable {CX : CXT} {k : Nat} {f C : Addr} {fd : FuncData} {ps : List Str} {sp : Sp} {E' : L2.St → XK} {m : Str} {e : Expr} {ta : TE} {t : TA}
end
def isObj (C mn : String) (o : O) : Bool := match o.er with
  | .obj C' fs _ => C' == C && !(fs.map Str.ofString).contains (Str.ofString mn)
  | _ => false
def aRecv (C mn : String) (mo : DEnv → R O) (mA : DEnv → R (List O)) : DEnv → R (List O) := fun env => (mo env).bind fun o => if isObj C mn o then (mA env).bind fun os => .ok (o :: os) else .no
def OkM (P : Program) (w : World) (K : PySem.W.Frag) (mg : Str → Option Value) (base : Heap) (C mn : String) (N ps : List Str) (m : VEnv → RS) (k : Nat) : Prop :=
  ∃ Ca f fd, mg (Str.ofString C) = some (.ref Ca) ∧ Cls K Ca ∧ Meth K Ca (Str.ofString mn) f ∧ Binds K fd ps [] ∧ FnOk P w K mg base (CXv mg P w) k f fd ps (SpV K mg N ps.length [] m)
end
def FnM (K : PySem.W.Frag) (mg : Str → Option Value) (C mn : String) (qual : Str) (st : Stmt) (ps : List Str) : Prop := ∃ Ca f fd, mg (Str.ofString C) = some (.ref Ca) ∧ Cls K Ca ∧ Meth K Ca (Str.ofString mn) f ∧ Fun K (Str.ofString mn) qual st f fd ∧ Binds K fd ps []
theorem FnM.ok {P : Program} {w : World} {K : PySem.W.Frag} {mg : Str → Option Value} {base : Heap} {C mn : String} {qual : Str} {st : Stmt} {N ps : List Str} {k : Nat} {m : VEnv → RS} (T : FnM K mg C mn qual st ps) (S : FnScope N ps (defScope st))
    (hb : ∀ (f : Addr) (cdv : Value) (A : Around) (outer : List Env) (s : Shared) (H : Hp) (E : XK), Room k (A.deeper (envOfC qual (defScope st) s.heap.objs.size f cdv)) → VB (cxOf (CXv mg P w) P w K mg base N qual (defScope st) f cdv A outer s H E) [] (defBody st) m) : OkM P w K mg base C mn N ps m (k + 1) := by
  obtain ⟨Ca, f, fd, hm, c, M, F, hbn⟩ := T
  exact ⟨Ca, f, fd, hm, c, M, hbn, fn_v F S (hb f)⟩
end VL
namespace VL
open PySem PySem.Spec PyProof.Rows L2
section
variable {X : Cx} {CX : CXT} {k : Nat} {f C : Addr} {fd : FuncData} {ps : List Str} {sp : Sp} {E : L2.St → XK} {x : Str} {p pos : Pos} {e : Expr} {es : List Expr} {t : TA}
end
section
variable {X : Cx}
def OkI (P : Program) (w : World) (K : PySem.W.Frag) (mg : Str → Option Value) (base : Heap) (C : String) (N ps : List Str) (m : VEnv → RS) (k : Nat) : Prop :=
  ∃ Ca f fd, mg (Str.ofString C) = some (.ref Ca) ∧ Mk K Ca f ∧ Binds K fd ps [] ∧ FnOk P w K mg base (CXv mg P w) k f fd ps (SpV K mg N ps.length [0] m)
variable {a : Expr} {es : List Expr} {mA : DEnv → R (List O)} {pos p : Pos} {x : Str}
end
def FnI (K : PySem.W.Frag) (mg : Str → Option Value) (C : String) (qual : Str) (st : Stmt) (ps : List Str) : Prop := ∃ Ca f fd, mg (Str.ofString C) = some (.ref Ca) ∧ Mk K Ca f ∧ Fun K "__init__" qual st f fd ∧ Binds K fd ps []
theorem FnI.ok {P : Program} {w : World} {K : PySem.W.Frag} {mg : Str → Option Value} {base : Heap} {C : String} {qual : Str} {st : Stmt} {N ps : List Str} {k : Nat} {m : VEnv → RS} (T : FnI K mg C qual st ps) (S : FnScope N ps (defScope st))
    (hb : ∀ (f : Addr) (cdv : Value) (A : Around) (outer : List Env) (s : Shared) (H : Hp) (E : XK), Room k (A.deeper (envOfC qual (defScope st) s.heap.objs.size f cdv)) → VB (cxOf (CXv mg P w) P w K mg base N qual (defScope st) f cdv A outer s H E) [0] (defBody st) m) : OkI P w K mg base C N ps m (k + 1) := by
  obtain ⟨Ca, f, fd, hm, M, F, hbn⟩ := T
  exact ⟨Ca, f, fd, hm, M, hbn, fn_v F S (hb f)⟩
section
variable {f : Fm} {Z : Addr → Prop} {Fs : Nat → Addr → Prop} {env : VEnv} {σ : L2.St} {H : Hp}
end
end VL
namespace L2
open PySem PySem.Spec PyProof.Rows
def ItT (t it : Addr) (i : Nat) : HO := .ext fun h => h.IsTupleIter it t i
section
variable {X : Cx}
def spIt (K : PySem.W.Frag) (F : Str) : Sp := fun vs H Q _ => ∃ (a C dx : Addr) (fs : List (Str × V)) (t : Addr) (zs : List V), vs = [.ref a] ∧ H a = some (.ins C dx fs) ∧ Cls K C ∧ NoAttr K C F ∧ fs.lookup F = some (.ref t) ∧ SqT K H t zs ∧
  ∀ it, H it = none → (∀ b, H b ≠ none → b < it) → Q (.ref it) (upd H it (ItT t it 0))
def sIt (K : PySem.W.Frag) (F : Str) (i : Nat) : TS := fun D σ H => ∃ (a C dx : Addr) (fs : List (Str × V)) (t : Addr) (zs : List V), σ[i]? = some (some (.ref a)) ∧ H a = some (.ins C dx fs) ∧ Cls K C ∧ NoAttr K C F ∧ fs.lookup F = some (.ref t) ∧ SqT K H t zs ∧
  ∀ it, H it = none → (∀ b, H b ≠ none → b < it) → D.rt (.ref it) (upd H it (ItT t it 0))
variable {pins : List (Addr × Obj)} {σ : L2.St} {A1 : Around} {q it t : Addr} {zs : List V} {Hd : Hp}
end
end L2
namespace L2
open PySem PySem.Spec PyProof.Rows
structure ItC1 (K : PySem.W.Frag) (C fi : Addr) : Prop where
  it : PySem.W.findIn K (.ref C) "__iter__" = some (some (.ref fi))
  itF : PySem.W.isFn K (.ref fi) = true
  nolen : PySem.W.findIn K (.ref C) "__len__" = some none
  nohint : PySem.W.findIn K (.ref C) "__length_hint__" = some none
section
variable {X : Cx} {pins : List (Addr × Obj)} {σ : L2.St} {A1 : Around} {a q C fi t dx : Addr} {F : Str} {zs : List V} {H : Hp} {s : Shared} {fs : List (Str × V)} {fdI : FuncData} {n : Nat}
end
end L2
namespace VL
open PySem PySem.Spec PyProof.Rows L2
def OkIt (P : Program) (w : World) (K : PySem.W.Frag) (mg : Str → Option Value) (base : Heap) (C F : String) (k : Nat) : Prop :=
  ∃ Ca fi fd, mg (Str.ofString C) = some (.ref Ca) ∧ Cls K Ca ∧ NoAttr K Ca (Str.ofString F) ∧ ItC1 K Ca fi ∧ Binds K fd ["self"] [] ∧ FnOk P w K mg base (CXv mg P w) k fi fd ["self"] (spIt K (Str.ofString F))
section
variable {X : Cx} {a : Expr} {ma : DEnv → R O} {pos q : Pos}
end
def FnIt (K : PySem.W.Frag) (mg : Str → Option Value) (C F : String) (qual : Str) (st : Stmt) : Prop := ∃ Ca f fd, mg (Str.ofString C) = some (.ref Ca) ∧ Cls K Ca ∧ NoAttr K Ca (Str.ofString F) ∧ ItC1 K Ca f ∧ Fun K "__iter__" qual st f fd ∧ Binds K fd ["self"] []
theorem FnIt.ok {P : Program} {w : World} {K : PySem.W.Frag} {mg : Str → Option Value} {base : Heap} {C F : String} {qual : Str} {st : Stmt} {N : List Str} (T : FnIt K mg C F qual st) (S : FnScope N ["self"] (defScope st)) (hN : N = (["self"] : List Str))
    (hb : ∀ (f : Addr) (cdv : Value) (A : Around) (outer : List Env) (s : Shared) (H : Hp) (E : XK), PSs (cxOf (CXv mg P w) P w K mg base N qual (defScope st) f cdv A outer s H E) (defBody st) (sIt K (Str.ofString F) 0)) : OkIt P w K mg base C F 1 := by
  subst hN
  obtain ⟨Ca, f, fd, hm, c, na, I, Fn, hbn⟩ := T
  refine ⟨Ca, f, fd, hm, c, na, I, hbn, okC (k := 0) Fn S (fun vs H Q E h => ?_) (fun cdv A outer s H vs Q E hr h => ?_)⟩
  · obtain ⟨a, _, _, _, _, _, rfl, _⟩ := h
    rfl
  · obtain ⟨a, C', dx, fs, t, zs, rfl, hH, c', n', hl, hs, q⟩ := h
    exact ⟨sIt K (Str.ofString F) 0, hb f cdv A outer s H E, a, C', dx, fs, t, zs, rfl, hH, c', n', hl, hs, q⟩
end VL
namespace VL
open PySem PySem.Spec PyProof.Rows L2
section
variable {X : Cx} {a b : Expr} {ma mb : DEnv → R O} {pos p q p2 : Pos}
end
end VL
namespace VL
open PySem PySem.Spec PyProof.Rows L2
end VL
namespace VL
open PySem PySem.Spec PyProof.Rows L2
def gIsC (C : String) (o : O) : R O := match o.er with
  | .obj C' _ _ => if C' == C then .ok (.lf .fz (.bl true)) else .no
  | _ => .no
end VL
namespace VL
open PySem PySem.Spec PyProof.Rows L2
section
variable {k : Kd} {C : String} {fs : List String} {ds : List D} {os : List O}
@[simp] theorem er_obj : (O.obj C fs os).er = .obj C fs (O.ers os) := (rfl)
@[simp] theorem imm_obj : (D.obj C fs ds).imm = false := (rfl)
@[simp] theorem no_obj {q : Kd → Bool} : (O.obj C fs os).no q = O.nos q os := (rfl)
@[simp] theorem own_obj : (O.obj C fs os).own = O.owns os := (rfl)
@[simp] theorem frz_obj : frzO (.obj C fs os) = if O.nos notFz os then some (.lf .fz (.obj C fs (O.ers os))) else none := (rfl)
@[simp] theorem toArg_obj : toArg (.obj C fs os) = if O.nos notFz os then .lf .fz (.obj C fs (O.ers os)) else .lf .bo (.obj C fs (O.ers os)) := (rfl)
@[simp] theorem lfk_obj : lfk k (.obj C fs ds) = .lf k (.obj C fs ds) := (rfl)
@[simp] theorem lendV_obj : lendV (some (some (.obj C fs os))) = .ok (.lf .tb (.obj C fs (O.ers os))) := (rfl)
@[simp] theorem frz_ok_obj [h : KOk k] : frzO (.lf k (.obj C fs ds)) = some (.lf k (.obj C fs ds)) := by
  cases k with
  | fz => rfl
  | bo => rfl
  | tb => exact absurd rfl h.1
end
section
variable {C mn : String} {mo : DEnv → R O} {mA : DEnv → R (List O)} {de : DEnv}
@[simp] theorem aRecv_ev : aRecv C mn mo mA de = (mo de).bind fun o => gd (isObj C mn o = true) ((mA de).bind fun os => .ok (o :: os)) := by
  unfold aRecv
  congr 1
  funext o
  exact gd_eq
end
def mkK (P : O → Prop) : Ct → VEnv → Prop
  | .next, e => ∃ o, e[0]? = some (some o) ∧ o.own = true ∧ P o
  | _, _ => False
section
variable {P : O → Prop} {e : VEnv} {o : O} {C : String} {n : Nat} {m : VEnv → RS} {os : List O}
@[simp] theorem mkK_next : mkK P .next e ↔ ∃ o, e[0]? = some (some o) ∧ o.own = true ∧ P o := (Iff.rfl)
@[simp] theorem mkK_ret : mkK P (.ret o) e ↔ False := (Iff.rfl)
@[simp] theorem mkK_brk : mkK P .brk e ↔ False := (Iff.rfl)
@[simp] theorem mkK_cont : mkK P .cont e ↔ False := (Iff.rfl)
end
section
variable {E : Errs} {f : String} {me : DEnv → R O} {C : String} {fs : List String} {os : List O} {e : VEnv} {Q : Ct → VEnv → Prop} {X : Exn → VEnv → Prop}
end
@[simp] theorem gIsC_ev {C : String} {k : Kd} {fs : List String} {ds : List D} : gIsC C (.lf k (.obj C fs ds)) = .ok (.lf .fz (.bl true)) := by
  show (if (C == C) = true then R.ok (O.lf .fz (.bl true)) else R.no) = _
  rw [if_pos (by simp)]
end VL
namespace VL
open PySem PySem.Spec PyProof.Rows L2
section
variable {X : Cx} {a b c : Expr} {ma mb mc : DEnv → R O} {pos p : Pos} {x : Str}
theorem ve_gstr {z : Str} (hm : ∃ t, X.mg x = some (.str z t)) (hg : Gl X x := by rfl) (hd : (x == ("__debug__" : Str)) = false := by decide) : VE X (.Name x pos) (eC (.str z)) :=
  ve_const (pe_glob hg hm.choose_spec (v := .str z) ⟨_, rfl⟩ hd) fun _ _ _ => rfl
def eCh (g1 g2 : O → O → R O) (ma mb mc : DEnv → R O) : DEnv → R O := fun env => (ma env).bind fun x => (mb env).bind fun y => (g1 x y).bind fun z => (asB z).bind fun k => if k then (mc env).bind fun u => g2 y u else .ok (.lf .fz (.bl false))
theorem seqCh {w : Wd} {W : WX} {σ : L2.St} {H : Hp} {env : DEnv} {r1 r2 : R2} {g1 g2 : O → O → R O} (h1 : Op2 X r1 g1) (h2 : Op2 X r2 g2) (hc : ClOk X w.cl) {Q : VK} (G : GoodE w env σ H) (h : Out w W σ H H (RepO w) (eCh g1 g2 ma mb mc env) Q) :
    tChain r1 r2 (rE w W ma) (rE w W mb) (rE w W mc) σ H Q :=
  rE_of G (Out.bind (Same.refl H) h fun o1 x H1 F1 _ s1 p1 f1 k1 => rE_of (G.same s1) (Out.bind s1 k1 fun o2 y H2 F2 _ s2 p2 f2 k2 => by
    refine h1 w W σ H H2 o1 o2 x y F1 F2 _ hc (s1.trans s2) (RepO.same s2 p1) p2 (fun a z z2 => (f1 a z).2.ne (f2 a z2).1) (f1.up s2) (f2.base s1) ?_
    have s12 := s1.trans s2
    have gen : ∀ r : R O, Out w W σ H H2 (RepO w) (r.bind fun z => (asB z).bind fun k => if k then (mc env).bind fun u => g2 o2 u else .ok (.lf .fz (.bl false))) Q →
        Out w W σ H H2 (RepO w) r (fun z H3 => ∃ k, z = V.bl k ∧ if k = true then rE w W mc σ H3 (fun w' H4 => r2 y w' H4 Q) else Q (.bl false) H3) := fun r hr => by
      cases r with
      | no => exact hr
      | ex x => exact hr
      | ok z =>
        intro v H3 F3 s3 p3 f3
        have hr := Out.step s3 hr
        have q := RepO.at p3
        simp only [R.bind] at hr
        unfold asB at hr
        cases ez : z.er <;> rw [ez] at hr q <;> try exact hr.elim
        rename_i k
        refine ⟨k, q, ?_⟩
        simp only at hr
        cases k with
        | false => exact out_bl hr
        | true =>
          rw [if_pos rfl] at hr ⊢
          have s13 := s12.trans s3
          refine rE_of (G.same s13) (Out.bind s13 hr fun o3 u H4 F4 _ s4 p4 f4 k4 => ?_)
          have s24 := s3.trans s4
          exact h2 w W σ H H4 o2 o3 y u F2 F4 Q hc (s13.trans s4) (RepO.same s24 p2) p4 (fun a z z2 => ((f2.up s3) a z).2.ne (f4 a z2).1) ((f2.base s1).up s24) (f4.base s13) k4
    exact gen _ k2))
theorem vt_ch {op1 op2 : CmpOp} {r1 r2 : R2} {g1 g2 : O → O → R O} (k1 : OpR X (compareOp op1) r1) (k2 : OpR X (compareOp op2) r2) (h1 : Op2 X r1 g1) (h2 : Op2 X r2 g2) (ha : VE X a ma) (hb : VE X b mb) (hc : VE X c mc) (hm : lastMarks [op1, op2] [b, c] = false := by with_unfolding_all rfl) :
    VT X (.Compare a [op1, op2] [b, c] pos) (tOfE (eCh g1 g2 ma mb mc)) := fun W tk w hcl => (pt_chain k1 k2 (ha W tk w hcl) (hb W tk w hcl) (hc W tk w hcl) hm).imp fun σ H Q h => by
  obtain ⟨env, G, h⟩ := rT_to h
  refine seqCh (W := W) h1 h2 hcl G (Out.bind (Same.refl H) h fun o v H1 F1 _ s1 p1 f1 h1 => ?_)
  have z := RepO.at p1
  unfold asB at h1
  cases e : o.er <;> rw [e] at h1 z <;> try exact h1.elim
  rename_i b
  exact ⟨b, z, h1 b H1 (fun _ => False) (Same.refl H1) rfl fun _ z => z.elim⟩
theorem vt_leLe (ha : VE X a ma) (hb : VE X b mb) (hc : VE X c mc) (hm : lastMarks [.LtE, .LtE] [b, c] = false := by with_unfolding_all rfl) : VT X (.Compare a [.LtE, .LtE] [b, c] pos) (tOfE (eCh gLe gLe ma mb mc)) := vt_ch op_le op_le o_le o_le ha hb hc hm
theorem hu5_of {k : Nat} (h : Room k X.A) : X.A.units + 65 < cLine := by have := h.un; omega
def D.flat : D → Bool
  | .int _ => true | .str z => true | .non => true | _ => false
def eqF : D → D → Bool
  | .non, .non => true
  | .int a, .int b => a == b
  | .str a, .str b => a == b
  | _, _ => false
def inFl (x : D) (ds : List D) : Option Bool := if x.flat && ds.all D.flat then some (ds.any fun z => eqF z x) else none
def inDp (x : D) (ds : List D) : Option Bool := match x.py, D.pys ds with
    | some p, some ps => if SeqAt.shaped p && SeqAt.shaped (.list ps) then some (ps.any fun z => PyData.eqv z p) else none
    | _, _ => none
def inD (x y : D) : Option Bool := match y with
  | .str z => (match x with
    | .str ⟨⟨[c]⟩⟩ => some (decide (c ∈ z.cps.toList))
    | _ => none)
  | .lst ds => (match inFl x ds with
    | some b => some b
    | none => inDp x ds)
  | .tup ds => inFl x ds
  | _ => none
def gIn (o1 o2 : O) : R O := match inD o1.er o2.er with
  | some b => .ok (.lf .fz (.bl b))
  | none => .no
def gNIn (o1 o2 : O) : R O := match inD o1.er o2.er with
  | some b => .ok (.lf .fz (.bl (!b)))
  | none => .no
def rInG (K : PySem.W.Frag) (f : Bool → Bool) : R2 := fun x y H Q => ((∃ (c : Nat) (z : Str), x = .str ⟨#[c]⟩ ∧ y = .str z ∧ Q (.bl (f (decide (c ∈ z.cps.toList)))) H) ∨ (∃ d ds, Dp K H x d ∧ Dp K H y (.list ds) ∧ SeqAt.shaped d = true ∧ SeqAt.shaped (.list ds) = true ∧ Q (.bl (f (ds.any fun z => PyData.eqv z d))) H)) ∨ (∃ p xs, y = .ref p ∧ (SqL K H p xs ∨ SqT K H p xs) ∧ flatV x = true ∧ xs.all flatV = true ∧ Q (.bl (f (inV x xs))) H)
theorem Rep.flat {cl : Cl} {H : Hp} {S : Addr → Prop} {d : D} {v : V} (h : Rep cl H S d v) (f : d.flat = true) : flatV v = true := by
  cases d <;> first | (simp [D.flat] at f; done) | (simp only [Rep] at h; subst h; rfl)
theorem eqF_at {cl : Cl} {H : Hp} {S S' : Addr → Prop} {d e : D} {v u : V} (h : Rep cl H S d v) (h2 : Rep cl H S' e u) (f : d.flat = true) (f2 : e.flat = true) : eqV v u = eqF d e := by
  cases d <;> first | (simp [D.flat] at f; done) | (cases e <;> first | (simp [D.flat] at f2; done) | (simp only [Rep] at h h2; subst h; subst h2; rfl))
theorem Reps.flat {cl : Cl} {H : Hp} {S S' : Addr → Prop} {e : D} {u : V} (h2 : Rep cl H S' e u) (f2 : e.flat = true) : ∀ {ds : List D} {vs : List V}, Reps cl H S ds vs → ds.all D.flat = true → vs.all flatV = true ∧ (vs.any fun y => eqV y u) = ds.any fun z => eqF z e
  | [], vs, h, _ => by simp only [Reps] at h; subst h; exact ⟨rfl, rfl⟩
  | d :: ds, vs, h, f => by
    simp only [Reps] at h
    obtain ⟨v, r, rfl, h1, h3⟩ := h
    rw [List.all_cons, Bool.and_eq_true] at f
    obtain ⟨a, b⟩ := Reps.flat h2 f2 h3 f.2
    rw [List.all_cons, List.any_cons, List.any_cons, a, b, h1.flat f.1, eqF_at h1 h2 f.1 f2]
    exact ⟨rfl, rfl⟩
theorem inFl_some {x : D} {ds : List D} {b : Bool} (h : inFl x ds = some b) : x.flat = true ∧ ds.all D.flat = true ∧ b = ds.any fun z => eqF z x := by
  unfold inFl at h
  split at h
  · rename_i q
    rw [Bool.and_eq_true] at q
    cases h
    exact ⟨q.1, q.2, rfl⟩
  · cases h
theorem o_inG {f : Bool → Bool} : Op2 X (rInG X.K f) (fun o1 o2 => match inD o1.er o2.er with
    | some b => .ok (.lf .fz (.bl (f b)))
    | none => .no) := by
  intro w W σ H0 H o1 o2 x y F1 F2 Q hc s p1 p2 dj f1 f2 h
  have z1 := RepO.at p1
  have z2 := RepO.at p2
  have h : Out w W σ H0 H (RepO w) (match inD o1.er o2.er with
    | some b => .ok (.lf .fz (.bl (f b)))
    | none => .no) Q := h
  cases e : inD o1.er o2.er with
  | none => rw [e] at h; exact h.elim
  | some b =>
    rw [e] at h
    have h := out_bl h
    unfold inD at e
    split at e
    · rename_i z ez
      split at e
      · rename_i c ec
        cases e
        rw [ec] at z1
        rw [ez] at z2
        exact .inl (.inl ⟨c, z, z1, z2, h⟩)
      · cases e
    · rename_i ds ez
      split at e
      · rename_i b' eb
        cases e
        obtain ⟨f1, f2, rfl⟩ := inFl_some eb
        rw [ez] at z2
        simp only [Rep] at z2
        obtain ⟨a, vs, rfl, _, r, q⟩ := z2
        obtain ⟨g1, g2⟩ := Reps.flat z1 f1 q f2
        exact .inr ⟨a, vs, rfl, .inl (SqL.of r), z1.flat f1, g1, by unfold inV; rw [g2]; exact h⟩
      unfold inDp at e
      split at e
      · rename_i p ps ep eps
        split at e
        · rename_i hs
          cases e
          rw [Bool.and_eq_true] at hs
          refine .inl (.inr ⟨p, ps, Rep.dp z1 ep, Rep.dp z2 ?_, hs.1, hs.2, h⟩)
          rw [ez]
          simp only [D.py, eps, Option.map_some]
        · cases e
      · cases e
    · rename_i ds ez
      obtain ⟨f1, f2, rfl⟩ := inFl_some e
      rw [ez] at z2
      simp only [Rep] at z2
      obtain ⟨a, vs, rfl, r, q⟩ := z2
      obtain ⟨g1, g2⟩ := Reps.flat z1 f1 q f2
      exact .inr ⟨a, vs, rfl, .inr (SqT.of r), z1.flat f1, g1, by unfold inV; rw [g2]; exact h⟩
    · cases e
theorem op_inG (hu : X.A.units + 65 < cLine) : OpR X (compareOp .In) (rInG X.K id) := OpR.or (OpR.or op_in_sign (op_inD hu)) op_in_seq
theorem op_nInG (hu : X.A.units + 65 < cLine) : OpR X (compareOp .NotIn) (rInG X.K not) := OpR.or (OpR.or op_notIn_sign (op_notInD hu)) op_notIn_seq
end
section
variable {X : Cx} {a b : Expr} {ma mb : DEnv → R O} {pos : Pos}
theorem ve_in (hu : X.A.units + 65 < cLine) (ha : VE X a ma) (hb : VE X b mb) (hm : behindInMarks .In b = false := by rfl) : VE X (.Compare a [.In] [b] pos) (e2 gIn ma mb) := ve_cmp (op_inG hu) (o_inG (f := id)) ha hb hm
theorem vt_nin (hu : X.A.units + 65 < cLine) (ha : VE X a ma) (hb : VE X b mb) (hm : behindInMarks .NotIn b = false := by rfl) : VT X (.Compare a [.NotIn] [b] pos) (tOfE (e2 gNIn ma mb)) := vt_cmp (op_nInG hu) (o_inG (f := not)) ha hb hm
def sgO (c : Nat) : O := .lf .fz (.str ⟨#[c]⟩)
def jStr (ma : DEnv → R O) : DEnv → R (Bool × List O) := fun env => (ma env).bind fun o => match o.er with
  | .str z => .ok (true, z.cps.toList.map sgO)
  | _ => .no
theorem vj_str {tg : Expr} (ha : VE X a ma) : VJ X tg a (jStr ma) := fun W tk w hc => by
  refine ⟨_, pi_str (ha W tk w hc), fun env σ H Q G h => rE_of G ?_⟩
  unfold jStr at h
  cases e : ma env with
  | no => rw [e] at h; exact h
  | ex x => rw [e] at h; exact h
  | ok o =>
    rw [e] at h
    intro v H1 F1 s1 p1 f1
    simp only [R.bind] at h
    have q := RepO.at p1
    cases eo : o.er <;> rw [eo] at h q <;> try exact h.elim
    rename_i z
    refine ⟨z, q, h _ H1 (fun _ => False) s1 (fun _ z => z.elim) (fun _ _ z => z) ⟨fun i o H2 eo s2 => ?_, fun H2 s2 => ?_⟩⟩
    · rw [List.getElem?_map] at eo
      cases ei : z.cps.toList[i]? with
      | none => rw [ei] at eo; cases eo
      | some c =>
        rw [ei] at eo
        cases eo
        have ei' : z.cps[i]? = some c := by rw [← Array.getElem?_toList]; exact ei
        refine ⟨(Array.getElem?_eq_some_iff.mp ei').1, fun x H3 y => ?_⟩
        obtain ⟨rfl, c', ec, rfl⟩ := y
        rw [ei'] at ec
        cases ec
        exact ⟨Same.refl _, by simp [sgO, RepO, Rep]⟩
    · show z.cps.size ≤ _
      simp
def strsOf : List D → Option (List Str)
  | [] => some []
  | .str z :: r => (strsOf r).map (z :: ·)
  | _ :: _ => none
theorem Reps.strs {cl : Cl} {H : Hp} {S : Addr → Prop} : ∀ {ds : List D} {vs : List V} {zs : List Str}, strsOf ds = some zs → Reps cl H S ds vs → vs = zs.map V.str
  | [], vs, zs, e, h => by cases e; simpa [Reps] using h
  | .str i :: r, vs, zs, e, h => by
    simp only [strsOf] at e
    cases q : strsOf r with
    | none => rw [q] at e; cases e
    | some m =>
      rw [q] at e; cases e
      simp only [Reps, Rep] at h
      obtain ⟨v, r', rfl, rfl, h2⟩ := h
      rw [Reps.strs q h2]; rfl
  | .non :: _, _, _, h, _ | .int _ :: _, _, _, h, _ | .bl _ :: _, _, _, h, _ | .lst _ :: _, _, _, h, _ | .tup _ :: _, _, _, h, _ | .dct _ _ :: _, _, _, h, _ | .dcT _ _ :: _, _, _, h, _ | .obj _ _ _ :: _, _, _, h, _ | .scr _ :: _, _, _, h, _ | .kt :: _, _, _, h, _ | .opq :: _, _, _, h, _ => by simp [strsOf] at h
def gJoin (o1 o2 : O) : R O := match o1.er with
  | .str a => (match o2.er.seq with
    | some ds => (match strsOf ds with
      | some ys => if decide ((ys.map (·.length)).sum + ys.length * a.length ≤ 16777216) then .ok (.lf .fz (.str (Txt.join a ys))) else .no
      | none => .no)
    | none => .no)
  | _ => .no
def isSO (o : O) : Bool := match o.er with
  | .str _ => true
  | _ => false
theorem ve_join {apos : Pos} (ho : VE X a ma) (he : VE X b mb) (hs : starEach [b] X.env = [(false, eval b X.env)] := by rfl) (hbase : attributeBase a "join" X.env (eval a X.env) = eval a X.env := by rfl) (hline : (apos.endLine == pos.line) = true := by rfl) :
    VE X (.Call (.Attribute a "join" apos) [b] [] pos) (eMeth isSO gJoin ma mb) := fun W tk w hc =>
  (pe_join (ho W tk w hc) (he W tk w hc) hs hbase hline).imp fun σ H Q h => by
    obtain ⟨env, G, h⟩ := rE_to h
    refine rE_of G ?_
    unfold eMeth isSO at h
    cases e : ma env with
    | no => rw [e] at h; exact h
    | ex x => rw [e] at h; exact h
    | ok o1 =>
      rw [e] at h
      intro v H1 F1 s1 p1 f1
      have q1 := RepO.at p1
      simp only [R.bind] at h
      cases eo : o1.er with
      | str z =>
        rw [eo] at h q1
        simp only [if_true] at h
        refine ⟨⟨z, q1⟩, rE_of (G.same s1) ?_⟩
        have h := Out.step s1 h
        cases e2 : mb env with
        | no => rw [e2] at h; exact h
        | ex x => rw [e2] at h; exact fun cls d H' F s r fr => h cls d H' F s r (fr.base s1)
        | ok o2 =>
          rw [e2] at h
          intro u H2 F2 s2 p2 f2
          have q2 := RepO.at p2
          simp only [R.bind] at h
          unfold gJoin at h
          rw [eo] at h
          simp only at h
          cases e3 : o2.er.seq with
          | none => rw [e3] at h; exact h.elim
          | some ds =>
            rw [e3] at h
            simp only at h
            cases e4 : strsOf ds with
            | none => rw [e4] at h; exact h.elim
            | some ys =>
              rw [e4] at h
              simp only at h
              split at h
              · rename_i hz
                obtain ⟨x, vs, rfl, hx, hr⟩ := seq_rep e3 q2
                have ev := Reps.strs e4 hr
                subst ev
                exact ⟨z, x, ys, q1, rfl, hx.imp (fun q => SqL.of q.1) (fun q => SqT.of q), of_decide_eq_true hz, out_str (Out.step s2 h)⟩
              · exact h.elim
      | _ => rw [eo] at h; exact h.elim
end
end VL
namespace VL
open PySem PySem.Spec PyProof.Rows L2
abbrev tS (l : List Nat) : Str := ⟨⟨l⟩⟩
abbrev oS (l : List Nat) : O := .lf .fz (.str (tS l))
section
variable {k k' : Kd} {l m : List Nat} {c : Nat} {i j : Int} {env : DEnv} {ma mb mc : DEnv → R O} {g1 g2 : O → O → R O} {o : O} {ds : List D}
@[simp] theorem eCh_ev : eCh g1 g2 ma mb mc env = (ma env).bind fun x => (mb env).bind fun y => (g1 x y).bind fun z => (asB z).bind fun k => if k then (mc env).bind fun u => g2 y u else .ok (.lf .fz (.bl false)) := (rfl)
@[simp] theorem gIn_sg : gIn (.lf k (.str (tS [c]))) (.lf k' (.str (tS l))) = .ok (ob (decide (c ∈ l))) := (rfl)
@[simp] theorem gNIn_sg : gNIn (.lf k (.str (tS [c]))) (.lf k' (.str (tS l))) = .ok (ob (!decide (c ∈ l))) := (rfl)
theorem szif {α : Type} {n : Nat} {r : R α} : (if szOk n = true then r else .no) = gd (n ≤ 16777216) r := by
  rw [← gd_eq]; unfold szOk
  by_cases h : n ≤ 16777216
  · rw [if_pos (decide_eq_true h), if_pos h]
  · rw [if_neg (by simpa using h), if_neg h]
@[simp] theorem gLen_str : gLen (.lf k (.str (tS l))) = gd (l.length ≤ 16777216) (.ok (oi l.length)) := by
  rw [← szif]
  show (match (if szOk l.length then some l.length else none) with
    | some n => R.ok (oi n)
    | none => .no) = _
  by_cases h : szOk l.length = true
  · rw [if_pos h, if_pos h]
  · rw [if_neg h, if_neg h]
@[simp] theorem gIx_str : gIx (.lf k (.str (tS l))) (oi i) = gd (l.length ≤ 16777216) ((optR (atI l i)).bind fun c => .ok (oS [c])) := by
  rw [← szif]
  show (if szOk l.length then (match atI l i with
      | some c => R.ok (oS [c])
      | none => .no) else .no) = _
  cases atI l i <;> rfl
@[simp] theorem gPlus_str : gPlus (.lf k (.str (tS l))) (.lf k' (.str (tS m))) = gd (l.length + m.length ≤ 16777216) (.ok (oS (l ++ m))) := by
  rw [← szif]
  show (if szOk (l.length + m.length) then R.ok (O.lf .fz (.str (tS l ++ tS m))) else .no) = _
  have : (tS l ++ tS m : Str) = tS (l ++ m) := by
    show (⟨(⟨l⟩ : Array Nat) ++ ⟨m⟩⟩ : Str) = _
    simp
  rw [this]
@[simp] theorem gTimes_str : gTimes (.lf k (.str (tS l))) (oi i) = gd (-(2 ^ 63) ≤ i ∧ i < 2 ^ 63 ∧ l.length * i.toNat ≤ 16777216) (.ok (oS (List.replicate i.toNat l).flatten)) := by
  show (if (decide (-(2 ^ 63) ≤ i) && decide (i < 2 ^ 63) && szOk (l.length * i.toNat)) = true then R.ok (O.lf .fz (.str (repS (tS l) i.toNat))) else .no) = _
  rw [← gd_eq]
  have : repS (tS l) i.toNat = tS (List.replicate i.toNat l).flatten := rfl
  rw [this]
  by_cases h : -(2 ^ 63) ≤ i ∧ i < 2 ^ 63 ∧ l.length * i.toNat ≤ 16777216
  · rw [if_pos h, if_pos]
    simp only [Bool.and_eq_true, decide_eq_true_eq]
    exact ⟨⟨h.1, h.2.1⟩, decide_eq_true h.2.2⟩
  · rw [if_neg h, if_neg]
    simp only [Bool.and_eq_true, decide_eq_true_eq]
    exact fun q => h ⟨q.1.1, q.1.2, of_decide_eq_true q.2⟩
@[simp] theorem gSl_str {lo hi : Option Int} : gSl (.lf k (.str (tS l))) lo hi = gd (l.length ≤ 16777216) (.ok (oS (cutA l lo hi))) := by
  rw [← szif]; rfl
@[simp] theorem jStr_ev : jStr ma env = (ma env).bind fun o => match o.er with
  | .str z => .ok (true, z.cps.toList.map sgO)
  | _ => .no := (rfl)
@[simp] theorem sgO_eq : sgO c = oS [c] := (rfl)
@[simp] theorem isSO_str : isSO (.lf k (.str (tS l))) = true := (rfl)
@[simp] theorem strsOf_nil : strsOf [] = some [] := (rfl)
@[simp] theorem strsOf_cons {z : Str} : strsOf (.str z :: ds) = (strsOf ds).map (z :: ·) := by simp [strsOf]
@[simp] theorem strsOf_map {α : Type} {f : α → Str} {xs : List α} : strsOf (xs.map fun x => D.str (f x)) = some (xs.map f) := by
  induction xs with
  | nil => rfl
  | cons x r ih => rw [List.map_cons, strsOf_cons, ih]; rfl
theorem foldl_cat : ∀ (ys : List Str) (acc : Array Nat), (ys.foldl (fun acc p => acc ++ (#[] : Array Nat) ++ p.cps) acc).toList = acc.toList ++ (ys.map fun y => y.cps.toList).flatten
  | [], acc => by simp
  | y :: ys, acc => by rw [List.foldl_cons, foldl_cat ys]; simp
theorem join_nil {ys : List Str} : Txt.join (tS []) ys = tS (ys.map fun y => y.cps.toList).flatten := by
  unfold Txt.join Builtin.Str.glued
  cases ys with
  | nil => rfl
  | cons y r =>
    show (⟨r.foldl (fun acc p => acc ++ (#[] : Array Nat) ++ p.cps) y.cps⟩ : Str) = _
    have := foldl_cat r y.cps
    congr 1
    apply Array.toList_inj.mp
    rw [this]
    simp
theorem gJoin_nil {ys : List Str} {o : O} (h : o.er.seq.bind strsOf = some ys) : gJoin (.lf k (.str (tS []))) o = gd ((ys.map fun y : Str => y.length).sum ≤ 16777216) (.ok (oS (ys.map fun y => y.cps.toList).flatten)) := by
  cases e : o.er.seq with
  | none => rw [e] at h; cases h
  | some ds =>
    rw [e] at h
    have h : strsOf ds = some ys := h
    unfold gJoin
    rw [e]
    show (match strsOf ds with
      | some ys => if decide ((ys.map fun y : Str => y.length).sum + ys.length * 0 ≤ 16777216) = true then R.ok (O.lf .fz (.str (Txt.join (tS []) ys))) else .no
      | none => R.no) = _
    rw [h]
    show (if decide ((ys.map fun y : Str => y.length).sum + ys.length * 0 ≤ 16777216) = true then R.ok (O.lf .fz (.str (Txt.join (tS []) ys))) else .no) = _
    rw [Nat.mul_zero, Nat.add_zero, ← gd_eq, join_nil]
    by_cases h : (ys.map fun y : Str => y.length).sum ≤ 16777216
    · rw [if_pos (decide_eq_true h), if_pos h]
    · rw [if_neg (by simpa using h), if_neg h]
@[simp] theorem seq_lst : (D.lst ds).seq = some ds := (rfl)
@[simp] theorem seq_tup : (D.tup ds).seq = some ds := (rfl)
theorem strOk_tS : PySem.PyData.strOk (tS l) = l.all (· < 0x110000) := by
  unfold PySem.PyData.strOk
  rw [← Array.all_toList]
end
end VL
namespace VL
open PySem PySem.Spec PyProof.Rows L2
section
variable {k : Kd} {ds : List D}
def blsD : D → Option (List Bool)
  | .lst ds => blsOf ds
  | _ => none
@[simp] theorem allB_ev {o : O} : VL.allB o = (optR (blsD o.er)).bind fun bs => .ok (ob (bs.all id)) := by
  unfold VL.allB blsD
  cases o.er with
  | lst ds =>
    show (match blsOf ds with
      | some bs => R.ok (O.lf .fz (.bl (bs.all id)))
      | none => .no) = (optR (blsOf ds)).bind fun bs => R.ok (ob (bs.all id))
    cases blsOf ds <;> rfl
  | _ => rfl
@[simp] theorem blsD_map {α : Type} {f : α → Bool} {xs : List α} : blsD (.lst (xs.map fun x => D.bl (f x))) = some (xs.map f) := by
  have := blsOf_map (xs.map f)
  rw [List.map_map] at this
  exact this
@[simp] theorem blsD_nil : blsD (.lst []) = some [] := (rfl)
@[simp] theorem blsD_cons {b : Bool} : blsD (.lst (.bl b :: ds)) = (blsD (.lst ds)).map (b :: ·) := by
  show blsOf (.bl b :: ds) = _
  simp [blsOf, blsD]
@[simp] theorem gEq_bl {a b : Bool} : gEq (ob a) (ob b) = .ok (ob (a == b)) := by cases a <;> cases b <;> rfl
@[simp] theorem gNe_bl {a b : Bool} : gNe (ob a) (ob b) = .ok (ob (!(a == b))) := by cases a <;> cases b <;> rfl
@[simp] theorem all_map_id {α : Type} {f : α → Bool} {xs : List α} : (xs.map f).all id = xs.all f := by rw [List.all_map]; rfl
end
end VL
namespace VL
open PySem PySem.Spec PyProof.Rows L2
def dkey : D → Option Key
  | .int i => some (.inl i)
  | .str z => some (.inr z)
  | _ => none
def dkeys : List D → Option (List Key)
  | [] => some []
  | d :: ds => match dkey d, dkeys ds with
    | some k, some ks => some (k :: ks)
    | _, _ => none
def tkey : D → Option (List Key)
  | .tup ds => dkeys ds
  | _ => none
def lkK {κ α : Type} [DecidableEq κ] (k : κ) : List κ → List α → Option α
  | g :: ks, x :: xs => if g = k then some x else lkK k ks xs
  | _, _ => none
def putKs {κ : Type} [DecidableEq κ] (k : κ) : List κ → List κ
  | g :: ks => if g = k then g :: ks else g :: putKs k ks
  | [] => [k]
def putOs {κ α : Type} [DecidableEq κ] (k : κ) (o : α) : List κ → List α → List α
  | g :: ks, x :: xs => if g = k then o :: xs else x :: putOs k o ks xs
  | _, _ => [o]
section
variable {cl : Cl} {H : Hp} {S : Addr → Prop}
def cntK {κ : Type} [DecidableEq κ] (k : κ) (ks : List κ) : Nat := (ks.filter fun g => decide (g = k)).length
end
def dget (o1 o2 : O) : Option (Option O) := match o1 with
  | .lf kd (.dct ks ds) => (dkey o2.er).map fun k => (lkK k ks ds).map (lfk kd)
  | .lf kd (.dcT ks ds) => (tkey o2.er).map fun k => (lkK k ks ds).map (lfk kd)
  | _ => none
def gDix (o1 o2 : O) : R O := match dget o1 o2 with
  | some (some o) => .ok o
  | _ => .no
section
variable {X : Cx} {a b : Expr} {ma mb : DEnv → R O} {pos : Pos}
end
section
variable {f : Fm} {Z : Addr → Prop} {Fs : Nat → Addr → Prop} {env : VEnv} {σ : L2.St} {H : Hp}
end
section
variable {f : Fm} {Z : Addr → Prop} {Fs : Nat → Addr → Prop} {env : VEnv} {σ : L2.St} {H : Hp}
end
section
variable {X : Cx} {P : List Nat} {e a b : Expr} {ma mb : DEnv → R O} {mp : VEnv → Option (Nat × List Nat)} {pos : Pos}
end
end VL
namespace VL
open PySem PySem.Spec PyProof.Rows L2
def DcO (u : HO) : Prop := (∃ kvs, u = .dK kvs) ∨ ∃ kvs, u = .dT kvs
theorem DcO.nt {u : HO} (h : DcO u) : ntO u := by
  rcases h with ⟨_, rfl⟩ | ⟨_, rfl⟩ <;> exact True.intro
section
variable {cl : Cl} {H : Hp} {S : Addr → Prop} {a : Addr} {od : Obj} {u : HO}
theorem unl_ne {b : Addr} {w : HO} (h : H a = some (.frz od u)) (e : H b = some w) (n : ∀ o' u', w ≠ .frz o' u') : (upd H a u) b = some w := by
  rw [upd_ne (fun q => by rw [q, h] at e; cases e; exact n _ _ rfl)]; exact e
theorem unl_rd {b : Addr} {w : HO} (h : H a = some (.frz od u)) (r : Rd H b w) (n : ∀ o' u', w ≠ .frz o' u') : Rd (upd H a u) b w := by
  rcases r with e | ⟨o, e⟩
  · exact .inl (unl_ne h e n)
  · by_cases hb : b = a
    · subst hb
      rw [h] at e; cases e
      exact .inl upd_same
    · exact .inr ⟨o, by rw [upd_ne hb]; exact e⟩
mutual
theorem Rep.unl (h : H a = some (.frz od u)) : ∀ {d : D} {v : V}, Rep cl H S d v → Rep cl (upd H a u) S d v
  | .non, v, r => r
  | .bl _, v, r => r
  | .int _, v, r => r
  | .str _, v, r => r
  | .lst xs, v, r => by
    simp only [Rep] at r ⊢
    obtain ⟨b, vs, e, s, r, q⟩ := r
    exact ⟨b, vs, e, s, unl_ne h r (fun _ _ q => nomatch q), Reps.unl h q⟩
  | .scr xs, v, r => by
    simp only [Rep] at r ⊢
    obtain ⟨b, vs, e, r, q⟩ := r
    exact ⟨b, vs, e, r.imp (fun z => ⟨z.1, unl_rd h z.2 (fun _ _ q => nomatch q)⟩) id, Reps.unl h q⟩
  | .tup xs, v, r => by
    simp only [Rep] at r ⊢
    obtain ⟨b, vs, e, r, q⟩ := r
    exact ⟨b, vs, e, unl_ne h r (fun _ _ q => nomatch q), Reps.unl h q⟩
  | .dct ks xs, v, r => by
    simp only [Rep] at r ⊢
    obtain ⟨b, kvs, e, s, r, z, q⟩ := r
    exact ⟨b, kvs, e, s, unl_rd h r (fun _ _ q => nomatch q), z, Reps.unl h q⟩
  | .dcT ks xs, v, r => by
    simp only [Rep] at r ⊢
    obtain ⟨b, kvs, e, s, r, z, q⟩ := r
    exact ⟨b, kvs, e, s, unl_rd h r (fun _ _ q => nomatch q), z, Reps.unl h q⟩
  | .obj C fs xs, v, r => by
    simp only [Rep] at r ⊢
    obtain ⟨b, Ca, dx, kvs, e, s, c, r, z, q⟩ := r
    exact ⟨b, Ca, dx, kvs, e, s, c, unl_ne h r (fun _ _ q => nomatch q), z, Reps.unl h q⟩
  | .kt, v, r => r
  | .opq, v, r => by simp only [Rep]
theorem Reps.unl (h : H a = some (.frz od u)) : ∀ {ds : List D} {vs : List V}, Reps cl H S ds vs → Reps cl (upd H a u) S ds vs
  | [], vs, r => r
  | d :: ds, vs, r => by
    simp only [Reps] at r ⊢
    obtain ⟨v, q, e, h1, h2⟩ := r
    exact ⟨v, q, e, Rep.unl h h1, Reps.unl h h2⟩
end
end
section
variable {w : Wd} {H : Hp} {a : Addr} {od : Obj} {u : HO}
theorem RepXn.unl {C : String} {fs : List String} {ds : List D} {v : V} (h : H a = some (.frz od u)) (r : RepXn w H C fs ds v) : RepXn w (upd H a u) C fs ds v := by
  obtain ⟨b, Ca, d, e, x, c, r⟩ := r
  refine ⟨b, Ca, d, e, x, c, ?_⟩
  rcases r with r | ⟨dd, kvs, e1, z, r, e2, q⟩ | ⟨e1, e2, dd, kvs, e3, z, r⟩
  · exact .inl r
  · exact .inr (.inl ⟨dd, kvs, e1, z, unl_ne h r (fun _ _ q => nomatch q), e2, Reps.unl h q⟩)
  · exact .inr (.inr ⟨e1, e2, dd, kvs, e3, z, unl_ne h r (fun _ _ q => nomatch q)⟩)
mutual
theorem RepO.unl (h : H a = some (.frz od u)) : ∀ {o : O} {v : V} {F : Addr → Prop}, RepO w H o v F → RepO w (upd H a u) o v F
  | .lf x d, v, F, r => by
    simp only [RepO] at r ⊢
    exact Rep.unl h r
  | .lst xs, v, F, r => by
    simp only [RepO] at r ⊢
    obtain ⟨b, vs, G, e, r, fa, ga, sg, q⟩ := r
    exact ⟨b, vs, G, e, unl_ne h r (fun _ _ q => nomatch q), fa, ga, sg, RepOs.unl h q⟩
  | .tup xs, v, F, r => by
    simp only [RepO] at r ⊢
    obtain ⟨b, vs, e, r, q⟩ := r
    exact ⟨b, vs, e, unl_ne h r (fun _ _ q => nomatch q), RepOs.unl h q⟩
  | .dct ks xs, v, F, r => by
    simp only [RepO] at r ⊢
    obtain ⟨b, vs, G, e, r, z, fa, ga, sg, q⟩ := r
    exact ⟨b, vs, G, e, unl_ne h r (fun _ _ q => nomatch q), z, fa, ga, sg, RepOs.unl h q⟩
  | .dcT ks xs, v, F, r => by
    simp only [RepO] at r ⊢
    obtain ⟨b, vs, G, e, r, z, fa, ga, sg, q⟩ := r
    exact ⟨b, vs, G, e, unl_ne h r (fun _ _ q => nomatch q), z, fa, ga, sg, RepOs.unl h q⟩
  | .obj C fs xs, v, F, r => by
    simp only [RepO] at r ⊢
    obtain ⟨b, Ca, dx, vs, G, e, c, r, z, fa, ga, sg, q⟩ := r
    exact ⟨b, Ca, dx, vs, G, e, c, unl_ne h r (fun _ _ q => nomatch q), z, fa, ga, sg, RepOs.unl h q⟩
  | .xn C fs ds, v, F, r => by
    simp only [RepO] at r ⊢
    exact RepXn.unl h r
  | .xo C fs xs, v, F, r => by
    simp only [RepO] at r ⊢
    obtain ⟨b, Ca, dx, vs, G, e, x, c, r, z, fa, ga, sg, q⟩ := r
    exact ⟨b, Ca, dx, vs, G, e, x, c, unl_ne h r (fun _ _ q => nomatch q), z, fa, ga, sg, RepOs.unl h q⟩
theorem RepOs.unl (h : H a = some (.frz od u)) : ∀ {os : List O} {vs : List V} {F : Addr → Prop}, RepOs w H os vs F → RepOs w (upd H a u) os vs F
  | [], vs, F, r => r
  | o :: os, vs, F, r => by
    simp only [RepOs] at r ⊢
    obtain ⟨v, q, F1, F2, e, s1, s2, d, h1, h2⟩ := r
    exact ⟨v, q, F1, F2, e, s1, s2, d, RepO.unl h h1, RepOs.unl h h2⟩
end
theorem RepX.unl {x : Exn} {cls : Value} {d : Option Addr} {F : Addr → Prop} (h : H a = some (.frz od u)) (r : RepX w H x cls d F) : RepX w (upd H a u) x cls d F := by
  obtain ⟨Ca, c, e, r⟩ := r
  refine ⟨Ca, c, e, ?_⟩
  rcases r with r | ⟨b, kvs, G, e1, e2, e3, f, g, sg, r⟩
  · exact .inl r
  · exact .inr ⟨b, kvs, G, e1, unl_ne h e2 (fun _ _ q => nomatch q), e3, f, g, sg, RepOs.unl h r⟩
theorem NT.unl {b : Addr} (h : H a = some (.frz od u)) (hu : DcO u) (n : NT (H b)) : NT ((upd H a u) b) := by
  by_cases hb : b = a
  · subst hb
    exact ⟨u, upd_same, hu.nt⟩
  · obtain ⟨w, e, n⟩ := n
    exact ⟨w, by rw [upd_ne hb]; exact e, n⟩
end
section
variable {f : Fm} {Z : Addr → Prop} {Fs : Nat → Addr → Prop} {env : VEnv} {σ : L2.St} {H : Hp} {a : Addr} {od : Obj} {u : HO}
variable {Z2 : Addr → Prop} {Fs2 : Nat → Addr → Prop} {env2 : VEnv} {σ2 : L2.St} {H2 : Hp}
end
def keyD : Key → D
  | .inl i => .int i
  | .inr z => .str z
section
variable {X : Cx} {P : List Nat} {body : List Stmt} {m : VEnv → RS} {pos : Pos}
end
end VL
namespace VL
open PySem PySem.Spec PyProof.Rows L2
def gRev (o : O) : R O := match elems o with
  | some os => if o.er.isL then .ok (.lst os.reverse) else .no
  | none => .no
section
variable {X : Cx} {a : Expr} {ma : DEnv → R O} {pos : Pos}
end
def gListD (o : O) : R O := match o.er with
  | .dct ks _ => .ok (.lst (ks.map fun k => .lf .fz (keyD k)))
  | _ => .no
section
variable {X : Cx} {a : Expr} {ma : DEnv → R O} {pos : Pos}
end
section
variable {X : Cx} {tg iter elt kx vx : Expr} {ifs : List Expr} {scope : Scope} {own : List (Str × Nat)} {pos p1 : Pos} {src : DEnv → R (Bool × List O)} {asg : O → AsgE} {g : TG} {t : DEnv → R Bool} {me mk mv : DEnv → R O} {x : Str}
end
def dcL (asg : O → AsgE) (t : DEnv → R Bool) (mk mv : DEnv → R O) (env : DEnv) : List O → List Key → List O → R (List Key × List O)
  | [], ks, os => .ok (ks, os)
  | o :: r, ks, os => match asg o env with
    | none => .no
    | some e => match t e with
      | .ok false => dcL asg t mk mv env r ks os
      | .ok true => match mk e, mv e with
        | .ok ko, .ok y => (match dkey ko.er with
          | some k => if decide (cntK k ks ≤ 1) && decide (ks.length = os.length) then dcL asg t mk mv env r (putKs k ks) (putOs k y ks os) else .no
          | none => .no)
        | _, _ => .no
      | _ => .no
section
variable {X : Cx} {tg iter elt kx vx : Expr} {ifs : List Expr} {scope : Scope} {own : List (Str × Nat)} {pos p1 : Pos} {src : DEnv → R (Bool × List O)} {asg : O → AsgE} {g : TG} {t : DEnv → R Bool} {me mk mv : DEnv → R O} {x : Str}
structure DcI (w : Wd) (asg : O → AsgE) (t : DEnv → R Bool) (mk mv : DEnv → R O) (env : DEnv) (Fx : Addr → Prop) (items : List O) (H1 : Hp) (D : Addr) (total : List Key × List O) (i : Nat) (H' : Hp) : Prop where
  le : i ≤ items.length
  x : ∃ kvs F ks os, H' D = some (.dK kvs) ∧ Same H1 H' ∧ kvs.map (·.1) = ks ∧ RepOs (wx w Fx) H' os (kvs.map (·.2)) F ∧ Fresh H1 H' F ∧ ¬ F D ∧ kvs.length ≤ i ∧ dcL asg t mk mv env (items.drop i) ks os = .ok total
end
end VL
namespace VL
open PySem PySem.Spec PyProof.Rows L2
abbrev kS (l : List Nat) : Key := .inr (tS l)
abbrev dS (ns : List (List Nat)) (ds : List D) : D := .dct (ns.map kS) ds
abbrev tD (l : List Nat) : D := .str (tS l)
theorem tS_inj {l m : List Nat} : tS l = tS m ↔ l = m := ⟨fun h => by injection h with h; injection h, fun h => by rw [h]⟩
theorem kS_inj {l m : List Nat} : kS l = kS m ↔ l = m := ⟨fun h => by injection h with h; exact tS_inj.mp h, fun h => by rw [h]⟩
section
variable {k k' : Kd} {ks : List Key} {os : List O} {ds : List D} {ns : List (List Nat)} {l : List Nat} {o : O}
@[simp] theorem er_dct : (O.dct ks os).er = .dct ks (O.ers os) := (rfl)
@[simp] theorem imm_dct : (D.dct ks ds).imm = false := (rfl)
@[simp] theorem no_dct {q : Kd → Bool} : (O.dct ks os).no q = O.nos q os := (rfl)
@[simp] theorem own_dct : (O.dct ks os).own = O.owns os := (rfl)
@[simp] theorem frz_dct : frzO (.dct ks os) = if O.nos notFz os then some (.lf .fz (.dct ks (O.ers os))) else none := (rfl)
@[simp] theorem toArg_dct : toArg (.dct ks os) = if O.nos notFz os then .lf .fz (.dct ks (O.ers os)) else .lf .bo (.dct ks (O.ers os)) := (rfl)
@[simp] theorem lfk_dct : lfk k (.dct ks ds) = .lf k (.dct ks ds) := (rfl)
@[simp] theorem lendV_dct : lendV (some (some (.dct ks os))) = .ok (.lf .tb (.dct ks (O.ers os))) := (rfl)
@[simp] theorem lentO_dct : lentO (.dct ks os) = .lf .tb (.dct ks (O.ers os)) := (rfl)
@[simp] theorem frz_ok_dct [h : KOk k] : frzO (.lf k (.dct ks ds)) = some (.lf k (.dct ks ds)) := by
  cases k with
  | fz => rfl
  | bo => rfl
  | tb => exact absurd rfl h.1
def look {α : Type} (l : List Nat) (ns : List (List Nat)) (xs : List α) : Option α := lkK l ns xs
theorem lkK_kS {α : Type} : ∀ {ns : List (List Nat)} {xs : List α}, lkK (kS l) (ns.map kS) xs = look l ns xs
  | [], xs => by cases xs <;> rfl
  | m :: ns, [] => rfl
  | m :: ns, x :: xs => by
    show (if kS m = kS l then some x else lkK (kS l) (ns.map kS) xs) = if m = l then some x else look l ns xs
    rw [lkK_kS]
    by_cases h : m = l
    · rw [if_pos h, if_pos (kS_inj.mpr h)]
    · rw [if_neg h, if_neg (fun q => h (kS_inj.mp q))]
theorem dget_S : dget (.lf k (dS ns ds)) (.lf k' (.str (tS l))) = some ((look l ns ds).map (lfk k)) := by
  show some ((lkK (kS l) (ns.map kS) ds).map (lfk k)) = _
  rw [lkK_kS]
@[simp] theorem gDix_S : gDix (.lf k (dS ns ds)) (.lf k' (.str (tS l))) = (optR (look l ns ds)).bind fun d => .ok (lfk k d) := by
  unfold gDix
  rw [dget_S]
  cases look l ns ds <;> rfl
@[simp] theorem gListD_S : gListD (.lf k (dS ns ds)) = .ok (.lst (ns.map oS)) := by
  show R.ok (O.lst ((ns.map kS).map fun k => .lf .fz (keyD k))) = _
  rw [List.map_map]
  rfl
@[simp] theorem gRev_L {vs : List Int} : gRev (.lf k (iL vs)) = .ok (ol vs.reverse) := by
  show R.ok (O.lst ((vs.map D.int).map (lfk k)).reverse) = _
  rw [List.map_map, ← List.map_reverse]
  rfl
end
end VL
namespace VL
open PySem PySem.Spec PyProof.Rows L2
section
variable {X : Cx} {a b : Expr} {ta tb : TE} {ma mb : DEnv → R O} {pos : Pos} {CX : CXT} {k : Nat} {f C : Addr} {fd : FuncData} {ps : List Str} {sp : Sp} {E' : L2.St → XK}
end
end VL
namespace VL
open PySem PySem.Spec PyProof.Rows L2
section
variable {w w' : Wd} {H H' : Hp}
mutual
theorem RepO.pass (e : w'.cl.b = w.cl.b) (k : KeepS H H' w.Z w'.Z) : ∀ {o : O} {v : V} {F : Addr → Prop}, o.no notFz = true → (∀ a u, F a → H a = some u → H' a = some u) → RepO w H o v F → RepO w' H' o v F
  | .lf x d, v, F, n, f, h => by
    cases x with
    | fz =>
      simp only [RepO] at h ⊢
      exact Rep.cl e (Rep.keep k h)
    | bo => simp [O.no, notFz] at n
    | tb => simp [O.no, notFz] at n
  | .lst xs, v, F, n, f, h => by
    simp only [RepO] at h ⊢
    obtain ⟨a, vs, G, e1, r, fa, ga, sg, q⟩ := h
    exact ⟨a, vs, G, e1, f a _ fa r, fa, ga, sg, RepOs.pass e k (by simpa [O.no] using n) (fun b u z => f b u (sg b z)) q⟩
  | .tup xs, v, F, n, f, h => by
    simp only [RepO] at h ⊢
    obtain ⟨a, vs, e1, r, q⟩ := h
    exact ⟨a, vs, e1, k.2.2.1 a _ r, RepOs.pass e k (by simpa [O.no] using n) f q⟩
  | .dct ks xs, v, F, n, f, h => by
    simp only [RepO] at h ⊢
    obtain ⟨a, vs, G, e1, r, z, fa, ga, sg, q⟩ := h
    exact ⟨a, vs, G, e1, f a _ fa r, z, fa, ga, sg, RepOs.pass e k (by simpa [O.no] using n) (fun b u z => f b u (sg b z)) q⟩
  | .dcT ks xs, v, F, n, f, h => by
    simp only [RepO] at h ⊢
    obtain ⟨a, vs, G, e1, r, z, fa, ga, sg, q⟩ := h
    exact ⟨a, vs, G, e1, f a _ fa r, z, fa, ga, sg, RepOs.pass e k (by simpa [O.no] using n) (fun b u z => f b u (sg b z)) q⟩
  | .obj C fs xs, v, F, n, f, h => by
    simp only [RepO] at h ⊢
    obtain ⟨a, Ca, dx, vs, G, e1, c, r, z, fa, ga, sg, q⟩ := h
    exact ⟨a, Ca, dx, vs, G, e1, by rw [e]; exact c, f a _ fa r, z, fa, ga, sg, RepOs.pass e k (by simpa [O.no] using n) (fun b u z => f b u (sg b z)) q⟩
  | .xn C fs ds, v, F, n, f, h => by simp [O.no, notFz] at n
  | .xo C fs ds, v, F, n, f, h => by simp [O.no, notFz] at n
theorem RepOs.pass (e : w'.cl.b = w.cl.b) (k : KeepS H H' w.Z w'.Z) : ∀ {os : List O} {vs : List V} {F : Addr → Prop}, O.nos notFz os = true → (∀ a u, F a → H a = some u → H' a = some u) → RepOs w H os vs F → RepOs w' H' os vs F
  | [], vs, F, _, _, h => h
  | o :: os, vs, F, n, f, h => by
    simp only [RepOs] at h ⊢
    simp only [O.nos, Bool.and_eq_true] at n
    obtain ⟨v, r, F1, F2, e1, s1, s2, d, h1, h2⟩ := h
    exact ⟨v, r, F1, F2, e1, s1, s2, d, RepO.pass e k n.1 (fun a u z => f a u (s1 a z)) h1, RepOs.pass e k n.2 (fun a u z => f a u (s2 a z)) h2⟩
end
end
def ArgsRep (w : Wd) (H : Hp) (σ : L2.St) : List (Option Nat) → List O → List V → (Addr → Prop) → Prop
  | [], os, vs, _ => os = [] ∧ vs = []
  | some i :: sp, os, vs, F => ∃ v r, vs = v :: r ∧ σ[i]? = some (some v) ∧ ArgsRep w H σ sp os r F
  | none :: sp, os, vs, F => ∃ o q v r F1 F2, os = o :: q ∧ vs = v :: r ∧ Sub F1 F ∧ Sub F2 F ∧ Disj F1 F2 ∧ RepO w H o v F1 ∧ ArgsRep w H σ sp q r F2
theorem ArgsRep.same {w : Wd} {H H' : Hp} {σ : L2.St} (s : Same H H') : ∀ {sp : List (Option Nat)} {os : List O} {vs : List V} {F : Addr → Prop}, ArgsRep w H σ sp os vs F → ArgsRep w H' σ sp os vs F
  | [], _, _, _, h => h
  | some i :: sp, os, vs, F, h => let ⟨v, r, e, e1, h⟩ := h; ⟨v, r, e, e1, ArgsRep.same s h⟩
  | none :: sp, os, vs, F, h => let ⟨o, q, v, r, F1, F2, e1, e2, s1, s2, d, h1, h2⟩ := h; ⟨o, q, v, r, F1, F2, e1, e2, s1, s2, d, RepO.same s h1, ArgsRep.same s h2⟩
theorem ArgsRep.mono {w : Wd} {H : Hp} {σ : L2.St} : ∀ {sp : List (Option Nat)} {os : List O} {vs : List V} {F G : Addr → Prop}, Sub F G → ArgsRep w H σ sp os vs F → ArgsRep w H σ sp os vs G
  | [], _, _, _, _, _, h => h
  | some i :: sp, os, vs, F, G, s, h => let ⟨v, r, e, e1, h⟩ := h; ⟨v, r, e, e1, ArgsRep.mono s h⟩
  | none :: sp, os, vs, F, G, s, h => let ⟨o, q, v, r, F1, F2, e1, e2, s1, s2, d, h1, h2⟩ := h; ⟨o, q, v, r, F1, F2, e1, e2, fun a z => s a (s1 a z), fun a z => s a (s2 a z), d, h1, h2⟩
theorem ArgsRep.len {w : Wd} {H : Hp} {σ : L2.St} : ∀ {sp : List (Option Nat)} {os : List O} {vs : List V} {F : Addr → Prop}, ArgsRep w H σ sp os vs F → vs.length = sp.length
  | [], _, _, _, h => by rw [h.2]; rfl
  | some i :: sp, os, vs, F, h => by obtain ⟨v, r, rfl, _, h⟩ := h; simp [ArgsRep.len h]
  | none :: sp, os, vs, F, h => by obtain ⟨o, q, v, r, F1, F2, rfl, rfl, _, _, _, _, h⟩ := h; simp [ArgsRep.len h]
theorem ArgsRep.at {w : Wd} {H : Hp} {σ : L2.St} : ∀ {sp : List (Option Nat)} {os : List O} {vs : List V} {F : Addr → Prop} {q i : Nat}, ArgsRep w H σ sp os vs F → sp[q]? = some (some i) → ∃ v, vs[q]? = some v ∧ σ[i]? = some (some v)
  | [], _, _, _, q, i, h, e => by simp at e
  | some j :: sp, os, vs, F, 0, i, h, e => by
    obtain ⟨v, r, rfl, e1, h⟩ := h
    simp at e; subst e
    exact ⟨v, rfl, e1⟩
  | none :: sp, os, vs, F, 0, i, h, e => by simp at e
  | some j :: sp, os, vs, F, q + 1, i, h, e => by
    obtain ⟨v, r, rfl, e1, h⟩ := h
    obtain ⟨u, e2, e3⟩ := ArgsRep.at h (by simpa using e)
    exact ⟨u, by simpa using e2, e3⟩
  | none :: sp, os, vs, F, q + 1, i, h, e => by
    obtain ⟨o, p, v, r, F1, F2, rfl, rfl, _, _, _, _, h⟩ := h
    obtain ⟨u, e2, e3⟩ := ArgsRep.at h (by simpa using e)
    exact ⟨u, by simpa using e2, e3⟩
def rQ (w : Wd) (W : WX) (sp : List (Option Nat)) (m : DEnv → R (List O)) : TA := fun σ H Q => ∃ env, GoodE w env σ H ∧ (∀ i, some i ∈ sp → ∃ v, σ[i]? = some (some v)) ∧ match m env with
  | .ok os => ∀ vs H' F, Same H H' → ArgsRep w H' σ sp os vs F → Fresh H H' F → Q vs H'
  | .ex x => ∀ cls d H' F, Same H H' → RepX w H' x cls d F → Fresh H H' F → W cls d σ H'
  | .no => False
def VQ (X : Cx) (es : List Expr) (sp : List (Option Nat)) (m : DEnv → R (List O)) : Prop := ∀ (W : WX), Takes X W → ∀ w : Wd, ClOk X w.cl → PA X es (rQ w W sp m)
section
variable {X : Cx} {a : Expr} {es : List Expr} {ma : DEnv → R O} {mA : DEnv → R (List O)} {sp : List (Option Nat)} {x : Str} {pos : Pos}
end
def backW : Nat → List (Option Nat) → VEnv → VEnv → Option VEnv
  | _, [], _, env => some env
  | q, none :: sp, env', env => backW (q + 1) sp env' env
  | q, some i :: sp, env', env => (match env'[q]? with
    | some (some o) => if o.no notFz then backW (q + 1) sp env' (env.set i (some o)) else none
    | _ => none)
section
variable {f : Fm} {Z : Addr → Prop} {Fs : Nat → Addr → Prop} {env : VEnv} {σ : L2.St} {H H1 : Hp} {sp : List (Option Nat)} {F1 : Addr → Prop}
def restF (sp : List (Option Nat)) (Fs : Nat → Addr → Prop) : Nat → Addr → Prop := fun j a => ¬ some j ∈ sp ∧ Fs j a
end
section
variable {X : Cx} {P : List Nat} {a : Expr} {es : List Expr} {mA : DEnv → R (List O)} {sp : List (Option Nat)} {x : Str} {pos p : Pos}
end
end VL
namespace VL
open PySem PySem.Spec PyProof.Rows L2
section
variable {X : Cx} {P : List Nat} {a : Expr} {es : List Expr} {mA : DEnv → R (List O)} {sp : List (Option Nat)} {x : Str} {pos p : Pos} {n : Nat} {m : VEnv → RS} {f : Fm} {W : WX}
theorem VQ.ef (h : VQ X es sp mA) (tk : Takes X W) (hf : FOk X P f) : PA X es (fun σ H Q => ∃ Z Fs, rQ (tw f Z (restF sp Fs)) W sp mA σ H Q) := ⟨fun pos pins s σ H Q I ⟨Z, Fs, q⟩ => (h W tk (tw f Z (restF sp Fs)) hf.1).run pos pins s σ H Q I q⟩
theorem VQ.ew (h : VQ X es sp mA) (tk : Takes X W) : PA X es (fun σ H Q => ∃ w : Wd, ClOk X w.cl ∧ rQ w W sp mA σ H Q) := ⟨fun pos pins s σ H Q I ⟨w, hc, q⟩ => (h W tk w hc).run pos pins s σ H Q I q⟩
end
end VL
namespace VL
open PySem PySem.Spec PyProof.Rows L2
abbrev Clause := Value × Nat × (Addr → Value → Option Addr → TS)
inductive Clauses (X : Cx) : List ExceptHandler → List Clause → Prop
  | nil : Clauses X [] []
  | cons {x n : Str} {c : Value} {i : Nat} {ts : Addr → Value → Option Addr → TS} {b₀ : Stmt} {suite : List Stmt} {np q : Pos} {hds : List ExceptHandler} {l : List Clause} (hi : X.N[i]? = some n) (hl : X.env.kindOf n = some .local) (hc : Names X x c)
      (hs : ∀ (a : Addr) (ob : Obj) (cls : Value) (d : Option Addr) (pn : List (Addr × Obj)), Zc cls d ob → (∃ vs, ob.data = .fields vs) → PSs (X.suite a ((a, ob) :: pn)) (b₀ :: suite) (ts a cls d)) (r : Clauses X hds l) : Clauses X (.ExceptHandler (some (.Name x np)) (some n) (b₀ :: suite) q :: hds) ((c, i, ts) :: l)
section
variable {X : Cx} {body : List Stmt} {h₀ : ExceptHandler} {hds : List ExceptHandler} {l : List Clause} {pos : Pos} {tb : WX → TS} {Wo : WX}
end
def tryGo (x : Exn) (e : VEnv) : List (String × Nat × (VEnv → RS)) → RS
  | [] => if badE x.cls then .ex x e else .no
  | z :: l => if subE x.cls z.1 then (if O.nos notFz x.xs && decide (z.2.1 < e.length) then sOut z.2.1 (z.2.2 (e.set z.2.1 (some (.xn x.cls x.fs (O.ers x.xs))))) else .no) else tryGo x e l
inductive VCl (X : Cx) (P : List Nat) (E : Errs) : List ExceptHandler → List (String × Nat × (VEnv → RS)) → Prop
  | nil : VCl X P E [] []
  | cons {x n : Str} {D : String} {i : Nat} {m2 : VEnv → RS} {b₀ : Stmt} {suite : List Stmt} {np q : Pos} {hds : List ExceptHandler} {l : List (String × Nat × (VEnv → RS))} (hsu : ∀ (a : Addr) (oe : Obj) (pn : List (Addr × Obj)), VB (X.suite a ((a, oe) :: pn)) P (b₀ :: suite) m2) (hi : X.N[i]? = some n) (hln : X.env.kindOf n = some .local) (hD : E.has D = true) (hx : x = Str.ofString D) (hg : Gl X x) (hdb : (x == ("__debug__" : Str)) = false) (hP : P.contains i = false) (r : VCl X P E hds l) :
      VCl X P E (.ExceptHandler (some (.Name x np)) (some n) (b₀ :: suite) q :: hds) ((D, i, m2) :: l)
section
variable {X : Cx} {P : List Nat} {E : Errs}
end
end VL
namespace VL
open PySem PySem.Spec PyProof.Rows L2
section
variable {X : Cx} {P : List Nat} {e a : Expr} {es : List Expr} {kws : List Keyword} {mA : DEnv → R (List O)} {me : DEnv → R O} {sp : List (Option Nat)} {x kw : Str} {pos p : Pos} {n k : Nat} {m : VEnv → RS} {W : WX} {w : Wd} {CX : CXT} {f C : Addr} {fd : FuncData} {ps ks : List Str} {S : Sp} {E' : L2.St → XK} {mn : Str} {o : Expr} {ta : TE} {t tk : TA} {g : List Value → List Value → List Value} {gV : List V → List V → List V} {dvs : List V} {ds : List Value} {apos : Pos}
def OkMK (P : Program) (w : World) (K : PySem.W.Frag) (mg : Str → Option Value) (base : Heap) (C mn : String) (N ps : List Str) (kw : Str) (dv : V) (j : Nat) (pi : List Nat) (m : VEnv → RS) (k : Nat) : Prop :=
  ∃ Ca f fd, mg (Str.ofString C) = some (.ref Ca) ∧ Cls K Ca ∧ Meth K Ca (Str.ofString mn) f ∧ (∃ ds, Vals [dv] ds ∧ Binds K fd ps ds) ∧ KBn K fd ps (j + 1) [kw] (fun us ws => us ++ ws) (fun vs zs => vs ++ zs) ∧ FnOk P w K mg base (CXv mg P w) k f fd ps (SpV K mg N ps.length pi m)
theorem VA.ew (h : VA X es mA) (tk : Takes X W) : PA X es (fun σ H Q => ∃ w : Wd, ClOk X w.cl ∧ rA w W mA σ H Q) := ⟨fun pos pins s σ H Q I ⟨w, hc, q⟩ => (h W tk w hc).run pos pins s σ H Q I q⟩
theorem VE.ew (h : VE X e me) (tk : Takes X W) : PE X e (fun σ H Q => ∃ w : Wd, ClOk X w.cl ∧ rE w W me σ H Q) := ⟨fun pins s σ H Q I ⟨w, hc, q⟩ => (h W tk w hc).run pins s σ H Q I q⟩
end
end VL
namespace L2
open PySem PySem.Spec PyProof.Rows
def ItLs (t it : Addr) (i : Nat) : HO := .ext fun h => h.IsListIter it t i
section
variable {X : Cx}
def spItL (K : PySem.W.Frag) (F : Str) : Sp := fun vs H Q _ => ∃ (a C dx : Addr) (fs : List (Str × V)) (t : Addr) (zs : List V), vs = [.ref a] ∧ H a = some (.ins C dx fs) ∧ Cls K C ∧ NoAttr K C F ∧ fs.lookup F = some (.ref t) ∧ SqL K H t zs ∧
  ∀ it, H it = none → (∀ b, H b ≠ none → b < it) → Q (.ref it) (upd H it (ItLs t it 0))
def sItL (K : PySem.W.Frag) (F : Str) (i : Nat) : TS := fun D σ H => ∃ (a C dx : Addr) (fs : List (Str × V)) (t : Addr) (zs : List V), σ[i]? = some (some (.ref a)) ∧ H a = some (.ins C dx fs) ∧ Cls K C ∧ NoAttr K C F ∧ fs.lookup F = some (.ref t) ∧ SqL K H t zs ∧
  ∀ it, H it = none → (∀ b, H b ≠ none → b < it) → D.rt (.ref it) (upd H it (ItLs t it 0))
variable {pins : List (Addr × Obj)} {σ : L2.St} {A1 : Around} {q it t : Addr} {zs : List V} {Hd : Hp}
end
structure ItC2 (K : PySem.W.Frag) (C fi fl : Addr) : Prop where
  it : PySem.W.findIn K (.ref C) "__iter__" = some (some (.ref fi))
  itF : PySem.W.isFn K (.ref fi) = true
  ln : PySem.W.findIn K (.ref C) "__len__" = some (some (.ref fl))
  lnF : PySem.W.isFn K (.ref fl) = true
def spLn (K : PySem.W.Frag) (F : Str) : Sp := fun vs H Q _ => ∃ (a C dx : Addr) (fs : List (Str × V)) (t : Addr) (zs : List V), vs = [.ref a] ∧ H a = some (.ins C dx fs) ∧ Cls K C ∧ NoAttr K C F ∧ fs.lookup F = some (.ref t) ∧ SqL K H t zs ∧ Q (.int zs.length) H
def sLn (K : PySem.W.Frag) (F : Str) (i : Nat) : TS := fun D σ H => ∃ (a C dx : Addr) (fs : List (Str × V)) (t : Addr) (zs : List V), σ[i]? = some (some (.ref a)) ∧ H a = some (.ins C dx fs) ∧ Cls K C ∧ NoAttr K C F ∧ fs.lookup F = some (.ref t) ∧ SqL K H t zs ∧ D.rt (.int zs.length) H
section
variable {X : Cx} {pins : List (Addr × Obj)} {σ : L2.St} {A : Around} {a C fi fl t dx : Addr} {F : Str} {zs : List V} {H : Hp} {s : Shared} {fs : List (Str × V)} {fdL : FuncData} {n : Nat} {E : Value → Shared → Prop}
end
section
variable {X : Cx} {pins : List (Addr × Obj)} {σ : L2.St} {A1 : Around} {a q C fi fl t dx : Addr} {F : Str} {zs : List V} {H : Hp} {s : Shared} {fs : List (Str × V)} {fdI fdL : FuncData} {n : Nat}
end
end L2
namespace VL
open PySem PySem.Spec PyProof.Rows L2
def OkItL (P : Program) (w : World) (K : PySem.W.Frag) (mg : Str → Option Value) (base : Heap) (C F : String) (k : Nat) : Prop :=
  ∃ Ca fi fl fd fdl, mg (Str.ofString C) = some (.ref Ca) ∧ Cls K Ca ∧ NoAttr K Ca (Str.ofString F) ∧ ItC2 K Ca fi fl ∧ (Binds K fd ["self"] [] ∧ FnOk P w K mg base (CXv mg P w) k fi fd ["self"] (spItL K (Str.ofString F))) ∧ Binds K fdl ["self"] [] ∧ FnOk P w K mg base (CXv mg P w) k fl fdl ["self"] (spLn K (Str.ofString F))
section
variable {X : Cx} {a : Expr} {ma : DEnv → R O} {pos q : Pos}
end
def FnItL (K : PySem.W.Frag) (mg : Str → Option Value) (C F : String) (q1 : Str) (s1 : Stmt) (q2 : Str) (s2 : Stmt) : Prop := ∃ Ca f fd g gd, mg (Str.ofString C) = some (.ref Ca) ∧ Cls K Ca ∧ NoAttr K Ca (Str.ofString F) ∧ ItC2 K Ca f g ∧ (Fun K "__iter__" q1 s1 f fd ∧ Binds K fd ["self"] []) ∧ Fun K "__len__" q2 s2 g gd ∧ Binds K gd ["self"] []
theorem FnItL.ok {P : Program} {w : World} {K : PySem.W.Frag} {mg : Str → Option Value} {base : Heap} {C F : String} {q1 q2 : Str} {s1 s2 : Stmt} (T : FnItL K mg C F q1 s1 q2 s2) (S1 : FnScope ["self"] ["self"] (defScope s1)) (S2 : FnScope ["self"] ["self"] (defScope s2))
    (h1 : ∀ (f : Addr) (cdv : Value) (A : Around) (outer : List Env) (s : Shared) (H : Hp) (E : XK), PSs (cxOf (CXv mg P w) P w K mg base ["self"] q1 (defScope s1) f cdv A outer s H E) (defBody s1) (sItL K (Str.ofString F) 0))
    (h2 : ∀ (f : Addr) (cdv : Value) (A : Around) (outer : List Env) (s : Shared) (H : Hp) (E : XK), PSs (cxOf (CXv mg P w) P w K mg base ["self"] q2 (defScope s2) f cdv A outer s H E) (defBody s2) (sLn K (Str.ofString F) 0)) : OkItL P w K mg base C F 1 := by
  obtain ⟨Ca, f, fd, g, gd, hm, c, na, I, ⟨F1, b1⟩, F2, b2⟩ := T
  refine ⟨Ca, f, g, fd, gd, hm, c, na, I, ⟨b1, okC (k := 0) F1 S1 (fun vs H Q E h => ?_) (fun cdv A outer s H vs Q E hr h => ?_)⟩, b2, okC (k := 0) F2 S2 (fun vs H Q E h => ?_) (fun cdv A outer s H vs Q E hr h => ?_)⟩
  · obtain ⟨a, _, _, _, _, _, rfl, _⟩ := h
    rfl
  · obtain ⟨a, C', dx, fs, t, zs, rfl, hH, c', n', hl, hs, q⟩ := h
    exact ⟨sItL K (Str.ofString F) 0, h1 f cdv A outer s H E, a, C', dx, fs, t, zs, rfl, hH, c', n', hl, hs, q⟩
  · obtain ⟨a, _, _, _, _, _, rfl, _⟩ := h
    rfl
  · obtain ⟨a, C', dx, fs, t, zs, rfl, hH, c', n', hl, hs, q⟩ := h
    exact ⟨sLn K (Str.ofString F) 0, h2 g cdv A outer s H E, a, C', dx, fs, t, zs, rfl, hH, c', n', hl, hs, q⟩
end VL
namespace VL
open PySem PySem.Spec PyProof.Rows L2
section
variable {P : Program} {w : World} {K : PySem.W.Frag} {mg : Str → Option Value} {base : Heap} {C mn : String} {x kw qual : Str} {st : Stmt} {N ps : List Str} {k j : Nat} {pi : List Nat} {m : VEnv → RS} {dv : V}
def FnMK (K : PySem.W.Frag) (mg : Str → Option Value) (C mn : String) (qual : Str) (st : Stmt) (ps : List Str) (kw : Str) (dv : V) (j : Nat) : Prop := ∃ Ca f fd, mg (Str.ofString C) = some (.ref Ca) ∧ Cls K Ca ∧ Meth K Ca (Str.ofString mn) f ∧ Fun K (Str.ofString mn) qual st f fd ∧ (∃ ds, Vals [dv] ds ∧ Binds K fd ps ds) ∧ KBn K fd ps (j + 1) [kw] (fun us ws => us ++ ws) (fun vs zs => vs ++ zs)
theorem FnMK.ok (T : FnMK K mg C mn qual st ps kw dv j) (S : FnScope N ps (defScope st))
    (hb : ∀ (f : Addr) (cdv : Value) (A : Around) (outer : List Env) (s : Shared) (H : Hp) (E : XK), Room k (A.deeper (envOfC qual (defScope st) s.heap.objs.size f cdv)) → VB (cxOf (CXv mg P w) P w K mg base N qual (defScope st) f cdv A outer s H E) pi (defBody st) m) : OkMK P w K mg base C mn N ps kw dv j pi m (k + 1) := by
  obtain ⟨Ca, f, fd, hm, c, M, F, hd, hbn⟩ := T
  exact ⟨Ca, f, fd, hm, c, M, hd, hbn, fn_v F S (hb f)⟩
end
end VL
namespace VL
open PySem PySem.Spec PyProof.Rows L2
theorem walkV_app {H : Hp} {n : Nat} : ∀ {p : List Nat} {v w : V}, walkV H v p = some w → walkV H v (p ++ [n]) = kidV H w n
  | [], v, w, h => by
    cases h
    show (kidV H v n).bind (fun k => walkV H k []) = _
    cases kidV H v n <;> rfl
  | m :: p, v, w, h => by
    simp only [walkV, List.cons_append] at h ⊢
    cases e : kidV H v m with
    | none => rw [e] at h; cases h
    | some k => rw [e] at h; exact walkV_app (p := p) h
section
variable {X : Cx} {P : List Nat} {E : Errs} {a : Expr} {mp : VEnv → Option (Nat × List Nat)} {pos : Pos} {x : Str}
end
end VL
namespace VL
open PySem PySem.Spec PyProof.Rows L2
def liftT (t : DEnv → R Bool) : VEnv → RX Bool := fun env => match t (dl env) with
  | .ok b => .ok b env
  | .ex x => if O.nos isTb x.xs then .ex x env else .no
  | .no => .no
def truX (mx : VEnv → RX O) : VEnv → RX Bool := fun env => match mx env with
  | .ok o e => (match truD o.er with
    | some b => .ok b e
    | none => .no)
  | .ex x e => .ex x e
  | .no => .no
def notX (m : VEnv → RX Bool) : VEnv → RX Bool := fun env => match m env with
  | .ok b e => .ok (!b) e
  | .ex x e => .ex x e
  | .no => .no
def orX (m m' : VEnv → RX Bool) : VEnv → RX Bool := fun env => match m env with
  | .ok b e => if b then .ok true e else m' e
  | .ex x e => .ex x e
  | .no => .no
def andX (m m' : VEnv → RX Bool) : VEnv → RX Bool := fun env => match m env with
  | .ok b e => if b then m' e else .ok false e
  | .ex x e => .ex x e
  | .no => .no
section
variable {X : Cx} {P : List Nat} {a b e : Expr} {rest : List Expr} {t : DEnv → R Bool} {mx : VEnv → RX O} {mA mB : VEnv → RX Bool} {pos : Pos} {m1 m2 : VEnv → RS} {sa sb : List Stmt}
end
end VL
namespace VL
open PySem PySem.Spec PyProof.Rows L2
section
variable {X : Cx} {kx vx : Expr} {mk mv : DEnv → R O} {pos : Pos}
end
end VL
namespace VL
open PySem PySem.Spec PyProof.Rows L2
section
variable {X : Cx} {P : List Nat} {a b : Expr} {mx : VEnv → RX O} {mb : DEnv → R O} {pos : Pos}
def bolX (mx : VEnv → RX O) : VEnv → RX Bool := fun env => match mx env with
  | .ok o e => (match o.er with
    | .bl b => .ok b e
    | _ => .no)
  | .ex x e => .ex x e
  | .no => .no
end
end VL
namespace VL
open PySem PySem.Spec PyProof.Rows L2
def Fm.hid (f : Fm) (j : Nat) (v : V) (Z : Addr → Prop) (Fs : Nat → Addr → Prop) (H1 : Hp) : Fm := { f with H0 := H1, F0 := fun a => ∃ i, i ≠ j ∧ Fs i a, Z0 := Z, pin := (j, v) :: f.pin }
theorem NT.nt {o : Option HO} {u : HO} (h : NT o) (e : o = some u) : nTb u := by
  obtain ⟨u', e', n⟩ := h
  rw [e] at e'; cases e'; exact n.nTb
section
variable {f : Fm} {Z Z2 : Addr → Prop} {Fs Fs2 : Nat → Addr → Prop} {env env2 : VEnv} {σ σ2 : L2.St} {H H2 : Hp} {j : Nat} {o o' : O} {v v' : V} {F : Addr → Prop}
theorem hid_f0 (g : GoodAt f Z Fs env σ H) {a : Addr} (h : (f.hid j v Z Fs H).F0 a) : (f.F0 a ∨ f.H0 a = none) ∧ ¬ Fs j a := by
  obtain ⟨i, n, q⟩ := h
  exact ⟨g.fnew i a q, fun w => g.dis i j a n q w⟩
theorem free_of (g : GoodAt f Z Fs env σ H) {a : Addr} (n : H a = none) : f.H0 a = none := by
  cases e : f.H0 a with
  | none => rfl
  | some u => exact absurd n (g.there.1 a (by rw [e]; exact fun q => nomatch q))
theorem hid_keep (g : GoodAt f Z Fs env σ H) (h : GoodAt (f.hid j v Z Fs H) Z2 Fs2 env2 σ2 H2) : KeepS H H2 Z Z2 ∧ (∀ a u, Fs j a → H a = some u → H2 a = some u) ∧ ∀ a xs, H a = some (.tup xs) → H2 a = some (.tup xs) := by
  have ht : ∀ a xs, H a = some (.tup xs) → H2 a = some (.tup xs) := fun a xs e => h.keep a _ e fun ⟨i, _, q⟩ => by
    obtain ⟨u, e', n⟩ := (g.own i a q).2.2
    rw [e] at e'; cases e'; exact n
  have hz : ∀ a u, Z a → H a = some u → Kp H H2 a u := fun a u z e => h.keep a u e fun ⟨i, _, q⟩ => (g.own i a q).1 z
  exact ⟨⟨fun a u z r n => ⟨h.zold a z, r.elim (fun e => .inl ((hz a _ z e).nt n)) fun ⟨o, e⟩ => .inr ⟨o, hz a _ z e⟩⟩, fun a C dx fs z e => hz a _ z e, ht, fun a xs z e => hz a _ z e, fun a xs z e => hz a _ z e⟩,
    fun a u q e => (h.keep a u e fun w => (hid_f0 g w).2 q).nt ((g.own j a q).2.2.nt e), ht⟩
theorem GoodAt.unhide (g : GoodAt f Z Fs env σ H) (r : RepO (f.w Z) H o v (Fs j)) (n : o.no notFz = true) (h : GoodAt (f.hid j v Z Fs H) Z2 Fs2 env2 σ2 H2) : GoodAt f Z2 (fun i a => (i = j ∧ Fs j a) ∨ (i ≠ j ∧ Fs2 i a)) (env2.set j (some o)) σ2 H2 := by
  obtain ⟨kz, kf, kt⟩ := hid_keep g h
  have hpin : σ2[j]? = some (some v) := h.pin (j, v) List.mem_cons_self
  have hlt : j < env2.length := by
    rw [← h.len]
    by_cases q : j < σ2.length
    · exact q
    · rw [List.getElem?_eq_none (by omega)] at hpin; cases hpin
  have nf : ∀ a, Fs j a → H a ≠ none := fun a q => (g.own j a q).2.2.ne
  have notF : ∀ i a, Fs2 i a → ¬ Fs j a := fun i a q w => by
    rcases h.fnew i a q with z | z
    · exact (hid_f0 g z).2 w
    · exact nf a w z
  refine ⟨fun i p e => ?_, fun i k a ne h1 h2 => ?_, fun i a q => ?_, h.zal, h.bal, fun a u e m => (g.keep a u e m).thn fun o eo => h.keep a o eo fun w => ?_, ⟨fun a m => h.there.1 a (g.there.1 a m), h.there.2⟩, fun i a q => ?_, fun a q => ?_, fun a q => h.zold a (g.zold a q), fun p hp => h.pin p (List.mem_cons_of_mem _ hp), by rw [List.length_set]; exact h.len⟩
  · by_cases q : j = i
    · subst q
      rw [List.getElem?_set_self hlt] at e
      cases e
      refine ⟨v, hpin, ?_⟩
      have e2 : (fun a => (j = j ∧ Fs j a) ∨ (j ≠ j ∧ Fs2 j a)) = Fs j := by
        funext a
        exact propext ⟨fun h => h.elim (fun w => w.2) fun w => absurd rfl w.1, fun h => .inl ⟨rfl, h⟩⟩
      rw [e2]
      exact RepO.pass (w := f.w Z) (w' := f.w Z2) rfl kz n kf r
    · rw [List.getElem?_set_ne q] at e
      obtain ⟨u, eu, r'⟩ := h.rep i p e
      refine ⟨u, eu, ?_⟩
      have e2 : (fun a => (i = j ∧ Fs j a) ∨ (i ≠ j ∧ Fs2 i a)) = Fs2 i := by
        funext a
        exact propext ⟨fun h => h.elim (fun w => absurd w.1.symm q) fun w => w.2, fun h => .inr ⟨fun w => q w.symm, h⟩⟩
      rw [e2]
      exact r'
  · rcases h1 with ⟨rfl, h1⟩ | ⟨n1, h1⟩
    · rcases h2 with ⟨e, _⟩ | ⟨_, h2⟩
      · exact ne e.symm
      · exact notF k a h2 h1
    · rcases h2 with ⟨_, h2⟩ | ⟨_, h2⟩
      · exact notF i a h1 h2
      · exact h.dis i k a ne h1 h2
  · rcases q with ⟨_, q⟩ | ⟨_, q⟩
    · have o1 := g.own j a q
      refine ⟨fun z => ?_, o1.2.1, ?_⟩
      · rcases h.znew a z with w | w | w
        · exact o1.1 w
        · exact (hid_f0 g w).2 q
        · exact nf a q w
      · obtain ⟨u, eu, nu⟩ := o1.2.2
        exact ⟨u, kf a u q eu, nu⟩
    · exact h.own i a q
  · rcases (hid_f0 g w).1 with z | z
    · exact m z
    · rw [e] at z; cases z
  · rcases q with ⟨_, q⟩ | ⟨_, q⟩
    · exact g.fnew j a q
    · rcases h.fnew i a q with z | z
      · exact (hid_f0 g z).1
      · exact .inr (free_of g z)
  · rcases h.znew a q with z | z | z
    · exact g.znew a z
    · exact .inr (hid_f0 g z).1
    · exact .inr (.inr (free_of g z))
theorem Extra.unhide (g : GoodAt f Z Fs env σ H) (x : Extra (f.hid j v Z Fs H) Z2 Fs2 H2 F) : Extra f Z2 (fun i a => (i = j ∧ Fs j a) ∨ (i ≠ j ∧ Fs2 i a)) H2 F := fun a q => by
  obtain ⟨h1, h2, h3, h4, h5⟩ := x a q
  have nj : ¬ Fs j a := fun w => by
    rcases h4 with z | z
    · exact (hid_f0 g z).2 w
    · exact (g.own j a w).2.2.ne z
  refine ⟨h1, h2, h3, ?_, fun i w => ?_⟩
  · rcases h4 with z | z
    · exact (hid_f0 g z).1
    · exact .inr (free_of g z)
  · rcases w with ⟨_, w⟩ | ⟨_, w⟩
    · exact nj w
    · exact h5 i w
theorem Good.unhide (g : GoodAt f Z Fs env σ H) (r : RepO (f.w Z) H o v (Fs j)) (n : o.no notFz = true) (h : Good (f.hid j v Z Fs H) env2 σ2 H2) : Good f (env2.set j (some o)) σ2 H2 := let ⟨Z2, Fs2, h⟩ := h; ⟨Z2, _, g.unhide r n h⟩
theorem GoodV.unhide (g : GoodAt f Z Fs env σ H) (r : RepO (f.w Z) H o v (Fs j)) (n : o.no notFz = true) (h : GoodV (f.hid j v Z Fs H) env2 o' v' σ2 H2) : GoodV f (env2.set j (some o)) o' v' σ2 H2 :=
  let ⟨Z2, Fs2, F, h, r', x⟩ := h; ⟨Z2, _, F, g.unhide r n h, r', x.unhide g⟩
theorem GoodX.unhide {x : Exn} {c : Value} {d : Option Addr} (g : GoodAt f Z Fs env σ H) (r : RepO (f.w Z) H o v (Fs j)) (n : o.no notFz = true) (h : GoodX (f.hid j v Z Fs H) env2 x c d σ2 H2) : GoodX f (env2.set j (some o)) x c d σ2 H2 :=
  let ⟨Z2, Fs2, F, h, r', x⟩ := h; ⟨Z2, _, F, g.unhide r n h, r', x.unhide g⟩
end
section
variable {X : Cx} {P : List Nat} {body : List Stmt} {m : VEnv → RS} {pos : Pos}
end
end VL
namespace VL
open PySem PySem.Spec PyProof.Rows L2
def pIx (mp : VEnv → Option (Nat × List Nat)) (mi : DEnv → R O) : VEnv → Option (Nat × List Nat) := fun env => match mp env with
  | some (i, p) => (match getP env i p, mi (dl env) with
    | some (.lst os), .ok oi => (match oi.er with
      | .int k => (ixN os.length k).map fun n => (i, p ++ [n])
      | _ => none)
    | _, _ => none)
  | none => none
section
variable {X : Cx} {P : List Nat} {a b : Expr} {mp : VEnv → Option (Nat × List Nat)} {mb : DEnv → R O} {pos : Pos}
theorem vp_ix (ha : VP X P a mp) (hb : VE X b mb) (hs : PlainIx b := by exact fun _ _ => rfl) : VP X P (.Subscript a b pos) (pIx mp mb) := fun W tk fr hf => (pe_ix ix_seq (ha W tk fr hf) (hb.ef tk hf) hs).imp fun σ H Q h => by
  obtain ⟨Z, Fs, env, g, h⟩ := h
  unfold pIx at h
  refine ⟨Z, Fs, env, g, ?_⟩
  cases em : mp env with
  | none => rw [em] at h; exact h
  | some q =>
    obtain ⟨i, p⟩ := q
    rw [em] at h
    simp only at h ⊢
    intro v0 v H1 ev s1 ew
    split at h
    · rename_i i' p' e
      split at e
      · rename_i os oi eg emb
        split at e
        · rename_i k ek
          cases en : ixN os.length k with
          | none => rw [en] at e; cases e
          | some n =>
            rw [en] at e
            cases e
            refine ⟨Z, Fs, rE_of (g.same s1).goodE ?_⟩
            rw [emb]
            intro y H2 F2 s2 r2 f2
            have g2 := (g.same s1).same s2
            obtain ⟨v0', vs, Fp, ev', ew', hs', _, _⟩ := g2.place eg
            rw [ev] at ev'; cases ev'
            have := (walkV_same s2 ew).symm.trans ew'
            cases this
            simp only [RepO] at hs'
            obtain ⟨a', xs, G', rfl, hH, fa, ga, sg, hr⟩ := hs'
            have hlen : xs.length = os.length := RepOs.length hr
            have hn : n < xs.length := by
              rw [hlen]
              exact (ixN_seq en).2.1
            have eu : xs[n]? = some xs[n] := List.getElem?_eq_getElem hn
            have z2 := RepO.at r2
            rw [ek] at z2
            refine .inl ⟨a', xs, k, xs[n], rfl, z2, SqL.of hH, ?_, h v0 xs[n] H2 ev (s1.trans s2) ?_⟩
            · unfold atI
              rw [hlen, en]
              exact eu
            · rw [walkV_app (walkV_same s2 ew)]
              show (match H2 a' with
                | some (.lst xs) => xs[n]?
                | some (.tup xs) => xs[n]?
                | some (.dK kvs) => (kvs.map (·.2))[n]?
                | some (.dT kvs) => (kvs.map (·.2))[n]?
                | some (.ins _ _ kvs) => (kvs.map (·.2))[n]?
                | _ => none) = some xs[n]
              rw [hH]
              exact eu
        · cases e
      · cases e
    · exact h.elim
end
end VL
namespace VL
open PySem PySem.Spec PyProof.Rows L2
def xIns (mp : VEnv → Option (Nat × List Nat)) (mi ma : DEnv → R O) : VEnv → RX O := fun env => match mp env with
  | none => .no
  | some (i, p) => match getP env i p, mi (dl env), ma (dl env) with
    | some (.lst os), .ok oi, .ok o => (match oi.er with
      | .int k => if o.no isTb && szOk (os.length + 1) && decide (0 ≤ k) && decide (k < 2 ^ 63) then .ok (.lf .fz .non) (setP env i p (.lst (os.take k.toNat ++ [o] ++ os.drop k.toNat))) else .no
      | _ => .no)
    | _, _, _ => .no
section
variable {X : Cx} {P : List Nat} {e a b : Expr} {mp : VEnv → Option (Nat × List Nat)} {ma mb : DEnv → R O} {apos cpos : Pos}
theorem RepOs.ins {w : Wd} {H : Hp} {o : O} {y : V} {F1 : Addr → Prop} (h1 : RepO w H o y F1) : ∀ {os : List O} {vs : List V} {F : Addr → Prop} (k : Nat), RepOs w H os vs F → Disj F F1 → RepOs w H (os.take k ++ [o] ++ os.drop k) (vs.take k ++ [y] ++ vs.drop k) (fun a => F a ∨ F1 a)
  | os, vs, F, 0, h, d => by
    simp only [List.take_zero, List.nil_append, List.drop_zero, List.singleton_append, RepOs]
    exact ⟨y, vs, F1, F, rfl, fun _ z => .inr z, fun _ z => .inl z, fun a z w => d a w z, h1, h⟩
  | [], vs, F, k + 1, h, d => by
    simp only [RepOs] at h
    subst h
    simp only [List.take_nil, List.nil_append, List.drop_nil, List.append_nil, RepOs]
    exact ⟨y, [], F1, fun _ => False, rfl, fun _ z => .inr z, fun _ z => z.elim, fun _ _ z => z, h1, rfl⟩
  | x :: os, vs, F, k + 1, h, d => by
    simp only [RepOs] at h
    obtain ⟨u, r, Fa, Fb, rfl, s1, s2, dd, r1, r2⟩ := h
    have ih := RepOs.ins h1 (os := os) (vs := r) k r2 fun a z => d a (s2 a z)
    simp only [List.take_succ_cons, List.cons_append, List.drop_succ_cons, RepOs]
    exact ⟨u, _, Fa, fun a => Fb a ∨ F1 a, rfl, fun a z => .inl (s1 a z), fun a z => z.imp (s2 a) id, fun a z w => w.elim (dd a z) (d a (s1 a z)), r1, ih⟩
theorem vx_insert (hp : VP X P e mp) (hi : VE X a ma) (ha : VE X b mb) (hbase : attributeBase e "insert" X.env (eval e X.env) = eval e X.env := by rfl)
    (hfew : ((backTo cpos (starEach [a, b] X.env)).all (fun x => !x.1) && (backToKw cpos (keywordEach [] X.env)).all (fun x => x.1.isSome)
      && decide ([a, b].length + ([] : List Keyword).length + (if ([] : List Keyword).isEmpty then 0 else 1) < 30)) = true := by rfl)
    (hline : (apos.endLine == cpos.line) = true := by rfl) (hs : starEach [a, b] X.env = (false, eval a X.env) :: starEach [b] X.env := by rfl) (hs2 : starEach [b] X.env = (false, eval b X.env) :: starEach [] X.env := by rfl) (hplain : (backTo cpos (starEach [b] X.env)).any (·.1) = false := by rfl) :
    VX X P (.Call (.Attribute e "insert" apos) [a, b] [] cpos) (xIns mp ma mb) := fun W tk f hf => ⟨fun pins s σ H Q I h => by
  obtain ⟨env, ⟨Z, Fs, g⟩, h⟩ := h
  replace h : EOut f W σ (xIns mp ma mb env) Q := h
  refine (pe_bm PySem.F.plainAttrs_list PySem.F.slot_list_insert PySem.F.type_list_insert mt_insert (hp W tk f hf) (pa_cons (hi.ef tk hf) (pa_cons (ha.ef tk hf) pa_nil hs2) hs) hbase hfew hline hs hplain).run pins s σ H Q I ⟨Z, Fs, env, g, ?_⟩
  unfold xIns at h
  split at h
  · exact h.elim
  · rename_i i p em
    rw [em]
    split at h
    · rename_i os oi o eg ei eo
      split at h
      · rename_i k ek
        split at h
        · rename_i hk
          simp only [Bool.and_eq_true, decide_eq_true_eq] at hk
          intro v0 v H1 ev s1 ew
          obtain ⟨a1, xs1, rfl, ha1⟩ := (g.same s1).is eg ev ew
          refine ⟨.inl ⟨rfl, xs1, SqL.of ha1⟩, Z, Fs, rE_of (g.same s1).goodE ?_⟩
          rw [ei]
          intro y0 H2 F2 s2 r2 f2
          have z2 := RepO.at r2
          rw [ek] at z2
          refine ⟨Z, Fs, rE_of ((g.same s1).same s2).goodE ?_⟩
          rw [eo]
          intro y H3 F3 s3 r3 f3
          have g3 := ((g.same s1).same s2).same s3
          obtain ⟨v0', a, xs, G, ev', ew', hla, q, nG, sG, _, put⟩ := g3.putL eg
          rw [ev] at ev'; cases ev'
          have := (walkV_same (s2.trans s3) ew).symm.trans ew'
          cases this
          have x3 := ((g.same s1).same s2).fresh f3
          have r3' := RepO.unlend hk.1.1.1 r3
          obtain ⟨Fs', g4, _⟩ := put (os.take k.toNat ++ [o] ++ os.drop k.toNat) (xs.take k.toNat ++ [y] ++ xs.drop k.toNat) (fun b => G b ∨ F3 b) F3 x3 (fun _ z => z) (RepOs.ins r3' k.toNat q fun b z z2 => (x3 b z2).2.2.2.2 i (sG b z))
          refine ⟨a1, xs, k, y, rfl, by rw [show y0 = _ from z2], hla, ?_, hk.1.2, hk.2, h .non _ ⟨Z, Fs', fun _ => False, g4, by simp [RepO, Rep], fun _ z => z.elim⟩⟩
          rw [RepOs.length q, sizeLine_eq]
          have := szOk_le hk.1.1.2
          rw [sizeLine_eq] at this
          omega
        · exact h.elim
      · exact h.elim
    · exact h.elim⟩
end
end VL
namespace VL
open PySem PySem.Spec PyProof.Rows L2
section
variable {n i j r : Nat} {m m1 m2 : VEnv → RS} {env e e' : VEnv} {Q : Ct → VEnv → Prop} {E : Exn → VEnv → Prop} {P : O → VEnv → Prop} {mA : DEnv → R (List O)} {ma mb : DEnv → R O} {sp : List (Option Nat)} {o h h' : O} {os ps : List O} {x : Exn}
def mK (Q : O → O → Prop) : Ct → VEnv → Prop
  | .next, e => ∃ h', e[0]? = some (some h') ∧ h'.no notFz = true ∧ Q (.lf .fz .non) h'
  | .ret o, e => ∃ h', e[0]? = some (some h') ∧ h'.no notFz = true ∧ o.no notFz = true ∧ Q o h'
  | _, _ => False
def mX (E : Exn → O → Prop) : Exn → VEnv → Prop := fun x e => ∃ h', e[0]? = some (some h') ∧ h'.no notFz = true ∧ O.nos notFz x.xs = true ∧ E x h'
@[simp] theorem mK_next {Q : O → O → Prop} : mK Q .next e ↔ ∃ h', e[0]? = some (some h') ∧ h'.no notFz = true ∧ Q (.lf .fz .non) h' := (Iff.rfl)
@[simp] theorem mK_ret {Q : O → O → Prop} : mK Q (.ret o) e ↔ ∃ h', e[0]? = some (some h') ∧ h'.no notFz = true ∧ o.no notFz = true ∧ Q o h' := (Iff.rfl)
@[simp] theorem mK_brk {Q : O → O → Prop} : mK Q .brk e ↔ False := (Iff.rfl)
@[simp] theorem mK_cont {Q : O → O → Prop} : mK Q .cont e ↔ False := (Iff.rfl)
@[simp] theorem mX_ev {F : Exn → O → Prop} : mX F x e ↔ ∃ h', e[0]? = some (some h') ∧ h'.no notFz = true ∧ O.nos notFz x.xs = true ∧ F x h' := (Iff.rfl)
def outK (sp : List (Option Nat)) (env : VEnv) (P : O → VEnv → Prop) : Ct → VEnv → Prop
  | .next, e' => ∃ e, backW 0 sp e' env = some e ∧ P (.lf .fz .non) e
  | .ret o, e' => ∃ e, backW 0 sp e' env = some e ∧ o.no notFz = true ∧ P o e
  | _, _ => False
def outX (sp : List (Option Nat)) (env : VEnv) (E : Exn → VEnv → Prop) : Exn → VEnv → Prop := fun x e' => ∃ e, backW 0 sp e' env = some e ∧ O.nos notFz x.xs = true ∧ E x e
@[simp] theorem outK_next : outK sp env P .next e' ↔ ∃ e, backW 0 sp e' env = some e ∧ P (.lf .fz .non) e := (Iff.rfl)
@[simp] theorem outK_ret : outK sp env P (.ret o) e' ↔ ∃ e, backW 0 sp e' env = some e ∧ o.no notFz = true ∧ P o e := (Iff.rfl)
@[simp] theorem outK_brk : outK sp env P .brk e' ↔ False := (Iff.rfl)
@[simp] theorem outK_cont : outK sp env P .cont e' ↔ False := (Iff.rfl)
@[simp] theorem outX_ev : outX sp env E x e' ↔ ∃ e, backW 0 sp e' env = some e ∧ O.nos notFz x.xs = true ∧ E x e := (Iff.rfl)
@[simp] theorem tryGo_nil : wS (tryGo x e []) Q E ↔ badE x.cls = true ∧ E x e := by
  unfold tryGo
  split
  · rename_i q; simp [q]
  · rename_i q; simp [q]
structure wU (r : RX Bool) (Q : Bool → VEnv → Prop) (E : Exn → VEnv → Prop) : Prop where
  out : match r with
    | .ok b e => Q b e
    | .ex x e => E x e
    | .no => False
section
variable {B : Bool → VEnv → Prop} {t t1 t2 : VEnv → RX Bool} {b : Bool} {mx : VEnv → RX O} {td : DEnv → R Bool}
@[simp] theorem wU_ok : wU (.ok b e) B E ↔ B b e := ⟨fun h => h.out, fun h => ⟨h⟩⟩
@[simp] theorem wU_ex : wU (.ex x e) B E ↔ E x e := ⟨fun h => h.out, fun h => ⟨h⟩⟩
@[simp] theorem wU_no : wU .no B E ↔ False := ⟨fun h => h.out, fun h => ⟨h⟩⟩
@[simp] theorem wU_lift : wU (liftT td env) B E ↔ wR (td (dl env)) (fun b => B b env) (fun x => O.nos isTb x.xs = true ∧ E x env) := by
  unfold liftT
  cases td (dl env) with
  | no => simp
  | ok b => simp
  | ex x =>
    simp only [wR_ex]
    split
    · rename_i q; simp only [wU_ex, q, true_and]
    · rename_i q; simp only [wU_no, q, false_and]
      simp
@[simp] theorem wU_tru : wU (truX mx env) B E ↔ wX (mx env) (fun o e => ∃ b, truD o.er = some b ∧ B b e) E := by
  unfold truX
  cases mx env with
  | no => simp
  | ex x e => simp
  | ok o e =>
    simp only [wX_ok]
    cases truD o.er with
    | none => simp
    | some b => simp
@[simp] theorem wU_not : wU (notX t env) B E ↔ wU (t env) (fun b e => B (!b) e) E := by
  unfold notX
  cases t env <;> simp
@[simp] theorem wU_or : wU (orX t1 t2 env) B E ↔ wU (t1 env) (fun b e => if b then B true e else wU (t2 e) B E) E := by
  unfold orX
  cases t1 env with
  | no => simp
  | ex x e => simp
  | ok b e => cases b <;> simp
@[simp] theorem wU_and : wU (andX t1 t2 env) B E ↔ wU (t1 env) (fun b e => if b then wU (t2 e) B E else B false e) E := by
  unfold andX
  cases t1 env with
  | no => simp
  | ex x e => simp
  | ok b e => cases b <;> simp
@[simp] theorem wU_bol : wU (bolX mx env) B E ↔ wX (mx env) (fun o e => ∃ b, o.er = .bl b ∧ B b e) E := by
  unfold bolX
  cases mx env with
  | no => simp
  | ex x e => simp
  | ok o e =>
    simp only [wX_ok]
    cases o.er <;> simp
end
theorem wX_appAt {mp : VEnv → Option (Nat × List Nat)} {p : List Nat} (hp : mp env = some (i, p)) (hg : getP env i p = some (.lst os)) : wX (xApp mp ma env) P E ↔ wR (ma (dl env)) (fun o => o.no isTb = true ∧ os.length + 1 ≤ 16777216 ∧ P (.lf .fz .non) (setP env i p (.lst (os ++ [o])))) (fun x => O.nos isTb x.xs = true ∧ E x env) := by
  unfold xApp
  simp only [hp, hg]
  cases ma (dl env) with
  | no => simp
  | ex x =>
    simp only [wR_ex]
    split
    · rename_i q; simp only [wX_ex, q, true_and]
    · rename_i q; simp only [wX_no, q, false_and]
      simp
  | ok o =>
    simp only [wR_ok, szOk_iff]
    split
    · rename_i q
      simp only [Bool.and_eq_true, decide_eq_true_eq] at q
      simp only [wX_ok, q.1, q.2, true_and]
    · rename_i q
      simp only [wX_no, false_iff]
      intro w
      exact q (by simp only [Bool.and_eq_true, decide_eq_true_eq]; exact ⟨w.1, w.2.1⟩)
end
@[simp] theorem tS_inj_s {l m : List Nat} : tS l = tS m ↔ l = m := tS_inj
@[simp] theorem kS_inj_s {l m : List Nat} : kS l = kS m ↔ l = m := kS_inj
section
variable {l : List Nat} {ns : List (List Nat)} {k k' : Kd}
theorem inFl_S : inFl (.str (tS l)) (ns.map fun x => D.str (tS x)) = some (decide (l ∈ ns)) := by
  unfold inFl
  have h1 : (ns.map fun x => D.str (tS x)).all D.flat = true := by
    rw [List.all_map]; exact List.all_eq_true.mpr fun _ _ => rfl
  rw [h1]
  show some _ = _
  congr 1
  rw [List.any_map]
  induction ns with
  | nil => rfl
  | cons x r ih =>
    have h2 : (r.map fun x => D.str (tS x)).all D.flat = true := by
      rw [List.all_map]; exact List.all_eq_true.mpr fun _ _ => rfl
    rw [List.any_cons, ih h2]
    show (tS x == tS l || _) = _
    by_cases q : x = l
    · subst q; simp
    · have : ¬ l = x := fun w => q w.symm
      simp [this]
      exact fun w => absurd w q
theorem gIn_Sl {o p : O} (h1 : o.er = .str (tS l)) (h2 : p.er = .lst (ns.map fun x => D.str (tS x))) : gIn o p = .ok (ob (decide (l ∈ ns))) := by
  unfold gIn inD
  rw [h1, h2]
  simp only [inFl_S]
theorem gNIn_Sl {o p : O} (h1 : o.er = .str (tS l)) (h2 : p.er = .lst (ns.map fun x => D.str (tS x))) : gNIn o p = .ok (ob (!decide (l ∈ ns))) := by
  unfold gNIn inD
  rw [h1, h2]
  simp only [inFl_S]
theorem gIn_St {o p : O} (h1 : o.er = .str (tS l)) (h2 : p.er = .tup (ns.map fun x => D.str (tS x))) : gIn o p = .ok (ob (decide (l ∈ ns))) := by
  unfold gIn inD
  rw [h1, h2]
  simp only [inFl_S]
theorem gNIn_St {o p : O} (h1 : o.er = .str (tS l)) (h2 : p.er = .tup (ns.map fun x => D.str (tS x))) : gNIn o p = .ok (ob (!decide (l ∈ ns))) := by
  unfold gNIn inD
  rw [h1, h2]
  simp only [inFl_S]
@[simp] theorem gIn_S1 : gIn (.lf k (.str (tS l))) (.lf k' (.lst (ns.map fun x => D.str (tS x)))) = .ok (ob (decide (l ∈ ns))) := gIn_Sl rfl rfl
@[simp] theorem gIn_S2 : gIn (.lf k (.str (tS l))) (.lst (ns.map fun x => oS x)) = .ok (ob (decide (l ∈ ns))) := gIn_Sl rfl (by simp)
@[simp] theorem gIn_S3 : gIn (.lf k (.str (tS l))) (.lf k' (.tup (ns.map fun x => D.str (tS x)))) = .ok (ob (decide (l ∈ ns))) := gIn_St rfl rfl
@[simp] theorem gNIn_S1 : gNIn (.lf k (.str (tS l))) (.lf k' (.lst (ns.map fun x => D.str (tS x)))) = .ok (ob (!decide (l ∈ ns))) := gNIn_Sl rfl rfl
@[simp] theorem gNIn_S2 : gNIn (.lf k (.str (tS l))) (.lst (ns.map fun x => oS x)) = .ok (ob (!decide (l ∈ ns))) := gNIn_Sl rfl (by simp)
@[simp] theorem gNIn_S3 : gNIn (.lf k (.str (tS l))) (.lf k' (.tup (ns.map fun x => D.str (tS x)))) = .ok (ob (!decide (l ∈ ns))) := gNIn_St rfl rfl
end
@[simp] theorem gSl_scrD {ns : List Int} {lo hi : Option Int} : gSl (scrD ns) lo hi = .ok (.lst ((cutA ns lo hi).map oi)) := by
  show (if D.imms (ns.map D.int) then R.ok (O.lst (cutA ((ns.map D.int).map (O.lf .fz)) lo hi)) else .no) = _
  have : D.imms (ns.map D.int) = true := by simp
  rw [if_pos this, List.map_map, cutA_map]
  rfl
@[simp] theorem nx_obj {C : String} {fs : List String} {os : List O} : (O.obj C fs os).nx = O.nxs os := (rfl)
@[simp] theorem nx_dct {ks : List Key} {os : List O} : (O.dct ks os).nx = O.nxs os := (rfl)
end VL
namespace VL
open PySem PySem.Spec PyProof.Rows L2
section
variable {i n : Nat} {p : List Nat} {env : VEnv} {mp : VEnv → Option (Nat × List Nat)} {P : O → VEnv → Prop} {E : Exn → VEnv → Prop} {Q : Ct → VEnv → Prop} {mi ma me : DEnv → R O} {os : List O} {o : O} {k : Int}
theorem pName_at (h : env[i]? = some (some o)) : pName i env = some (i, []) ∧ getP env i [] = some o := by
  unfold pName getP
  rw [h]
  exact ⟨rfl, rfl⟩
theorem pIx_at {oi' o' : O} (h : mp env = some (i, p)) (hg : getP env i p = some (.lst os)) (hi : mi (dl env) = .ok oi') (hk : oi'.er = .int k) (hn : ixN os.length k = some n) : pIx mp mi env = some (i, p ++ [n]) := by
  unfold pIx
  simp only [h, hg, hi, hk, hn, Option.map_some]
theorem wX_insP {oi' : O} (hp : mp env = some (i, p)) (hg : getP env i p = some (.lst os)) (hi : mi (dl env) = .ok oi') (hk : oi'.er = .int k) (ha : ma (dl env) = .ok o) (hb : o.no isTb = true) (hz : os.length + 1 ≤ 16777216) (h0 : 0 ≤ k) (h2 : k < 2 ^ 63) : wX (xIns mp mi ma env) P E ↔ P (.lf .fz .non) (setP env i p (.lst (os.take k.toNat ++ [o] ++ os.drop k.toNat))) := by
  unfold xIns
  simp only [hp, hg, hi, hk, ha, hb, szOk_iff, hz, h0, h2, decide_true, Bool.and_self, if_true, wX_ok]
theorem wS_setIxP {oi' : O} (he : me (dl env) = .ok o) (hp : mp env = some (i, p)) (hg : getP env i p = some (.lst os)) (hi : mi (dl env) = .ok oi') (hk : oi'.er = .int k) (hn : ixN os.length k = some n) (hb : o.no isTb = true) : wS (sSetIx me mp mi env) Q E ↔ Q .next (setP env i p (.lst (os.set n o))) := by
  unfold sSetIx
  simp only [he, hp, hg, hi, hk, hn, hb, if_true, wS_ok]
end
end VL
namespace VL
open PySem PySem.Spec PyProof.Rows L2
end VL
namespace VL
open PySem PySem.Spec PyProof.Rows L2
def gDictD (o : O) : R O := match o.er with
  | .dct ks xs => if D.imms xs then .ok (.dct ks (xs.map (O.lf .fz))) else .no
  | _ => .no
section
variable {X : Cx} {a : Expr} {ma : DEnv → R O} {pos : Pos}
end
@[simp] theorem gDictD_S {k : Kd} {ns : List (List Nat)} {vs : List Int} : gDictD (.lf k (dS ns (vs.map D.int))) = .ok (.dct (ns.map kS) (vs.map oi)) := by
  show (if D.imms (vs.map D.int) = true then R.ok (O.dct (ns.map kS) ((vs.map D.int).map (O.lf .fz))) else .no) = _
  have : D.imms (vs.map D.int) = true := by simp
  rw [if_pos this, List.map_map]
  rfl
end VL
namespace VL
open PySem PySem.Spec PyProof.Rows L2
def xAppX (i : Nat) (mx : VEnv → RX O) : VEnv → RX O := fun env => match getP env i [] with
  | some (.lst _) => (match mx env with
    | .ok o e => (match getP e i [] with
      | some (.lst os) => if szOk (os.length + 1) then .ok (.lf .fz .non) (setP e i [] (.lst (os ++ [o]))) else .no
      | _ => .no)
    | .ex x e => .ex x e
    | .no => .no)
  | _ => .no
section
variable {X : Cx} {P : List Nat} {a : Expr} {mx : VEnv → RX O} {x : Str} {p apos cpos : Pos}
theorem vx_appX (i : Nat) (hx : VX X P a mx) (hN : X.N[i]? = some x := by rfl) (hv : Vis X.env.scope x := by first | exact Or.inl rfl | exact Or.inr (Or.inl rfl) | exact Or.inr (Or.inr rfl)) (hd : (x == ("__debug__" : Str)) = false := by decide)
    (hcd : (x == ("__classdict__" : Str)) = false := by decide) (hbase : attributeBase (.Name x p) "append" X.env (eval (.Name x p) X.env) = eval (.Name x p) X.env := by rfl)
    (hfew : ((backTo cpos (starEach [a] X.env)).all (fun x => !x.1) && (backToKw cpos (keywordEach [] X.env)).all (fun x => x.1.isSome)
      && decide ([a].length + ([] : List Keyword).length + (if ([] : List Keyword).isEmpty then 0 else 1) < 30)) = true := by rfl)
    (hline : (apos.endLine == cpos.line) = true := by rfl) (hs : starEach [a] X.env = (false, eval a X.env) :: starEach [] X.env := by rfl) (hplain : (backTo cpos (starEach [] X.env)).any (·.1) = false := by rfl) :
    VX X P (.Call (.Attribute (.Name x p) "append" apos) [a] [] cpos) (xAppX i mx) := fun W tk f hf => ⟨fun pins s σ H Q I h => by
  obtain ⟨env, ⟨Z, Fs, g⟩, h⟩ := h
  replace h : EOut f W σ (xAppX i mx env) Q := h
  refine (pe_bm PySem.F.plainAttrs_list PySem.F.slot_list_append PySem.F.type_list_append mt_append ((vp_name (P := P) i hN hv hd hcd) W tk f hf) (pa_cons (hx W tk f hf) pa_nil hs) hbase hfew hline hs hplain).run pins s σ H Q I ⟨Z, Fs, env, g, ?_⟩
  unfold xAppX at h
  split at h
  · rename_i os0 eg0
    obtain ⟨o0, eo0, _⟩ := getP_some eg0
    have en : pName i env = some (i, []) := by unfold pName; rw [eo0]
    rw [en]
    intro v0 v H1 ev s1 ew
    obtain ⟨a1, xs1, rfl, ha1⟩ := (g.same s1).is eg0 ev ew
    refine ⟨.inl ⟨rfl, xs1, SqL.of ha1⟩, env, ⟨Z, Fs, g.same s1⟩, ?_⟩
    have ev1 : v0 = .ref a1 := by
      have : walkV H1 v0 [] = some v0 := rfl
      rw [this] at ew
      exact Option.some.inj ew
    subst ev1
    show EOut f W σ (mx env) _
    cases em : mx env with
    | no => rw [em] at h; exact h
    | ex x e => rw [em] at h; exact h
    | ok o e =>
      rw [em] at h
      simp only at h
      split at h
      · rename_i os eg
        split at h
        · rename_i hz
          rintro y H2 ⟨Z2, Fs2, F, g2, r, xt⟩
          obtain ⟨v0', a2, xs, G, ev', ew', hla, q, nG, sG, _, put⟩ := g2.putL eg
          rw [ev] at ev'; cases ev'
          have : walkV H2 (.ref a1) [] = some (.ref a1) := rfl
          rw [this] at ew'; cases ew'
          obtain ⟨Fs', g3, _⟩ := put (os ++ [o]) (xs ++ [y]) (fun b => G b ∨ F b) F xt (fun _ z => z) (RepOs.append (fun b z z2 => (xt b z2).2.2.2.2 i (sG b z)) q (by
            simp only [RepOs]
            exact ⟨y, [], F, fun _ => False, rfl, fun _ z => z, fun _ z => z.elim, fun _ _ z => z, r, rfl⟩))
          refine ⟨a1, xs, y, rfl, rfl, hla, ?_, h .non _ ⟨Z2, Fs', fun _ => False, g3, by simp [RepO, Rep], fun _ z => z.elim⟩⟩
          rw [RepOs.length q, sizeLine_eq]
          have := szOk_le hz
          rw [sizeLine_eq] at this
          omega
        · exact h.elim
      · exact h.elim
  · exact h.elim⟩
end
theorem wX_appX {i : Nat} {mx : VEnv → RX O} {env : VEnv} {os0 : List O} {P : O → VEnv → Prop} {E : Exn → VEnv → Prop} (h0 : env[i]? = some (some (.lst os0))) : wX (xAppX i mx env) P E ↔ wX (mx env) (fun o e => ∃ os, e[i]? = some (some (.lst os)) ∧ os.length + 1 ≤ 16777216 ∧ P (.lf .fz .non) (e.set i (some (.lst (os ++ [o]))))) E := by
  have g0 : getP env i [] = some (.lst os0) := by unfold getP; rw [h0]; rfl
  unfold xAppX
  simp only [g0]
  cases mx env with
  | no => simp
  | ex x e => simp
  | ok o e =>
    simp only [wX_ok]
    cases he : e[i]? with
    | none =>
      have : getP e i [] = none := by unfold getP; rw [he]
      simp [this]
    | some z =>
      cases z with
      | none =>
        have : getP e i [] = none := by unfold getP; rw [he]
        simp [this]
      | some q =>
        have e2 : getP e i [] = some q := by unfold getP; rw [he]; rfl
        have e3 : ∀ s, setP e i [] s = e.set i (some s) := fun s => by unfold setP; rw [he]; rfl
        simp only [e2, e3, Option.some.injEq]
        cases q with
        | lst os =>
          simp only [szOk_iff, O.lst.injEq, exists_eq_left']
          split
          · rename_i w
            simp only [wX_ok]
            simp only [decide_eq_true_eq] at w
            simp only [w, true_and]
          · rename_i w
            simp only [wX_no, false_iff]
            simp only [decide_eq_true_eq] at w
            exact fun v => w v.1
        | _ => simp
end VL
namespace VL
open PySem PySem.Spec PyProof.Rows L2
def gCntF (x y : O) : R O := match x.er with
  | .lst ds => if y.er.flat && ds.all D.flat then .ok (.lf .fz (.int (ds.countP fun z => eqF z y.er : Nat))) else .no
  | _ => .no
section
variable {X : Cx} {e a : Expr} {ma me : DEnv → R O}
end
theorem countP_tD {l : List Nat} : ∀ {r : List (List Nat)}, (r.map tD).countP (fun z => eqF z (tD l)) = r.count l
  | [] => rfl
  | m :: r => by
    rw [List.map_cons, List.countP_cons, countP_tD, List.count_cons]
    congr 1
    by_cases q : m = l
    · subst q; simp [eqF, tD]
    · have : ¬ tS m = tS l := fun w => q (tS_inj.mp w)
      simp [eqF, tD, q, this]
@[simp] theorem gCntF_S {k k' : Kd} {l : List Nat} {r : List (List Nat)} : gCntF (.lf k (.lst (r.map tD))) (.lf k' (.str (tS l))) = .ok (oi (r.count l : Nat)) := by
  show (if ((tD l).flat && (r.map tD).all D.flat) = true then R.ok (oi ((r.map tD).countP fun z => eqF z (tD l) : Nat)) else .no) = _
  rw [countP_tD, if_pos]
  have : (r.map tD).all D.flat = true := by rw [List.all_map, List.all_eq_true]; intro x _; rfl
  rw [this]; rfl
end VL
namespace VL
open PySem PySem.Spec PyProof.Rows L2
section
variable {n : Nat} {m : VEnv → RS} {env e : VEnv} {P : O → VEnv → Prop} {E : Exn → VEnv → Prop} {mA : DEnv → R (List O)} {sp : List (Option Nat)}
def retN (Q : O → Prop) : Ct → VEnv → Prop
  | .ret o, _ => o.no notFz = true ∧ Q o
  | .next, _ => Q (.lf .fz .non)
  | _, _ => False
def excN (E : Exn → Prop) : Exn → VEnv → Prop := fun x _ => O.nos notFz x.xs = true ∧ E x
@[simp] theorem retN_next {Q : O → Prop} : retN Q .next e ↔ Q (.lf .fz .non) := (Iff.rfl)
@[simp] theorem retN_ret {Q : O → Prop} {o : O} : retN Q (.ret o) e ↔ o.no notFz = true ∧ Q o := (Iff.rfl)
@[simp] theorem retN_brk {Q : O → Prop} : retN Q .brk e ↔ False := (Iff.rfl)
@[simp] theorem retN_cont {Q : O → Prop} : retN Q .cont e ↔ False := (Iff.rfl)
@[simp] theorem excN_ev {F : Exn → Prop} {x : Exn} : excN F x e ↔ O.nos notFz x.xs = true ∧ F x := (Iff.rfl)
end
end VL
namespace VL
open PySem PySem.Spec PyProof.Rows L2
def SameX (D : Addr) (H H' : Hp) : Prop := ∀ b o, b ≠ D → H b = some o → Kp H H' b o
theorem SameX.of {D : Addr} {H H' : Hp} (s : Same H H') : SameX D H H' := fun b o _ e => s b o e
theorem SameX.trans {D : Addr} {H H1 H2 : Hp} (s : SameX D H H1) (s2 : SameX D H1 H2) : SameX D H H2 := fun b o n e => (s b o n e).thn fun o' e' => s2 b o' n e'
theorem SameX.upd {D : Addr} {H H' : Hp} {u : HO} (s : SameX D H H') (nd : NT (H' D)) : SameX D H (upd H' D u) := fun b o n e => (s b o n e).but (.inl nd) (fun c v m e => by rw [upd_ne m]; exact e) fun _ => n
theorem SameX.tab {D : Addr} {H H' : Hp} {P : Addr} {q : Str} (s : SameX D H H') (nd : NT (H D)) (t : TabAt H P q) : TabAt H' P q := by
  obtain ⟨ps, e, t⟩ := t
  obtain ⟨ps', e', t'⟩ := s P _ (fun z => by rw [z] at e; exact nd.ntbl e) e
  exact ⟨ps', e', t' q t⟩
theorem SameX.keep {D : Addr} {H H' : Hp} {T : Addr → Prop} (s : SameX D H H') (h : ¬ T D) (nt : ∀ xs, H D ≠ some (.tup xs)) : KeepS H H' T T := by
  have ne : ∀ a, T a → a ≠ D := fun a z e => h (e ▸ z)
  refine ⟨fun a v z r n => ⟨z, ?_⟩, fun a C dx fs z e => s a _ (ne a z) e, fun a xs e => ?_, fun a xs z e => s a _ (ne a z) e, fun a xs z e => s a _ (ne a z) e⟩
  · rcases r with r | ⟨o, r⟩
    · exact .inl ((s a _ (ne a z) r).nt n)
    · exact .inr ⟨o, s a _ (ne a z) r⟩
  · by_cases ha : a = D
    · rw [ha] at e; exact absurd e (nt xs)
    · exact s a _ ha e
theorem KeepS.sub {H H' : Hp} {T S : Addr → Prop} (k : KeepS H H' T T) (h : VL.Sub S T) : KeepS H H' S S :=
  ⟨fun a v z r n => ⟨z, (k.1 a v (h a z) r n).2⟩, fun a C dx fs z e => k.2.1 a C dx fs (h a z) e, k.2.2.1, fun a xs z e => k.2.2.2.1 a xs (h a z) e, fun a xs z e => k.2.2.2.2 a xs (h a z) e⟩
section
variable {X : Cx} {tg a : Expr} {ma : DEnv → R O} {pos p : Pos}
end
section
variable {X : Cx} {tg iter tg1 iter1 elt : Expr} {ifs ifs1 : List Expr} {scope : Scope} {own : List (Str × Nat)} {vs1 : List Nat} {pos : Pos} {src : DEnv → R (Bool × List O)} {src1 : DEnv → R (List O)} {asg asg1 : O → AsgE} {g g1 : TG} {t t1 : DEnv → R Bool} {me : DEnv → R O}
structure Lc2I (w : Wd) (Fx : Addr → Prop) (H1 : Hp) (D : Addr) (total : List O) (H' : Hp) (acc : List V) (F : Addr → Prop) (os rest : List O) : Prop where
  d : H' D = some (.lst acc)
  sm : Same H1 H'
  ro : RepOs (wx w Fx) H' os acc F
  fr : Fresh H1 H' F
  nD : ¬ F D
  ow : O.owns os = true
  tot : os ++ rest = total
end
end VL
namespace VL
open PySem PySem.Spec PyProof.Rows L2
abbrev Clause2 := Value × Option Nat × (Addr → Value → Option Addr → TS)
inductive Clauses2 (X : Cx) : List ExceptHandler → List Clause2 → Prop
  | nil : Clauses2 X [] []
  | cons {x n : Str} {c : Value} {i : Nat} {ts : Addr → Value → Option Addr → TS} {b₀ : Stmt} {suite : List Stmt} {np q : Pos} {hds : List ExceptHandler} {l : List Clause2} (hi : X.N[i]? = some n) (hl : X.env.kindOf n = some .local) (hc : Names X x c)
      (hs : ∀ (a : Addr) (ob : Obj) (cls : Value) (d : Option Addr) (pn : List (Addr × Obj)), Zc cls d ob → (∃ vs, ob.data = .fields vs) → PSs (X.suite a ((a, ob) :: pn)) (b₀ :: suite) (ts a cls d)) (r : Clauses2 X hds l) : Clauses2 X (.ExceptHandler (some (.Name x np)) (some n) (b₀ :: suite) q :: hds) ((c, some i, ts) :: l)
  | bare {x : Str} {c : Value} {ts : Addr → Value → Option Addr → TS} {b₀ : Stmt} {suite : List Stmt} {np q : Pos} {hds : List ExceptHandler} {l : List Clause2} (hc : Names X x c)
      (hs : ∀ (a : Addr) (ob : Obj) (cls : Value) (d : Option Addr) (pn : List (Addr × Obj)), Zc cls d ob → (∃ vs, ob.data = .fields vs) → PSs (X.suite a ((a, ob) :: pn)) (b₀ :: suite) (ts a cls d)) (r : Clauses2 X hds l) : Clauses2 X (.ExceptHandler (some (.Name x np)) none (b₀ :: suite) q :: hds) ((c, none, ts) :: l)
section
variable {X : Cx} {body : List Stmt} {h₀ : ExceptHandler} {hds : List ExceptHandler} {l : List Clause2} {pos : Pos} {tb : WX → TS} {Wo : WX}
end
abbrev Cl2 := String × Option Nat × (VEnv → RS)
def sOutN (r : RS) : RS := match r with
  | .ex _ _ => .no
  | r => r
def tryGo2 (x : Exn) (e : VEnv) : List Cl2 → RS
  | [] => if badE x.cls then .ex x e else .no
  | z :: l => if subE x.cls z.1 then (match z.2.1 with
    | some i => if O.nos notFz x.xs && decide (i < e.length) then sOut i (z.2.2 (e.set i (some (.xn x.cls x.fs (O.ers x.xs))))) else .no
    | none => sOutN (z.2.2 e)) else tryGo2 x e l
inductive VCl2 (X : Cx) (P : List Nat) (E : Errs) : List ExceptHandler → List Cl2 → Prop
  | nil : VCl2 X P E [] []
  | cons {x n : Str} {D : String} {i : Nat} {m2 : VEnv → RS} {b₀ : Stmt} {suite : List Stmt} {np q : Pos} {hds : List ExceptHandler} {l : List Cl2} (hsu : ∀ (a : Addr) (oe : Obj) (pn : List (Addr × Obj)), VB (X.suite a ((a, oe) :: pn)) P (b₀ :: suite) m2) (hi : X.N[i]? = some n) (hln : X.env.kindOf n = some .local) (hD : E.has D = true) (hx : x = Str.ofString D) (hg : Gl X x) (hdb : (x == ("__debug__" : Str)) = false) (hP : P.contains i = false) (r : VCl2 X P E hds l) :
      VCl2 X P E (.ExceptHandler (some (.Name x np)) (some n) (b₀ :: suite) q :: hds) ((D, some i, m2) :: l)
  | bare {x : Str} {D : String} {m2 : VEnv → RS} {b₀ : Stmt} {suite : List Stmt} {np q : Pos} {hds : List ExceptHandler} {l : List Cl2} (hsu : ∀ (a : Addr) (oe : Obj) (pn : List (Addr × Obj)), VB (X.suite a ((a, oe) :: pn)) P (b₀ :: suite) m2) (hD : E.has D = true) (hx : x = Str.ofString D) (hg : Gl X x) (hdb : (x == ("__debug__" : Str)) = false) (r : VCl2 X P E hds l) :
      VCl2 X P E (.ExceptHandler (some (.Name x np)) none (b₀ :: suite) q :: hds) ((D, none, m2) :: l)
section
variable {X : Cx} {P : List Nat} {E : Errs}
end
end VL
namespace VL
open PySem PySem.Spec PyProof.Rows L2
section
variable {X : Cx} {P : List Nat} {c : Expr} {body : List Stmt} {t : DEnv → R Bool} {m : VEnv → RS} {pos : Pos}
def rTf (f : Fm) (W : WX) (t : DEnv → R Bool) : TT := fun σ H Q => ∃ Z Fs, rT (tw f Z Fs) W t σ H Q
theorem VT.ef (h : VT X c t) {W : WX} (tk : Takes X W) {f : Fm} (hf : FOk X P f) : PT X c (rTf f W t) := ⟨fun pins s σ H Q I ⟨Z, Fs, q⟩ => (h W tk (tw f Z Fs) hf.1).run pins s σ H Q I q⟩
end
section
variable {f : Fm} {Z Z2 F : Addr → Prop} {Fs Fs2 : Nat → Addr → Prop} {env env2 : VEnv} {σ σ2 : L2.St} {H H2 : Hp}
theorem re_keepS (g : GoodAt f Z Fs env σ H) (g2 : GoodAt (f.re Z Fs H) Z2 Fs2 env2 σ2 H2) : ∀ x : Kd, (fun _ : Kd => false) x = false → KeepS H H2 ((f.w Z).S x) ((f.w Z2).S x) := fun x _ => by
  have kp : ∀ a u, (∀ i, ¬ Fs i a) → H a = some u → Kp H H2 a u := fun a u n e => g2.keep a u e fun ⟨i, q⟩ => n i q
  have tup : ∀ a xs, H a = some (.tup xs) → H2 a = some (.tup xs) := fun a xs e => kp a _ (fun i q => by
    obtain ⟨u, e', n⟩ := (g.own i a q).2.2
    rw [e] at e'; cases e'; exact n) e
  have gen : ∀ {S S' : Addr → Prop}, VL.Sub S S' → (∀ a, S a → ∀ i, ¬ Fs i a) → KeepS H H2 S S' := fun sub hS =>
    ⟨fun a u z rd n => ⟨sub a z, rd.elim (fun e => .inl ((kp a _ (hS a z) e).nt n)) fun ⟨o, e⟩ => .inr ⟨o, kp a _ (hS a z) e⟩⟩, fun a C dx fs z e => kp a _ (hS a z) e, tup, fun a xs z e => kp a _ (hS a z) e, fun a xs z e => kp a _ (hS a z) e⟩
  cases x with
  | fz => exact gen (fun a z => g2.zold a z) fun a z i q => (g.own i a q).1 z
  | bo => exact gen (fun a z => z) fun a z i q => (g.own i a q).2.1 z
  | tb => exact gen (fun a z => z) fun a z => z.elim
theorem re_extra (g : GoodAt f Z Fs env σ H) (x : Extra f Z Fs H F) (g2 : GoodAt (f.re Z Fs H) Z2 Fs2 env2 σ2 H2) : Extra f Z2 Fs2 H2 F ∧ ∀ a u, F a → H a = some u → H2 a = some u := by
  have kp : ∀ a u, F a → H a = some u → H2 a = some u := fun a u z e => (g2.keep a u e fun ⟨i, q⟩ => (x a z).2.2.2.2 i q).nt ((x a z).2.2.1.nt e)
  refine ⟨fun a z => ?_, kp⟩
  obtain ⟨h1, h2, h3, h4, h5⟩ := x a z
  refine ⟨fun q => ?_, h2, ?_, h4, fun i q => ?_⟩
  · rcases g2.znew a q with q | ⟨i, q⟩ | q
    · exact h1 q
    · exact h5 i q
    · exact h3.ne q
  · obtain ⟨u, e, n⟩ := h3
    exact ⟨u, kp a u z e, n⟩
  · rcases g2.fnew i a q with ⟨j, q⟩ | q
    · exact h5 j q
    · exact h3.ne q
end
end VL
namespace VL
open PySem PySem.Spec PyProof.Rows L2
section
variable {α : Type} {vs1 : List Nat} {asg asg1 : O → AsgE} {t t1 : DEnv → R Bool} {src1 : DEnv → R (List O)} {me : DEnv → R O} {env : DEnv}
end
section
variable {t : DEnv → R Bool} {m mF : VEnv → RS} {env e : VEnv} {Q : Ct → VEnv → Prop} {E : Exn → VEnv → Prop} {x : Exn}
def elseK (k : VEnv → Prop) (Q : Ct → VEnv → Prop) : Ct → VEnv → Prop
  | .next, e => k e
  | c, e => Q c e
@[simp] theorem elseK_next {k : VEnv → Prop} : elseK k Q .next e ↔ k e := (Iff.rfl)
@[simp] theorem elseK_brk {k : VEnv → Prop} : elseK k Q .brk e ↔ Q .brk e := (Iff.rfl)
@[simp] theorem elseK_cont {k : VEnv → Prop} : elseK k Q .cont e ↔ Q .cont e := (Iff.rfl)
@[simp] theorem elseK_ret {k : VEnv → Prop} {o : O} : elseK k Q (.ret o) e ↔ Q (.ret o) e := (Iff.rfl)
@[simp] theorem tryGo2_nil : wS (tryGo2 x e []) Q E ↔ badE x.cls = true ∧ E x e := by
  unfold tryGo2
  split
  · rename_i q; simp [q]
  · rename_i q; simp [q]
end
end VL
namespace VL
open PySem PySem.Spec PyProof.Rows L2
def pIxT (mp : VEnv → Option (Nat × List Nat)) (mi : DEnv → R O) : VEnv → Option (Nat × List Nat) := fun env => match mp env with
  | some (i, p) => (match getP env i p, mi (dl env) with
    | some (.tup os), .ok oi => (match oi.er with
      | .int k => (ixN os.length k).map fun n => (i, p ++ [n])
      | _ => none)
    | _, _ => none)
  | none => none
section
variable {X : Cx} {P : List Nat} {a b : Expr} {mp : VEnv → Option (Nat × List Nat)} {mb : DEnv → R O} {pos : Pos}
theorem vp_ixT (ha : VP X P a mp) (hb : VE X b mb) (hs : PlainIx b := by exact fun _ _ => rfl) : VP X P (.Subscript a b pos) (pIxT mp mb) := fun W tk fr hf => (pe_ix ix_seq (ha W tk fr hf) (hb.ef tk hf) hs).imp fun σ H Q h => by
  obtain ⟨Z, Fs, env, g, h⟩ := h
  unfold pIxT at h
  refine ⟨Z, Fs, env, g, ?_⟩
  cases em : mp env with
  | none => rw [em] at h; exact h
  | some q =>
    obtain ⟨i, p⟩ := q
    rw [em] at h
    simp only at h ⊢
    intro v0 v H1 ev s1 ew
    split at h
    · rename_i i' p' e
      split at e
      · rename_i os oi eg emb
        split at e
        · rename_i k ek
          cases en : ixN os.length k with
          | none => rw [en] at e; cases e
          | some n =>
            rw [en] at e
            cases e
            refine ⟨Z, Fs, rE_of (g.same s1).goodE ?_⟩
            rw [emb]
            intro y H2 F2 s2 r2 f2
            have g2 := (g.same s1).same s2
            obtain ⟨v0', vs, Fp, ev', ew', hs', _, _⟩ := g2.place eg
            rw [ev] at ev'; cases ev'
            have := (walkV_same s2 ew).symm.trans ew'
            cases this
            simp only [RepO] at hs'
            obtain ⟨a', xs, rfl, hH, hr⟩ := hs'
            have hlen : xs.length = os.length := RepOs.length hr
            have hn : n < xs.length := by
              rw [hlen]
              exact (ixN_seq en).2.1
            have eu : xs[n]? = some xs[n] := List.getElem?_eq_getElem hn
            have z2 := RepO.at r2
            rw [ek] at z2
            refine .inr (.inl ⟨a', xs, k, xs[n], rfl, z2, SqT.of hH, ?_, h v0 xs[n] H2 ev (s1.trans s2) ?_⟩)
            · unfold atI
              rw [hlen, en]
              exact eu
            · rw [walkV_app (walkV_same s2 ew)]
              show (match H2 a' with
                | some (.lst xs) => xs[n]?
                | some (.tup xs) => xs[n]?
                | some (.dK kvs) => (kvs.map (·.2))[n]?
                | some (.dT kvs) => (kvs.map (·.2))[n]?
                | some (.ins _ _ kvs) => (kvs.map (·.2))[n]?
                | _ => none) = some xs[n]
              rw [hH]
              exact eu
        · cases e
      · cases e
    · exact h.elim
end
section
variable {i n : Nat} {p : List Nat} {env : VEnv} {mp : VEnv → Option (Nat × List Nat)} {mi : DEnv → R O} {os : List O} {k : Int}
theorem pIxT_at {oi' : O} (h : mp env = some (i, p)) (hg : getP env i p = some (.tup os)) (hi : mi (dl env) = .ok oi') (hk : oi'.er = .int k) (hn : ixN os.length k = some n) : pIxT mp mi env = some (i, p ++ [n]) := by
  unfold pIxT
  simp only [h, hg, hi, hk, hn, Option.map_some]
end
end VL
namespace VL
open PySem PySem.Spec PyProof.Rows L2
def GoodVs (f : Fm) (env : VEnv) (os : List O) (vs : List V) (σ : L2.St) (H : Hp) : Prop := ∃ Z Fs F, GoodAt f Z Fs env σ H ∧ RepOs (f.w Z) H os vs F ∧ Extra f Z Fs H F
def rXA (f : Fm) (W : WX) (m : VEnv → RX (List O)) : TA := fun σ H Q => ∃ env, Good f env σ H ∧ match m env with
  | .ok os env' => ∀ vs H', GoodVs f env' os vs σ H' → Q vs H'
  | .ex x env' => ∀ cls d H', GoodX f env' x cls d σ H' → W cls d σ H'
  | .no => False
def XA (X : Cx) (P : List Nat) (es : List Expr) (m : VEnv → RX (List O)) : Prop := ∀ (W : WX), Takes X W → ∀ f : Fm, FOk X P f → PA X es (rXA f W m)
def AOut (f : Fm) (W : WX) (σ : L2.St) (r : RX (List O)) (Q : List V → Hp → Prop) : Prop := match r with
  | .ok os env' => ∀ vs H', GoodVs f env' os vs σ H' → Q vs H'
  | .ex x env' => ∀ cls d H', GoodX f env' x cls d σ H' → W cls d σ H'
  | .no => False
def xaNil : VEnv → RX (List O) := fun env => .ok [] env
def xaCons (mx : VEnv → RX O) (mA : VEnv → RX (List O)) : VEnv → RX (List O) := fun env => (mx env).bind fun o e => (mA e).bind fun os e2 => .ok (o :: os) e2
section
variable {X : Cx} {P : List Nat} {a : Expr} {es : List Expr} {mx : VEnv → RX O} {mA : VEnv → RX (List O)} {pos : Pos}
theorem xa_nil : XA X P [] xaNil := fun W tk f hf => pa_nil.imp fun σ H Q h => by
  obtain ⟨env, ⟨Z, Fs, g⟩, h⟩ := h
  exact h [] H ⟨Z, Fs, fun _ => False, g, by simp [RepOs], fun _ z => z.elim⟩
theorem held {f : Fm} {Z Z2 F F2 : Addr → Prop} {Fs Fs2 : Nat → Addr → Prop} {env env2 : VEnv} {σ σ2 : L2.St} {H H2 : Hp} {o : O} {v : V} {os : List O} {vs : List V} (g : GoodAt f Z Fs env σ H) (r : RepO (f.w Z) H o v F) (ex : Extra f Z Fs H F) (g2 : GoodAt (f.re Z Fs H) Z2 Fs2 env2 σ2 H2) (r2 : RepOs ((f.re Z Fs H).w Z2) H2 os vs F2) (ex2 : Extra (f.re Z Fs H) Z2 Fs2 H2 F2) : GoodVs f env2 (o :: os) (v :: vs) σ2 H2 := by
  obtain ⟨e2, kp⟩ := re_extra g ex g2
  have ex3 := ex2.unre g
  have dj : ∀ a, F a → ¬ F2 a := fun a z z2 => by
    rcases (ex2 a z2).2.2.2.1 with ⟨i, q⟩ | q
    · exact (ex a z).2.2.2.2 i q
    · exact (ex a z).2.2.1.ne q
  refine ⟨Z2, Fs2, fun a => F a ∨ F2 a, g.unre g2, ?_, fun a z => z.elim (e2 a) (ex3 a)⟩
  simp only [RepOs]
  exact ⟨v, vs, F, F2, rfl, fun _ z => .inl z, fun _ z => .inr z, dj, RepO.keep (w := f.w Z) (w' := f.w Z2) (p := fun _ => false) rfl (re_keepS g g2) (re_keepS g g2 .fz rfl).2.2.1 (O.no_none _) (fun a u z e _ => kp a u z e) r, r2⟩
theorem xa_cons (hx : VX X P a mx) (h : XA X P es mA) (hs : starEach (a :: es) X.env = (false, eval a X.env) :: starEach es X.env := by rfl) : XA X P (a :: es) (xaCons mx mA) := fun W tk f hf => by
  have hA : PA X es (fun σ H Q => ∃ f', FOk X P f' ∧ rXA f' W mA σ H Q) := ⟨fun pos pins s σ H Q I ⟨f', hf', q⟩ => (h W tk f' hf').run pos pins s σ H Q I q⟩
  refine (pa_cons (hx W tk f hf) hA hs).imp fun σ H Q h => ?_
  obtain ⟨env, g, h⟩ := h
  replace h : AOut f W σ (xaCons mx mA env) Q := h
  refine rX_of g ?_
  unfold xaCons at h
  cases e : mx env with
  | no => rw [e] at h; exact h
  | ex x env' => rw [e] at h; exact fun cls d H' gx => h cls d H' gx
  | ok o e1 =>
    rw [e] at h
    simp only [RX.bind] at h
    rintro v H1 ⟨Z, Fs, F, g1, r, ex⟩
    refine ⟨f.re Z Fs H1, hf, e1, ⟨Z, Fs, g1.re⟩, ?_⟩
    cases e2 : mA e1 with
    | no => rw [e2] at h; exact h
    | ex x env' => rw [e2] at h; exact fun cls d H' gx => h cls d H' (gx.unre g1)
    | ok os e3 =>
      rw [e2] at h
      rintro vs H2 ⟨Z2, Fs2, F2, g2, r2, ex2⟩
      exact h (v :: vs) H2 (held g1 r ex g2 r2 ex2)
def xTup (mA : VEnv → RX (List O)) : VEnv → RX O := fun env => (mA env).bind fun os e => if szOk os.length then .ok (.tup os) e else .no
def xLst (mA : VEnv → RX (List O)) : VEnv → RX O := fun env => (mA env).bind fun os e => if szOk os.length then .ok (.lst os) e else .no
theorem rXA_then {f : Fm} {W : WX} {env : VEnv} {σ : L2.St} {H : Hp} {Q : VK} {Q1 : List V → Hp → Prop} {k : List O → VEnv → RX O} (g : Good f env σ H) (h : EOut f W σ ((mA env).bind k) Q) (c : ∀ os env' vs H', GoodVs f env' os vs σ H' → EOut f W σ (k os env') Q → Q1 vs H') : rXA f W mA σ H Q1 := by
  refine ⟨env, g, ?_⟩
  cases e : mA env with
  | ok o env' => rw [e] at h; exact fun v H' gv => c o env' v H' gv h
  | ex x env' => rw [e] at h; exact fun cls d H' gx => h cls d H' gx
  | no => rw [e] at h; exact h
theorem vx_tupX {k : Nat} (h : XA X P es mA) : VX X P (.Tuple es k pos) (xTup mA) := fun W tk f hf => (pe_tup (h W tk f hf)).imp fun σ H Q h => by
  obtain ⟨env, g, h⟩ := h
  replace h : EOut f W σ (xTup mA env) Q := h
  refine rXA_then g h fun os e1 vs H1 gv h => ?_
  obtain ⟨Z, Fs, F, g1, r, ex⟩ := gv
  split at h
  · rename_i hz
    refine ⟨by rw [RepOs.length r]; exact szOk_le hz, fun q nq => ?_⟩
    have sm : Same H1 (upd H1 q (.tup vs)) := Same.of fun b o e => by rw [upd_ne (ne_of_none e nq)]; exact e
    refine h (.ref q) _ ⟨Z, Fs, F, g1.same sm, ?_, ?_⟩
    · simp only [RepO]
      exact ⟨q, vs, rfl, upd_same, RepOs.same sm r⟩
    · intro a z
      exact ⟨(ex a z).1, (ex a z).2.1, (ex a z).2.2.1.same sm, (ex a z).2.2.2⟩
  · exact h.elim
end
def frzA : O → Option O
  | .lf .bo d => some (lfk .bo d)
  | o => if o.no notFz then some (lfk .fz o.er) else none
def frzL : List O → Option (List O)
  | [] => some []
  | o :: os => match frzA o, frzL os with
    | some o', some os' => some (o' :: os')
    | _, _ => none
theorem GoodVs.fz {f : Fm} {env : VEnv} {os args : List O} {vs : List V} {σ : L2.St} {H : Hp} (e : frzL os = some args) (g : GoodVs f env os vs σ H) : ∃ Z Fs, GoodAt f Z Fs env σ H ∧ RepOs (f.w Z) H args vs (fun _ => False) := by
  obtain ⟨Z, Fs, F, g, r, ex⟩ := g
  refine ⟨fun a => Z a ∨ F a, Fs, g.frz ex, ?_⟩
  have go : ∀ {os args : List O} {vs : List V} {F1 : Addr → Prop}, Sub F1 F → frzL os = some args → RepOs (f.w Z) H os vs F1 → RepOs (f.w fun a => Z a ∨ F a) H args vs (fun _ => False) := by
    intro os
    induction os with
    | nil => intro args vs F1 _ e r; cases e; simpa [RepOs] using r
    | cons o os ih =>
      intro args vs F1 s1 e r
      simp only [RepOs] at r
      obtain ⟨v, r', Fa, Fb, rfl, sa, sb, d, r1, r2⟩ := r
      unfold frzL at e
      cases e1 : frzA o with
      | none => rw [e1] at e; cases e
      | some o' =>
        cases e2 : frzL os with
        | none => rw [e1, e2] at e; cases e
        | some os' =>
          rw [e1, e2] at e
          cases e
          simp only [RepOs]
          refine ⟨v, r', fun _ => False, fun _ => False, rfl, fun _ z => z, fun _ z => z, fun _ z _ => z, ?_, ih (fun a z => s1 a (sb a z)) e2 r2⟩
          unfold frzA at e1
          split at e1
          · cases e1
            simp only [RepO] at r1
            exact lfk_rep (w := f.w fun a => Z a ∨ F a) (k := .bo) (Rep.keep (KeepS.same (Same.refl _) fun _ z => z) r1)
          · split at e1
            · rename_i n
              cases e1
              refine lfk_rep (w := f.w fun a => Z a ∨ F a) (k := .fz) ?_
              refine RepO.toRep (w := f.w Z) (p := notFz) (fun k hk => ?_) n (fun a z => .inr (s1 a (sa a z))) r1
              cases k with
              | fz => exact fun _ z => .inl z
              | bo => cases hk
              | tb => cases hk
            · cases e1
  exact go (fun _ z => z) e r
section
variable {f : Fm} {Z : Addr → Prop} {Fs : Nat → Addr → Prop} {env : VEnv} {σ : L2.St} {H : Hp} {args : List O} {vs : List V}
theorem GoodAt.cutA {env' : VEnv} {ts : L2.St} (hp : ∀ p ∈ f.pin, σ[p.1]? = some (some p.2)) (g : GoodAt f Z Fs env' (σ ++ ts) H) : GoodAt f Z (fun i a => i < σ.length ∧ Fs i a) (env'.take σ.length) σ H := by
  have hl := g.len
  rw [List.length_append] at hl
  refine ⟨fun i o e => ?_, fun i j a n z z2 => g.dis i j a n z.2 z2.2, fun i a z => g.own i a z.2, g.zal, g.bal, g.keep, g.there, fun i a z => g.fnew i a z.2, g.znew, g.zold, hp, by rw [List.length_take]; omega⟩
  rw [List.getElem?_take] at e
  split at e
  · rename_i hi
    obtain ⟨v, ev, r⟩ := g.rep i o e
    rw [List.getElem?_append_left hi] at ev
    exact ⟨v, ev, RepO.mono (fun a z => ⟨hi, z⟩) r⟩
  · cases e
end
section
variable {X : Cx} {P : List Nat} {a : Expr} {es : List Expr} {mA : VEnv → RX (List O)} {pos p : Pos} {x : Str} {m : VEnv → RS}
end
end VL
namespace VL
open PySem PySem.Spec PyProof.Rows L2
structure wA (r : RX (List O)) (P : List O → VEnv → Prop) (E : Exn → VEnv → Prop) : Prop where
  out : match r with
    | .ok os e => P os e
    | .ex x e => E x e
    | .no => False
section
variable {os : List O} {e env : VEnv} {x : Exn} {P : List O → VEnv → Prop} {Q : O → VEnv → Prop} {E : Exn → VEnv → Prop} {mx : VEnv → RX O} {mA : VEnv → RX (List O)} {n : Nat} {m : VEnv → RS}
@[simp] theorem wA_ok : wA (.ok os e) P E ↔ P os e := ⟨fun h => h.out, fun h => ⟨h⟩⟩
@[simp] theorem wA_ex : wA (.ex x e) P E ↔ E x e := ⟨fun h => h.out, fun h => ⟨h⟩⟩
@[simp] theorem wA_no : wA .no P E ↔ False := ⟨fun h => h.out, fun h => ⟨h⟩⟩
@[simp] theorem wA_nil : wA (xaNil env) P E ↔ P [] env := wA_ok
@[simp] theorem wA_cons : wA (xaCons mx mA env) P E ↔ wX (mx env) (fun o e => wA (mA e) (fun os e2 => P (o :: os) e2) E) E := by
  unfold xaCons
  cases mx env with
  | no => simp [RX.bind]
  | ex x e => simp [RX.bind]
  | ok o e =>
    simp only [RX.bind, wX_ok]
    cases mA e with
    | no => simp
    | ex x e => simp
    | ok os e => simp
@[simp] theorem wX_tupX : wX (xTup mA env) Q E ↔ wA (mA env) (fun os e => os.length ≤ 16777216 ∧ Q (.tup os) e) E := by
  unfold xTup
  cases mA env with
  | no => simp [RX.bind]
  | ex x e => simp [RX.bind]
  | ok os e =>
    simp only [RX.bind, wA_ok, szOk_iff, decide_eq_true_eq]
    split
    · rename_i h; simp [h]
    · rename_i h; simp [h]
@[simp] theorem wX_lstX : wX (xLst mA env) Q E ↔ wA (mA env) (fun os e => os.length ≤ 16777216 ∧ Q (.lst os) e) E := by
  unfold xLst
  cases mA env with
  | no => simp [RX.bind]
  | ex x e => simp [RX.bind]
  | ok os e =>
    simp only [RX.bind, wA_ok, szOk_iff, decide_eq_true_eq]
    split
    · rename_i h; simp [h]
    · rename_i h; simp [h]
end
end VL
namespace VL
open PySem PySem.Spec PyProof.Rows L2
section
variable {X : Cx} {P : List Nat} {body : List Stmt} {m : VEnv → RS} {pos : Pos}
end
end VL
namespace VL
open PySem PySem.Spec PyProof.Rows L2
abbrev Tst := (DEnv → R Bool) × (DEnv → R O)
section
variable {X : Cx} {c e : Expr} {body : List Stmt} {t : DEnv → R Bool} {me : DEnv → R O} {l : List Tst} {pos p2 : Pos}
end
section
variable {X : Cx} {P : List Nat} {tg iter : Expr} {body : List Stmt} {src : DEnv → R (Bool × List O)} {asg : O → AsgE} {g : TG} {l : List Tst} {vs : List Nat} {pos : Pos}
end
end VL
namespace VL
open PySem PySem.Spec PyProof.Rows L2
section
variable {prog : Program} {w : World} {A : Around} {E : Value → Shared → Prop} {s : Shared}
end
section
variable {X : Cx} {P : List Nat} {a : Expr} {ma : DEnv → R O} {pos p : Pos}
def iEnT (js : List Nat) (ma : DEnv → R O) : DEnv → R (List Asg) := fun env => (ma env).bind fun o => match seqF o, o.er.isTp with
  | some (k, ds), true => .ok (ds.mapIdx fun i d => setL js [.lf .fz (.int (i : Nat)), lfk k d])
  | _, _ => .no
end
section
variable {ma : DEnv → R O} {de : DEnv}
@[simp] theorem iEnT_ev {js : List Nat} : iEnT js ma de = (ma de).bind fun o => gd ((seqF o).isSome = true ∧ o.er.isTp = true) (.ok (((seqF o).getD (.tb, [])).2.mapIdx fun i d => setL js [oi (i : Nat), lfk ((seqF o).getD (.tb, [])).1 d])) := by
  unfold iEnT
  cases ma de with
  | no => rfl
  | ex x => rfl
  | ok o =>
    show (match seqF o, o.er.isTp with
      | some (k, ds), true => R.ok (ds.mapIdx fun i d => setL js [O.lf .fz (.int (i : Nat)), lfk k d])
      | _, _ => .no) = gd _ _
    cases e : seqF o with
    | none => simp
    | some kd =>
      cases h : o.er.isTp with
      | true => simp
      | false => simp
end
end VL
namespace VL
open PySem PySem.Spec PyProof.Rows L2
def kidsO : O → Option (Bool × List O)
  | .tup os => some (true, os)
  | .lst os => some (false, os)
  | _ => none
def mvIx (i : Nat) (c : Int) : VEnv → RX O := fun env => match env[i]? with
  | some (some o) => (match kidsO o with
    | some (_, os) => (match atI os c with
      | some p => .ok p (env.set i none)
      | none => .no)
    | none => .no)
  | _ => .no
section
variable {X : Cx} {P : List Nat}
end
section
variable {env : VEnv} {i : Nat} {c : Int} {P : O → VEnv → Prop} {E : Exn → VEnv → Prop}
@[simp] theorem wX_mvIxT {os : List O} (h : env[i]? = some (some (.tup os))) : wX (mvIx i c env) P E ↔ ∃ o, atI os c = some o ∧ P o (env.set i none) := by
  unfold mvIx
  rw [h]
  show wX (match atI os c with
    | some p => RX.ok p (env.set i none)
    | none => .no) P E ↔ _
  cases atI os c <;> simp
end
end VL
namespace VL
open PySem PySem.Spec PyProof.Rows L2
def srtI (ns : List Int) : List Int := ns.mergeSort fun a b => decide (a ≤ b)
def gSorted (o : O) : R O := match listInts o.er with
  | some ns => .ok (.lst ((srtI ns).map fun n => .lf .fz (.int n)))
  | none => .no
section
variable {X : Cx} {a : Expr} {ma : DEnv → R O} {pos : Pos}
end
section
variable {ns : List Int} {o : O}
@[simp] theorem gSorted_ev : gSorted o = (optR (listInts o.er)).bind fun ns => .ok (.lst ((srtI ns).map oi)) := by
  unfold gSorted
  cases listInts o.er <;> rfl
end
end VL
namespace VL
open PySem PySem.Spec PyProof.Rows L2
section
variable {X : Cx} {e : Expr} {te : TE} {p apos cpos pos : Pos}
end
section
variable {X : Cx} {a : Expr} {ma : DEnv → R O} {p apos cpos pos : Pos}
end
end VL
namespace VL
open PySem PySem.Spec PyProof.Rows L2
def e4 (g : O → O → O → O → R O) (ma mb mc md : DEnv → R O) : DEnv → R O := fun env => (ma env).bind fun a => (mb env).bind fun b => (mc env).bind fun c => (md env).bind fun d => g a b c d
section
variable {X : Cx} {kx vx kx' vx' : Expr} {mk mv mk' mv' : DEnv → R O} {pos : Pos}
end
end VL
namespace VL
open PySem PySem.Spec PyProof.Rows L2
section
variable {X : Cx} {CX : CXT} {k n : Nat} {f C : Addr} {fd : FuncData} {ps ks : List Str} {sp : Sp} {E : L2.St → XK} {x : Str} {p pos : Pos} {e : Expr} {es : List Expr} {kws : List Keyword} {t tk : TA} {dvs : List V} {ds : List Value}
end
def DvOk (K : PySem.W.Frag) (d : D) (dv : V) : Prop := ∀ cl : Cl, (∀ a, KT K a → cl.b.kt a) → ∀ H S, Rep cl H S d dv
section
variable {X : Cx} {P : List Nat} {f : Fm} {Z : Addr → Prop} {Fs : Nat → Addr → Prop} {e : VEnv} {σ : L2.St} {H1 : Hp} {args : List O} {vs : List V} {W : WX} {Q : VK} {N : List Str} {n : Nat} {m : VEnv → RS} {C : String} {Ca : Addr}
end
def OkIK (P : Program) (w : World) (K : PySem.W.Frag) (mg : Str → Option Value) (base : Heap) (C : String) (N ps : List Str) (kw : Str) (d : D) (j : Nat) (m : VEnv → RS) (k : Nat) : Prop :=
  ∃ Ca f fd, mg (Str.ofString C) = some (.ref Ca) ∧ Mk K Ca f ∧ (∃ dv ds, DvOk K d dv ∧ Vals [dv] ds ∧ Binds K fd ps ds) ∧ KBn K fd ps (j + 1) [kw] (fun us ws => us ++ ws) (fun vs zs => vs ++ zs) ∧ FnOk P w K mg base (CXv mg P w) k f fd ps (SpV K mg N ps.length [0] m)
section
variable {X : Cx} {P : List Nat} {a b : Expr} {es : List Expr} {mA : VEnv → RX (List O)} {ma mb : VEnv → RX O} {pos p kpos : Pos} {x kw y : Str} {m : VEnv → RS} {k j : Nat} {N ps : List Str} {d : D}
end
def FnIK (K : PySem.W.Frag) (mg : Str → Option Value) (C : String) (qual : Str) (st : Stmt) (ps : List Str) (kw : Str) (d : D) (j : Nat) : Prop :=
  ∃ Ca f fd, mg (Str.ofString C) = some (.ref Ca) ∧ Mk K Ca f ∧ Fun K "__init__" qual st f fd ∧ (∃ dv ds, DvOk K d dv ∧ Vals [dv] ds ∧ Binds K fd ps ds) ∧ KBn K fd ps (j + 1) [kw] (fun us ws => us ++ ws) (fun vs zs => vs ++ zs)
theorem FnIK.ok {P : Program} {w : World} {K : PySem.W.Frag} {mg : Str → Option Value} {base : Heap} {C : String} {qual : Str} {st : Stmt} {N ps : List Str} {kw : Str} {d : D} {j k : Nat} {m : VEnv → RS} (T : FnIK K mg C qual st ps kw d j) (S : FnScope N ps (defScope st))
    (hb : ∀ (f : Addr) (cdv : Value) (A : Around) (outer : List Env) (s : Shared) (H : Hp) (E : XK), Room k (A.deeper (envOfC qual (defScope st) s.heap.objs.size f cdv)) → VB (cxOf (CXv mg P w) P w K mg base N qual (defScope st) f cdv A outer s H E) [0] (defBody st) m) : OkIK P w K mg base C N ps kw d j m (k + 1) := by
  obtain ⟨Ca, f, fd, hm, M, F, hd, hbn⟩ := T
  exact ⟨Ca, f, fd, hm, M, hd, hbn, fn_v F S (hb f)⟩
end VL
namespace VL
open PySem PySem.Spec PyProof.Rows L2
section
variable {X : Cx} {P : List Nat} {a b e : Expr} {es : List Expr} {ma mb me : DEnv → R O} {pos p apos cpos : Pos}
variable {mp : VEnv → Option (Nat × List Nat)} {tpos : Pos}
end
end VL
namespace VL
open PySem PySem.Spec PyProof.Rows L2
section
variable {X : Cx} {P : List Nat} {a b : Expr} {ma mb : DEnv → R O} {pos : Pos} {C f : Addr} {fd : FuncData} {ps : List Str} {sp : Sp} {k : Nat}
variable {N : List Str} {m : VEnv → RS} {w : Wd} {W : WX} {σ : L2.St} {H : Hp} {env : DEnv} {Q : VK}
end
end VL
namespace VL
open PySem PySem.Spec PyProof.Rows L2
section
variable {X : Cx} {P : List Nat} {a b : Expr} {rest : List Expr} {m m' : VEnv → RX O} {pos : Pos}
theorem GoodV.bl {f : Fm} {env : VEnv} {σ : L2.St} {H : Hp} {b : Bool} (g : Good f env σ H) : GoodV f env (.lf .fz (.bl b)) (.bl b) σ H :=
  let ⟨Z, Fs, g⟩ := g; ⟨Z, Fs, fun _ => False, g, by simp [RepO, Rep], fun _ z => z.elim⟩
end
end VL
namespace VL
open PySem PySem.Spec PyProof.Rows L2
section
variable {X : Cx} {P : List Nat} {E : Errs} {e a : Expr} {mx : VEnv → RX O} {mp : VEnv → Option (Nat × List Nat)} {pos tpos : Pos} {x y : Str}
end
end VL
namespace VL
open PySem PySem.Spec PyProof.Rows L2
section
variable {X : Cx} {P : List Nat} {a : Expr} {es : List Expr} {mA : DEnv → R (List O)} {sp : List (Option Nat)} {x : Str} {pos p : Pos} {n : Nat} {m : VEnv → RS} {f : Fm} {W : WX}
end
end VL
namespace VL
open PySem PySem.Spec PyProof.Rows L2
section
variable {w : Wd} {H : Hp}
theorem RepOs.item : ∀ {os : List O} {k : Nat} {s : O} {vs : List V} {F : Addr → Prop}, RepOs w H os vs F → os[k]? = some s → ∃ v F1, vs[k]? = some v ∧ RepO w H s v F1 ∧ Sub F1 F ∧
    ∀ (w' : Wd) (H' : Hp) (s' : O) (F1' : Addr → Prop), w'.cl.b = w.cl.b → KeepS H H' w.Z w'.Z → O.nos notFz os = true → (∀ a u, F a → ¬ F1 a → H a = some u → H' a = some u) → RepO w' H' s' v F1' → (∀ a, F1' a → F a → F1 a) → RepOs w' H' (os.set k s') vs (fun a => (F a ∧ ¬ F1 a) ∨ F1' a)
  | [], k, s, vs, F, h, e => by simp at e
  | o :: os, 0, s, vs, F, h, e => by
    simp only [List.getElem?_cons_zero, Option.some.injEq] at e
    subst e
    simp only [RepOs] at h
    obtain ⟨v, r, Fa, Fb, rfl, sa, sb, d, h1, h2⟩ := h
    refine ⟨v, Fa, rfl, h1, sa, fun w' H' s' F1' e k n f h' hd => ?_⟩
    simp only [O.nos, Bool.and_eq_true] at n
    simp only [List.set_cons_zero, RepOs]
    refine ⟨v, r, F1', Fb, rfl, fun a z => .inr z, fun a z => .inl ⟨sb a z, fun q => d a q z⟩, fun a z q => d a (hd a z (sb a q)) q, h', ?_⟩
    exact RepOs.pass e k n.2 (fun a u z q => f a u (sb a z) (fun w => d a w z) q) h2
  | o :: os, k + 1, s, vs, F, h, e => by
    simp only [RepOs] at h
    obtain ⟨v, r, Fa, Fb, rfl, sa, sb, d, h1, h2⟩ := h
    obtain ⟨v1, F1, ev, hs, s1, up⟩ := RepOs.item h2 (by simpa using e)
    refine ⟨v1, F1, by simpa using ev, hs, fun a z => sb a (s1 a z), fun w' H' s' F1' e k n f h' hd => ?_⟩
    simp only [O.nos, Bool.and_eq_true] at n
    have h3 := up w' H' s' F1' e k n.2 (fun a u z q => f a u (sb a z) q) h' fun a z q => hd a z (sb a q)
    simp only [List.set_cons_succ, RepOs]
    refine ⟨v, r, Fa, _, rfl, fun a z => .inl ⟨sa a z, fun q => d a z (s1 a q)⟩, ?_, ?_, RepO.pass e k n.1 (fun a u z q => f a u (sa a z) (fun w => d a z (s1 a w)) q) h1, h3⟩
    · rintro a (z | z)
      · exact .inl ⟨sb a z.1, z.2⟩
      · exact .inr z
    · rintro a z (q | q)
      · exact d a z q.1
      · exact d a z (s1 a (hd a q (sa a z)))
end
section
variable {f : Fm} {Z Z2 : Addr → Prop} {Fs Fs2 : Nat → Addr → Prop} {env e2 : VEnv} {σ : L2.St} {H H2 : Hp} {i k : Nat} {os : List O} {s s' : O} {v0 v1 : V} {G2 F : Addr → Prop}
def lndF (i n : Nat) (Fs : Nat → Addr → Prop) (G2 : Addr → Prop) : Nat → Addr → Prop := fun j a => if j = n then G2 a else (j ≠ i ∧ Fs j a)
structure LndAt (f : Fm) (Z : Addr → Prop) (Fs : Nat → Addr → Prop) (env : VEnv) (σ : L2.St) (H : Hp) (i k : Nat) (os : List O) (s : O) (v0 v1 : V) (G2 : Addr → Prop) : Prop where
  sl : σ[i]? = some (some v0)
  wk : walkV H v0 [k] = some v1
  rs : RepO (f.w Z) H s v1 G2
  sb : Sub G2 (Fs i)
  up : ∀ (Z' : Addr → Prop) (H' : Hp) (s' : O) (G' : Addr → Prop), KeepS H H' Z Z' → O.nos notFz os = true → (∀ a u, Fs i a → ¬ G2 a → H a = some u → H' a = some u) → RepO (f.w Z') H' s' v1 G' → (∀ a, G' a → Fs i a → G2 a) →
    RepO (f.w Z') H' (.lst (os.set k s')) v0 (fun a => (Fs i a ∧ ¬ G2 a) ∨ G' a)
theorem GoodAt.item (g : GoodAt f Z Fs env σ H) (e : env[i]? = some (some (.lst os))) (es : os[k]? = some s) : ∃ v0 v1 G2, LndAt f Z Fs env σ H i k os s v0 v1 G2 := by
  obtain ⟨v0, ev, r⟩ := g.rep i _ e
  simp only [RepO] at r
  obtain ⟨a, us, G, rfl, ha, fa, ga, sg, q⟩ := r
  obtain ⟨v1, G2, e1, hs, s1, up⟩ := RepOs.item q es
  refine ⟨.ref a, v1, G2, ev, ?_, hs, fun b z => sg b (s1 b z), fun Z' H' s' G' k n kf h' hd => ?_⟩
  · simp [walkV, kidV, ha, e1]
  · have na : ¬ G2 a := fun z => ga (s1 a z)
    simp only [RepO]
    refine ⟨a, us, _, rfl, kf a _ fa na ha, .inl ⟨fa, na⟩, ?_, ?_, up (f.w Z') H' s' G' rfl k n (fun b u z q => kf b u (sg b z) q) h' fun b z q => hd b z (sg b q)⟩
    · rintro (z | z)
      · exact ga z.1
      · exact na (hd a z fa)
    · rintro b (z | z)
      · exact .inl ⟨sg b z.1, z.2⟩
      · exact .inr z
theorem GoodAt.lend (g : GoodAt f Z Fs env σ H) (l : LndAt f Z Fs env σ H i k os s v0 v1 G2) : GoodAt (f.hid i v0 Z (lndF i env.length Fs G2) H) Z (lndF i env.length Fs G2) (env.set i none ++ [some s]) (σ ++ [some v1]) H := by
  have hlen := g.len
  have hi : i < σ.length := (List.getElem?_eq_some_iff.mp l.sl).1
  have hin : i ≠ env.length := by omega
  have own : ∀ j a, lndF i env.length Fs G2 j a → ∃ j', Fs j' a ∧ (j = env.length → j' = i) ∧ (j ≠ env.length → j' = j ∧ j ≠ i) := fun j a z => by
    unfold lndF at z
    split at z
    · rename_i q; exact ⟨i, l.sb a z, fun _ => rfl, fun w => absurd q w⟩
    · rename_i q; exact ⟨j, z.2, fun w => absurd w q, fun _ => ⟨rfl, z.1⟩⟩
  refine ⟨fun j o e => ?_, fun j j' a n h h' => ?_, fun j a h => ?_, g.zal, g.bal, fun b u e _ => Same.refl H b u e, ⟨fun _ n => n, g.there.2⟩, fun j a h => ?_, fun a z => .inl z, fun _ z => z, fun p hp => ?_, by simp [hlen]⟩
  · by_cases hj : j < env.length
    · rw [List.getElem?_append_left (by rw [List.length_set]; exact hj)] at e
      by_cases q : i = j
      · subst q
        rw [List.getElem?_set_self hj] at e
        cases e
      · rw [List.getElem?_set_ne q] at e
        obtain ⟨u, eu, r⟩ := g.rep j o e
        refine ⟨u, by rw [List.getElem?_append_left (by omega)]; exact eu, ?_⟩
        have e2 : lndF i env.length Fs G2 j = Fs j := by
          funext a
          unfold lndF
          rw [if_neg (by omega)]
          exact propext ⟨fun z => z.2, fun z => ⟨fun w => q w.symm, z⟩⟩
        show RepO (f.w Z) H o u (lndF i env.length Fs G2 j)
        rw [e2]
        exact r
    · rw [List.getElem?_append_right (by rw [List.length_set]; omega), List.length_set] at e
      have hj2 : j = env.length := by
        cases h : j - env.length with
        | zero => omega
        | succ k => rw [h] at e; simp at e
      subst hj2
      simp only [Nat.sub_self, List.getElem?_cons_zero, Option.some.injEq] at e
      subst e
      refine ⟨v1, by rw [List.getElem?_append_right (by omega), hlen, Nat.sub_self]; rfl, ?_⟩
      have e2 : lndF i env.length Fs G2 env.length = G2 := by
        funext a
        unfold lndF
        rw [if_pos rfl]
      show RepO (f.w Z) H s v1 (lndF i env.length Fs G2 env.length)
      rw [e2]
      exact l.rs
  · obtain ⟨q, h1, h2, h3⟩ := own j a h
    obtain ⟨q', h1', h2', h3'⟩ := own j' a h'
    by_cases e1 : j = env.length
    · have n2 : j' ≠ env.length := fun e2 => n (e1.trans e2.symm)
      obtain ⟨rfl, n3⟩ := h3' n2
      rw [h2 e1] at h1
      exact g.dis i q' a (fun e => n3 e.symm) h1 h1'
    · obtain ⟨rfl, n3⟩ := h3 e1
      by_cases e2 : j' = env.length
      · rw [h2' e2] at h1'
        exact g.dis q i a n3 h1 h1'
      · obtain ⟨rfl, _⟩ := h3' e2
        exact g.dis q q' a n h1 h1'
  · obtain ⟨q, h1, _, _⟩ := own j a h
    exact g.own q a h1
  · refine .inl ⟨j, fun e => ?_, h⟩
    subst e
    unfold lndF at h
    rw [if_neg hin] at h
    exact h.1 rfl
  · rcases List.mem_cons.mp hp with rfl | hp
    · show (σ ++ [some v1])[i]? = _
      rw [List.getElem?_append_left hi]; exact l.sl
    · have := g.pin p hp
      have hp2 : p.1 < σ.length := (List.getElem?_eq_some_iff.mp this).1
      rw [List.getElem?_append_left hp2]; exact this
def unF (i n : Nat) (Fi G2 : Addr → Prop) (Fs2 : Nat → Addr → Prop) : Nat → Addr → Prop := fun j a => if j = i then (Fi a ∧ ¬ G2 a) ∨ Fs2 n a else (j < n ∧ Fs2 j a)
theorem lnd_f0 (g : GoodAt f Z Fs env σ H) (l : LndAt f Z Fs env σ H i k os s v0 v1 G2) {a : Addr} (h : (f.hid i v0 Z (lndF i env.length Fs G2) H).F0 a) : (f.F0 a ∨ f.H0 a = none) ∧ ¬ (Fs i a ∧ ¬ G2 a) ∧ ∃ j, Fs j a := by
  obtain ⟨j, n, q⟩ := h
  unfold lndF at q
  split at q
  · exact ⟨g.fnew i a (l.sb a q), fun w => w.2 q, i, l.sb a q⟩
  · exact ⟨g.fnew j a q.2, fun w => g.dis i j a (fun e => n e.symm) w.1 q.2, j, q.2⟩
theorem GoodAt.unlend (g : GoodAt f Z Fs env σ H) (l : LndAt f Z Fs env σ H i k os s v0 v1 G2) (nf : O.nos notFz os = true) (h : GoodAt (f.hid i v0 Z (lndF i env.length Fs G2) H) Z2 Fs2 e2 (σ ++ [some v1]) H2) (e' : e2[env.length]? = some (some s')) :
    GoodAt f Z2 (unF i env.length (Fs i) G2 Fs2) ((e2.take env.length).set i (some (.lst (os.set k s')))) σ H2 := by
  have hlen := g.len
  have hl2 := h.len
  rw [List.length_append, List.length_singleton] at hl2
  have hi : i < σ.length := (List.getElem?_eq_some_iff.mp l.sl).1
  have kt : ∀ a xs, H a = some (.tup xs) → H2 a = some (.tup xs) := fun a xs e => h.keep a _ e fun w => by
    obtain ⟨_, _, j, q⟩ := lnd_f0 g l w
    obtain ⟨u, e', n⟩ := (g.own j a q).2.2
    rw [e] at e'; cases e'; exact n
  have hz : ∀ a u, Z a → H a = some u → Kp H H2 a u := fun a u z e => h.keep a u e fun w => by
    obtain ⟨_, _, j, q⟩ := lnd_f0 g l w
    exact (g.own j a q).1 z
  have kz : KeepS H H2 Z Z2 := ⟨fun a u z r n => ⟨h.zold a z, r.elim (fun e => .inl ((hz a _ z e).nt n)) fun ⟨o, e⟩ => .inr ⟨o, hz a _ z e⟩⟩, fun a C dx fs z e => hz a _ z e, kt, fun a xs z e => hz a _ z e, fun a xs z e => hz a _ z e⟩
  have kf : ∀ a u, Fs i a → ¬ G2 a → H a = some u → H2 a = some u := fun a u q n e => (h.keep a u e fun w => (lnd_f0 g l w).2.1 ⟨q, n⟩).nt ((g.own i a q).2.2.nt e)
  have nf0 : ∀ a, Fs i a → H a ≠ none := fun a q => (g.own i a q).2.2.ne
  have notF : ∀ j a, Fs2 j a → ¬ (Fs i a ∧ ¬ G2 a) := fun j a q w => by
    rcases h.fnew j a q with z | z
    · exact (lnd_f0 g l z).2.1 w
    · exact nf0 a w.1 z
  have hs : RepO (f.w Z2) H2 s' v1 (Fs2 env.length) := by
    obtain ⟨u, eu, r⟩ := h.rep _ _ e'
    rw [List.getElem?_append_right (by omega), hlen, Nat.sub_self] at eu
    cases eu
    exact r
  have hd : ∀ a, Fs2 env.length a → Fs i a → G2 a := fun a z q => Classical.byContradiction fun n => notF _ a z ⟨q, n⟩
  have whole := l.up Z2 H2 s' (Fs2 env.length) kz nf kf hs hd
  refine ⟨fun j p e => ?_, fun j j' a ne h1 h2 => ?_, fun j a q => ?_, h.zal, h.bal, fun a u e m => (g.keep a u e m).thn fun o eo => h.keep a o eo fun w => ?_, ⟨fun a m => h.there.1 a (g.there.1 a m), h.there.2⟩, fun j a q => ?_, fun a q => ?_, fun a q => h.zold a (g.zold a q), fun p hp => g.pin p hp, by rw [List.length_set, List.length_take]; omega⟩
  · by_cases q : i = j
    · subst q
      rw [List.getElem?_set_self (by rw [List.length_take]; omega)] at e
      cases e
      refine ⟨v0, l.sl, ?_⟩
      have e2 : unF i env.length (Fs i) G2 Fs2 i = fun a => (Fs i a ∧ ¬ G2 a) ∨ Fs2 env.length a := by
        funext a
        unfold unF
        rw [if_pos rfl]
      rw [e2]
      exact whole
    · rw [List.getElem?_set_ne q, List.getElem?_take] at e
      split at e
      · rename_i hj
        obtain ⟨u, eu, r⟩ := h.rep j p e
        rw [List.getElem?_append_left (by omega)] at eu
        refine ⟨u, eu, ?_⟩
        have e2 : unF i env.length (Fs i) G2 Fs2 j = Fs2 j := by
          funext a
          unfold unF
          rw [if_neg (fun w => q w.symm)]
          exact propext ⟨fun z => z.2, fun z => ⟨hj, z⟩⟩
        rw [e2]
        exact r
      · cases e
  · unfold unF at h1 h2
    split at h1 <;> split at h2
    · rename_i e1 e2; exact ne (e1.trans e2.symm)
    · rcases h1 with h1 | h1
      · exact notF j' a h2.2 h1
      · exact h.dis env.length j' a (by omega) h1 h2.2
    · rcases h2 with h2 | h2
      · exact notF j a h1.2 h2
      · exact h.dis j env.length a (by omega) h1.2 h2
    · exact h.dis j j' a ne h1.2 h2.2
  · have old : Fs i a → ¬ G2 a → ¬ Z2 a ∧ ¬ f.B a ∧ NT (H2 a) := fun q n => by
      have o1 := g.own i a q
      refine ⟨fun z => ?_, o1.2.1, ?_⟩
      · rcases h.znew a z with w | w | w
        · exact o1.1 w
        · exact (lnd_f0 g l w).2.1 ⟨q, n⟩
        · exact nf0 a q w
      · obtain ⟨u, eu, nu⟩ := o1.2.2
        exact ⟨u, kf a u q n eu, nu⟩
    unfold unF at q
    split at q
    · rcases q with q | q
      · exact old q.1 q.2
      · exact h.own _ a q
    · exact h.own j a q.2
  · rcases (lnd_f0 g l w).1 with z | z
    · exact m z
    · rw [e] at z; cases z
  · have new : ∀ j, Fs2 j a → f.F0 a ∨ f.H0 a = none := fun j q => by
      rcases h.fnew j a q with z | z
      · exact (lnd_f0 g l z).1
      · exact .inr (free_of g z)
    unfold unF at q
    split at q
    · rcases q with q | q
      · exact g.fnew i a q.1
      · exact new _ q
    · exact new _ q.2
  · rcases h.znew a q with z | z | z
    · exact g.znew a z
    · exact .inr (lnd_f0 g l z).1
    · exact .inr (.inr (free_of g z))
theorem Extra.unlend (g : GoodAt f Z Fs env σ H) (l : LndAt f Z Fs env σ H i k os s v0 v1 G2) (x : Extra (f.hid i v0 Z (lndF i env.length Fs G2) H) Z2 Fs2 H2 F) : Extra f Z2 (unF i env.length (Fs i) G2 Fs2) H2 F := fun a q => by
  obtain ⟨h1, h2, h3, h4, h5⟩ := x a q
  have nj : ¬ (Fs i a ∧ ¬ G2 a) := fun w => by
    rcases h4 with z | z
    · exact (lnd_f0 g l z).2.1 w
    · exact (g.own i a w.1).2.2.ne z
  refine ⟨h1, h2, h3, ?_, fun j w => ?_⟩
  · rcases h4 with z | z
    · exact (lnd_f0 g l z).1
    · exact .inr (free_of g z)
  · unfold unF at w
    split at w
    · rcases w with w | w
      · exact nj w
      · exact h5 _ w
    · exact h5 _ w.2
end
end VL
namespace VL
open PySem PySem.Spec PyProof.Rows L2
theorem ArgsRep.ext {w : Wd} {H : Hp} {σ ts : L2.St} : ∀ {sp : List (Option Nat)} {os : List O} {vs : List V} {F : Addr → Prop}, ArgsRep w H σ sp os vs F → ArgsRep w H (σ ++ ts) sp os vs F
  | [], _, _, _, h => h
  | some i :: sp, os, vs, F, h => by
    obtain ⟨v, r, e, e1, h⟩ := h
    have hi : i < σ.length := (List.getElem?_eq_some_iff.mp e1).1
    exact ⟨v, r, e, by rw [List.getElem?_append_left hi]; exact e1, ArgsRep.ext h⟩
  | none :: sp, os, vs, F, h => by
    obtain ⟨o, q, v, r, F1, F2, e1, e2, s1, s2, d, h1, h2⟩ := h
    exact ⟨o, q, v, r, F1, F2, e1, e2, s1, s2, d, h1, ArgsRep.ext h2⟩
section
variable {X : Cx} {P : List Nat} {a e : Expr} {es : List Expr} {mp : VEnv → Option (Nat × List Nat)} {mA : DEnv → R (List O)} {sp : List (Option Nat)} {x : Str} {pos p : Pos} {n : Nat} {m : VEnv → RS} {f : Fm} {W : WX}
end
end VL
namespace L2
open PySem PySem.Spec PyProof.Rows
section
variable {X : Cx}
end
section
variable {X : Cx} {C fi fl : Addr} {F : Str} {fdI : FuncData} {n : Nat} {tg e : Expr} {te : TE}
end
end L2
namespace VL
open PySem PySem.Spec PyProof.Rows L2
section
variable {X : Cx} {P : List Nat} {tg a : Expr} {g : TG} {ma : DEnv → R O} {k : Nat}
end
end VL
namespace VL
open PySem PySem.Spec PyProof.Rows L2
section
variable {prog : Program} {w : World} {A : Around} {E : Value → Shared → Prop} {env : Env} {s : Shared}
end
section
variable {M : Model} {Γ : PySem.Ctx} {L : Addr} {env : Env} {s : Shared} {base : Heap} {e : Addr} {Z : Obj → Prop} {p : Pos}
end
section
variable {X : Cx} {f₀ : Stmt} {fs : List Stmt} {tfs : TS} {Wout : WX} {pins : List (Addr × Obj)} {D : Ends} {u : Value} {s' : Shared} {xe : Value → Shared → Prop}
end
section
variable {X : Cx} {P : List Nat} {body : List Stmt} {f₀ : Stmt} {fs : List Stmt} {pos : Pos} {m mF : VEnv → RS}
end
end VL
namespace VL
open PySem PySem.Spec PyProof.Rows L2 HotX
section
variable {prog : Program} {w : World} {A : Around} {E : Value → Shared → Prop} {env : Env} {s : Shared} {x c : Sem Value} {Q : Flow → Shared → Prop} {x1 : Addr}
end
section
end
end VL
namespace VL
open PySem PySem.Spec PyProof.Rows L2 HotX
section
variable {X : Cx} {pins : List (Addr × Obj)} {σ : L2.St} {H : Hp} {s : Shared}
end
section
variable {X : Cx} {pins : List (Addr × Obj)} {Wo : WX} {i : Nat} {n : Str} {pz : Pos}
end
section
variable {X : Cx} {x n : Str} {c : Value} {i : Nat} {body suite : List Stmt} {b₀ : Stmt} {np pos pz : Pos} {tb : WX → TS} {ts : Addr → Value → Option Addr → TS} {Wo : WX}
end
end VL
namespace VL
open PySem PySem.Spec PyProof.Rows L2 HotX
theorem GoodX.outS {f : Fm} {c' : Cl} {env : VEnv} {x : Exn} {cls : Value} {d : Option Addr} {σ : L2.St} {H : Hp} {i : Nat} (h : c'.b = f.cl.b) (hp : ∀ p ∈ f.pin, p.1 ≠ i) (n : nxE (env.set i none) = true) (no : O.nxs x.xs = true) (g : GoodX (f.ex c') env x cls d σ H) : GoodX f (env.set i none) x cls d (σ.set i none) H := by
  obtain ⟨Z, Fs, F, g, r, xx⟩ := g
  have g2 : GoodAt (f.ex c') Z _ (env.set i none) (σ.set i none) H := GoodAt.forget2 hp g
  refine ⟨Z, _, F, GoodAt.ex (f := f.ex c') (c' := f.cl) h.symm (.inr n) g2, ?_, fun a z => ?_⟩
  · obtain ⟨Ca, c1, e1, r⟩ := r
    refine ⟨Ca, by show f.cl.b.at_ x.cls = some Ca; rw [← h]; exact c1, e1, ?_⟩
    rcases r with r | ⟨a, kvs, G, q1, q2, q3, q4, q5, q6, q7⟩
    · exact .inl r
    · exact .inr ⟨a, kvs, G, q1, q2, q3, q4, q5, q6, RepOs.cl (w := (f.ex c').w Z) (w' := f.w Z) ⟨h.symm, rfl, rfl, rfl⟩ (.inr no) q7⟩
  · obtain ⟨x1, x2, x3, x4, x5⟩ := xx a z
    refine ⟨x1, x2, x3, x4, fun j q => ?_⟩
    replace q : if j = i then False else Fs j a := q
    split at q
    · exact q
    · exact x5 j q
section
variable {X : Cx} {P : List Nat} {a : Expr} {ma : DEnv → R O} {x n : Str} {p np pos pos' : Pos} {E : Errs}
end
section
variable {X : Cx} {P : List Nat} {x n : Str} {np pos pz : Pos}
end
end VL
namespace VL
open PySem PySem.Spec PyProof.Rows L2 LamX
section
variable {P : Program} {w : World} {K : PySem.W.Frag} {mg : Str → Option Value} {base h : Heap}
theorem cxv_l2 {outer : List Env} {H : Hp} {s : Shared} {E : XK} {u : Value} {s' : Shared} (h : CXv mg P w outer H s E u s') : L2.CX P w outer H s E u s' := by
  rcases h with ⟨a, B, H', cls, d, e, f, r⟩ | ⟨a, B, H', cls, d, e, f, r1, r2, r3, r4, r5, r6⟩
  · exact ⟨a, B, H', cls, d, e, L2H.flyingZ_imp (fun _ z => z.zc) f, r⟩
  · exact ⟨a, B, H', cls, d, e, f, r1, r2, r3, r4, r5, r6.2⟩
theorem fn_l2 {k : Nat} {f : Addr} {fd : FuncData} {ps : List Str} {sp : Sp} (F : FnOk P w K mg base (CXv mg P w) k f fd ps sp) : FnOk P w K mg base (L2.CX P w) k f fd ps sp :=
  ⟨F.len, fun A outer s H args us vs Q E hr e0 hb r h => codeAny_mono (F.run A outer s H args us vs Q E hr e0 hb r h) fun r s' z => by
    cases r with
    | ok fl => cases fl <;> exact z
    | error e => exact cxv_l2 z⟩
theorem no_ktb {P2 : Addr} {q : Str} (X : K.In h) (G : h.Ns mainGlobals mg) (n : PySem.W.nsIn K mainGlobals mkrN = some none) (h : KTb K mg P2 q) : False := by
  obtain ⟨e, f', o, fd, c', h1, _⟩ := h
  rw [PySem.W.mg_none_of X G n] at h1; cases h1
end
def LawT (P : Program) (w : World) (K : PySem.W.Frag) (k : Nat) (mg : Str → Option Value) (fa : Addr) (h : Heap) : Prop := ∃ (cs : List (Addr × Addr)) (fd : FuncData), (∀ p ∈ cs, h.get? p.2 = some { cls := .none, data := .fields #[] }) ∧ (∀ p ∈ cs, K.lookup p.2 = none) ∧ (∀ p ∈ cs, PySem.W.CodeHd h p.1 p.2) ∧
  (∀ Pa q, KTb K mg Pa q → q = lamN ∧ ∃ c, (c, Pa) ∈ cs) ∧ (∀ (s : Shared) (u : Value), BindsTo s fd ⟨[u], []⟩ [("_law_script", u)]) ∧
  ∀ base : Heap, K.In base → base.Ns mainGlobals mg → (∀ p ∈ cs, TabB base mg p.1 p.2) → FnOk P w K mg base (L2.CX P w) k fa fd ["_law_script"] (spLaw K mg)
theorem walk_lawT {l : PySem.W.OpenLaw} {k : Nat} {q : Program} {loose : List Str} {XP : (Str → Option Value) → Heap → Prop} {YP : World → Heap → Prop} {d : DefRec} {K : Params → PySem.W.Frag} (hn : l.most = some 63) (hdf : d.params.defaults = []) (hr : Room k callerA)
    (hY : ∀ (w : World) (h : Heap), YP w h → (K w.params).In h)
    (F : ∀ (w : World) (mg : Str → Option Value) (fa : Addr) (h : Heap), YP w h → (K w.params).In h → h.Ns mainGlobals mg → mg d.name = some (.ref fa) → LawT l.prog w (K w.params) k mg fa h) :
    PySem.W.WalkO q loose XP YP l.row.toRowW d [] (fun f vs => PySem.call f vs) :=
  LamX.walk_ofTs (n := 63) (k := k) (x := "_law_script") (CX := fun w => L2.CX l.prog w) hn (by decide) hdf hr hY (fun w mg fa h Y KX G hm => by
    obtain ⟨cs, fd, h1, h2, h3, h4, h5, h6⟩ := F w mg fa h Y KX G hm
    refine ⟨fd, cs, spLaw (K w.params) mg, h1, h2, h3, h5, fun H a ns hl hb hT hS => ⟨fun Pa q kt => ?_, a, ns, rfl, hl, hS, fun _ => rfl⟩, h6⟩
    obtain ⟨rfl, c, hc⟩ := h4 Pa q kt
    exact ⟨#[], hT _ hc, rfl, True.intro, fun pos cv z => by
      have z : codeAmong pos [] = some cv := z
      simp [codeAmong] at z⟩) fun _ _ _ _ _ z => by
      obtain ⟨_, _, _, _, _, _, _, _, _, _, _, _, z⟩ := z
      exact z
section
variable {P : Program} {w : World} {K : PySem.W.Frag} {mg : Str → Option Value} {h : Heap} {k : Nat} {fa : Addr} {fd : FuncData}
theorem lawT_none (X : K.In h) (G : h.Ns mainGlobals mg) (n : PySem.W.nsIn K mainGlobals mkrN = some none) (hb : ∀ (s : Shared) (u : Value), BindsTo s fd ⟨[u], []⟩ [("_law_script", u)])
    (F : ∀ base : Heap, K.In base → base.Ns mainGlobals mg → FnOk P w K mg base (CXv mg P w) k fa fd ["_law_script"] (spLaw K mg)) : LawT P w K k mg fa h :=
  ⟨[], fd, (by simp), (by simp), (by simp), fun _ _ z => (no_ktb X G n z).elim, hb, fun base b1 b2 _ => fn_l2 (F base b1 b2)⟩
end
end VL
namespace VL
open PySem PySem.Spec PyProof.Rows L2
section
variable {m m2 mF : VEnv → RS} {ma : DEnv → R O} {env e : VEnv} {Q : Ct → VEnv → Prop} {E : Exn → VEnv → Prop} {x : Exn} {i : Nat} {E0 : Errs} {C f : String}
end
end VL
namespace VL
open PySem PySem.Spec PyProof.Rows L2
section
variable {X : Cx} {P : List Nat} {e a b : Expr} {mp : VEnv → Option (Nat × List Nat)} {ma : DEnv → R O} {apos cpos : Pos}
end
end VL
namespace VL
open PySem PySem.Spec PyProof.Rows L2
section
variable {X : Cx} {kx vx tg iter : Expr} {ifs : List Expr} {scope : Scope} {own : List (Str × Nat)} {pos spos py : Pos} {wi : TI} {g : TG} {tt : TT} {tk tv : TE}
end
section
variable {X : Cx} {kx vx tg iter : Expr} {ifs : List Expr} {scope : Scope} {own : List (Str × Nat)} {pos spos py : Pos} {src : DEnv → R (Bool × List O)} {asg : O → AsgE} {t : DEnv → R Bool} {g : TG} {mk mv : DEnv → R O}
end
end VL
namespace VL
open PySem PySem.Spec PyProof.Rows L2
section
variable {X : Cx} {P : List Nat} {b : Expr} {mb : DEnv → R O} {pos tpos : Pos} {y : Str}
end
end VL
namespace VL
open PySem PySem.Spec PyProof.Rows L2
def gMaxDT (o d : O) : R O := match o.er with
  | .tup ds => (match intsOf ds, d.er with
    | some ns, .int d => .ok (.lf .fz (.int (if ns.isEmpty then d else maxI ns)))
    | _, _ => .no)
  | _ => gMaxD o d
section
variable {X : Cx} {a b : Expr} {ma mb : DEnv → R O} {pos : Pos}
end
@[simp] theorem gMaxDT_tup {k : Kd} {ns : List Int} {d : Int} : gMaxDT (.lf k (.tup (ns.map D.int))) (oi d) = .ok (oi (if ns.isEmpty then d else maxI ns)) := by
  have : intsOf (ns.map D.int) = some ns := intsOf_map ns
  show (match intsOf (ns.map D.int), D.int d with
    | some ns, .int d => R.ok (O.lf .fz (.int (if ns.isEmpty then d else maxI ns)))
    | _, _ => .no) = _
  rw [this]
@[simp] theorem gMaxDT_li {k : Kd} {ns : List Int} {d : Int} : gMaxDT (.lf k (iL ns)) (oi d) = .ok (oi (if ns.isEmpty then d else maxI ns)) := gMaxD_li
end VL
namespace VL
open PySem PySem.Spec PyProof.Rows L2
def gDixT (o1 o2 : O) : R O := match o1 with
  | .dct ks os => (match dkey o2.er with
    | some k => (match lkK k ks os with
      | some o => .ok o
      | none => .no)
    | none => .no)
  | o1 => gDix o1 o2
section
variable {X : Cx} {a b : Expr} {ma mb : DEnv → R O} {pos : Pos}
end
@[simp] theorem gDixT_dct {ks : List Key} {os : List O} {o2 : O} : gDixT (.dct ks os) o2 = (match dkey o2.er with
    | some k => (match lkK k ks os with
      | some o => .ok o
      | none => .no)
    | none => .no) := (rfl)
end VL
namespace VL
open PySem PySem.Spec PyProof.Rows L2
section
variable {X : Cx} {tg a : Expr} {ma : DEnv → R O} {k : Nat}
end
end VL
namespace VL
open PySem PySem.Spec PyProof.Rows L2
def isBo : Kd → Bool
  | .bo => true
  | _ => false
def dropBo (z : Option O) : Option O := match z with
  | some p => if p.no isBo then some p else none
  | none => none
theorem dropBo_some {z : Option O} {p : O} (h : dropBo z = some p) : z = some p ∧ p.no isBo = true := by
  unfold dropBo at h
  split at h
  · split at h
    · rename_i q
      cases h
      exact ⟨rfl, q⟩
    · cases h
  · cases h
def Fm.shw (f : Fm) (j : Nat) (v : V) (ps : List (Nat × V)) (Z : Addr → Prop) (Fs : Nat → Addr → Prop) (H1 : Hp) : Fm := { f with H0 := H1, F0 := fun a => ∃ i, i ≠ j ∧ Fs i a, Z0 := Z, B := fun a => f.B a ∨ Fs j a ∨ Z a, pin := (j, v) :: (ps ++ f.pin) }
section
variable {f : Fm} {Z Z2 : Addr → Prop} {Fs Fs2 : Nat → Addr → Prop} {env env2 : VEnv} {σ σ2 : L2.St} {H H2 : Hp} {j : Nat} {o o' : O} {v v' : V} {F : Addr → Prop} {ps : List (Nat × V)}
theorem GoodAt.shw (g : GoodAt f Z Fs env σ H) (ev : σ[j]? = some (some v)) (r : RepO (f.w Z) H o v (Fs j)) (n : o.no notFz = true) (hj : j < env.length) (hps : ∀ p ∈ ps, σ[p.1]? = some (some p.2)) : GoodAt (f.shw j v ps Z Fs H) Z (fun i a => i ≠ j ∧ Fs i a) (env.set j (some (.lf .bo o.er))) σ H := by
  refine ⟨fun i p e => ?_, fun i k a n h h' => g.dis i k a n h.2 h'.2, fun i a h => ⟨(g.own i a h.2).1, ?_, (g.own i a h.2).2.2⟩, g.zal, fun a h => ?_, fun a u e _ => Same.refl H a u e, ⟨fun _ n => n, g.there.2⟩, fun i a h => .inl ⟨i, h⟩, fun a z => .inl z, fun _ z => z, fun p hp => ?_, by rw [List.length_set]; exact g.len⟩
  · by_cases q : j = i
    · subst q
      rw [List.getElem?_set_self hj] at e
      cases e
      refine ⟨v, ev, ?_⟩
      simp only [RepO]
      exact RepO.toRep (w := f.w Z) (S := (f.shw j v ps Z Fs H).B) (p := notFz) (fun x hx => by
        cases x with
        | fz => exact fun _ z => .inr (.inr z)
        | bo => cases hx
        | tb => cases hx) n (fun _ z => .inr (.inl z)) r
    · rw [List.getElem?_set_ne q] at e
      obtain ⟨u, eu, r'⟩ := g.rep i p e
      refine ⟨u, eu, ?_⟩
      have e2 : (fun a => i ≠ j ∧ Fs i a) = Fs i := by
        funext a
        exact propext ⟨fun h => h.2, fun h => ⟨fun w => q w.symm, h⟩⟩
      rw [e2]
      exact RepO.keep (w := f.w Z) (w' := (f.shw j v ps Z Fs H).w Z) (p := fun _ => false) rfl (fun x _ => by
        cases x with
        | fz => exact KeepS.same (Same.refl H) fun _ z => z
        | bo => exact KeepS.same (Same.refl H) fun _ z => .inl z
        | tb => exact KeepS.same (Same.refl H) fun _ z => z) (fun _ _ e => e) (O.no_none p) (fun _ _ _ e _ => e) r'
  · rintro (w | w | w)
    · exact (g.own i a h.2).2.1 w
    · exact g.dis i j a h.1 h.2 w
    · exact (g.own i a h.2).1 w
  · rcases h with w | w | w
    · exact g.bal a w
    · exact (g.own j a w).2.2.ne
    · exact g.zal a w
  · rcases List.mem_cons.mp hp with rfl | hp
    · exact ev
    · rcases List.mem_append.mp hp with hp | hp
      · exact hps p hp
      · exact g.pin p hp
theorem GoodAt.unshw (h : GoodAt (f.shw j v ps Z Fs H) Z2 Fs2 env2 σ2 H2) : GoodAt (f.hid j v Z Fs H) Z2 Fs2 (env2.map dropBo) σ2 H2 := by
  refine ⟨fun i p e => ?_, h.dis, fun i a q => ⟨(h.own i a q).1, fun w => (h.own i a q).2.1 (.inl w), (h.own i a q).2.2⟩, h.zal, fun a q => h.bal a (.inl q), h.keep, h.there, h.fnew, h.znew, h.zold, fun p hp => ?_, by rw [List.length_map]; exact h.len⟩
  · rw [List.getElem?_map] at e
    cases q : env2[i]? with
    | none => rw [q] at e; cases e
    | some z =>
      rw [q] at e
      obtain ⟨rfl, np⟩ := dropBo_some (Option.some.inj e)
      obtain ⟨u, eu, r⟩ := h.rep i p q
      exact ⟨u, eu, RepO.keep (w := (f.shw j v ps Z Fs H).w Z2) (w' := (f.hid j v Z Fs H).w Z2) (p := isBo) rfl (fun x hx => by
        cases x with
        | fz => exact KeepS.same (Same.refl H2) fun _ z => z
        | bo => cases hx
        | tb => exact KeepS.same (Same.refl H2) fun _ z => z) (fun _ _ e => e) np (fun _ _ _ e _ => e) r⟩
  · rcases List.mem_cons.mp hp with rfl | hp
    · exact h.pin _ List.mem_cons_self
    · exact h.pin p (List.mem_cons_of_mem _ (List.mem_append_right _ hp))
theorem shw_bo (g : GoodAt f Z Fs env σ H) (h : GoodAt (f.shw j v ps Z Fs H) Z2 Fs2 env2 σ2 H2) : KeepS H H2 f.B f.B := by
  have hk : ∀ a u, f.B a → H a = some u → Kp H H2 a u := fun a u z e => h.keep a u e fun ⟨i, _, q⟩ => (g.own i a q).2.1 z
  have ht : ∀ a xs, H a = some (.tup xs) → H2 a = some (.tup xs) := fun a xs e => h.keep a _ e fun ⟨i, _, q⟩ => by
    obtain ⟨u, e', n⟩ := (g.own i a q).2.2
    rw [e] at e'; cases e'; exact n
  exact ⟨fun a u z r n => ⟨z, r.elim (fun e => .inl ((hk a _ z e).nt n)) fun ⟨o, e⟩ => .inr ⟨o, hk a _ z e⟩⟩, fun a C dx fs z e => hk a _ z e, ht, fun a xs z e => hk a _ z e, fun a xs z e => hk a _ z e⟩
theorem GoodAt.putBo {k : Nat} {u : V} {d : D} (g : GoodAt f Z Fs env σ H) (hk : σ[k]? = some (some u)) (r : Rep f.cl H f.B d u) : GoodAt f Z (fun i a => if i = k then False else Fs i a) (env.set k (some (.lf .bo d))) σ H := by
  have sub : ∀ i a, (if i = k then False else Fs i a) → Fs i a := fun i a h => by
    split at h
    · exact h.elim
    · exact h
  refine ⟨fun i p e => ?_, fun i l a n h h' => g.dis i l a n (sub i a h) (sub l a h'), fun i a h => g.own i a (sub i a h), g.zal, g.bal, g.keep, g.there, fun i a h => g.fnew i a (sub i a h), g.znew, g.zold, g.pin, by rw [List.length_set]; exact g.len⟩
  by_cases q : k = i
  · subst q
    rw [List.getElem?_set] at e
    split at e
    · split at e
      · cases e
        exact ⟨u, hk, by simp only [RepO]; exact r⟩
      · cases e
    · rename_i w; exact absurd rfl w
  · rw [List.getElem?_set_ne q] at e
    obtain ⟨w, ew, r'⟩ := g.rep i p e
    refine ⟨w, ew, ?_⟩
    have e2 : (fun a => if i = k then False else Fs i a) = Fs i := by
      funext a
      rw [if_neg fun w => q w.symm]
    show RepO (f.w Z) H p w (fun a => if i = k then False else Fs i a)
    rw [e2]
    exact r'
end
def keepL (env : VEnv) : List Nat → VEnv → VEnv
  | [], e => e
  | k :: ks, e => keepL env ks (e.set k (env[k]?.getD none))
def lendOk (ks : List Nat) (env : VEnv) : Bool := ks.all fun k => match env[k]? with
  | some (some (.lf .bo _)) => true
  | _ => false
def sLend (j : Nat) (ks : List Nat) (m : VEnv → RS) : VEnv → RS := fun env => match env[j]? with
  | some (some o) => if o.no notFz && lendOk ks env then (match m (env.set j (some (.lf .bo o.er))) with
      | .ok .next e => .ok .next (keepL env ks ((e.map dropBo).set j (some o)))
      | .ok (.ret (.lf .fz d)) e => if d.imm then .ok (.ret (.lf .fz d)) (keepL env ks ((e.map dropBo).set j (some o))) else .no
      | _ => .no) else .no
  | _ => .no
def valS (σ : L2.St) (k : Nat) : V := match σ[k]? with
  | some (some u) => u
  | _ => .non
section
variable {f : Fm} {Z Z2 : Addr → Prop} {Fs Fs2 : Nat → Addr → Prop} {env env2 : VEnv} {σ σ2 : L2.St} {H H2 : Hp} {j : Nat} {o o' : O} {v v' : V} {F : Addr → Prop}
theorem lend_val (g : GoodAt f Z Fs env σ H) {ks : List Nat} (h : lendOk ks env = true) {k : Nat} (hk : k ∈ ks) : ∃ d, env[k]? = some (some (.lf .bo d)) ∧ σ[k]? = some (some (valS σ k)) ∧ Rep f.cl H f.B d (valS σ k) := by
  have := List.all_eq_true.mp h k hk
  split at this
  · rename_i d e
    obtain ⟨u, eu, r⟩ := g.rep k _ e
    simp only [RepO] at r
    have : valS σ k = u := by unfold valS; rw [eu]
    rw [this]
    exact ⟨d, e, eu, r⟩
  · cases this
theorem keep_ks (g : GoodAt f Z Fs env σ H) (hB : KeepS H H2 f.B f.B) : ∀ {ks : List Nat} {e : VEnv}, lendOk ks env = true → (∀ k ∈ ks, σ2[k]? = some (some (valS σ k))) → (∃ Fs2, GoodAt f Z2 Fs2 e σ2 H2) → ∃ Fs2, GoodAt f Z2 Fs2 (keepL env ks e) σ2 H2
  | [], e, _, _, h => h
  | k :: ks, e, hl, hp, ⟨Fs2, h⟩ => by
    obtain ⟨d, e1, e2, r⟩ := lend_val g hl List.mem_cons_self
    have hl2 : lendOk ks env = true := by
      unfold lendOk at hl ⊢
      rw [List.all_cons, Bool.and_eq_true] at hl
      exact hl.2
    unfold keepL
    rw [e1]
    exact keep_ks g hB hl2 (fun i hi => hp i (List.mem_cons_of_mem _ hi)) ⟨_, h.putBo (hp k List.mem_cons_self) (Rep.keep hB r)⟩
theorem lend_back {ks : List Nat} (g : GoodAt f Z Fs env σ H) (r : RepO (f.w Z) H o v (Fs j)) (n : o.no notFz = true) (hl : lendOk ks env = true) (h : GoodAt (f.shw j v (ks.map fun k => (k, valS σ k)) Z Fs H) Z2 Fs2 env2 σ2 H2) : ∃ Fs3, GoodAt f Z2 Fs3 (keepL env ks ((env2.map dropBo).set j (some o))) σ2 H2 :=
  keep_ks g (shw_bo g h) hl (fun k hk => h.pin (k, valS σ k) (List.mem_cons_of_mem _ (List.mem_append_left _ (List.mem_map.mpr ⟨k, hk, rfl⟩)))) ⟨_, g.unhide r n h.unshw⟩
end
section
variable {X : Cx} {P : List Nat} {st : Stmt} {m : VEnv → RS}
theorem vs_lend (j : Nat) (ks : List Nat) (hb : VS X (j :: (ks ++ P)) st m) : VS X P st (sLend j ks m) := fun W tk f hf => ⟨fun pins s σ H En I h => by
  obtain ⟨env, ⟨Z, Fs, g⟩, h⟩ := rS_to h
  unfold sLend at h
  split at h
  · rename_i o eo
    split at h
    · rename_i q
      rw [Bool.and_eq_true] at q
      obtain ⟨n, hl⟩ := q
      obtain ⟨v, ev, r⟩ := g.rep j _ eo
      have hj : j < env.length := (List.getElem?_eq_some_iff.mp eo).1
      have hf' : FOk X (j :: (ks ++ P)) (f.shw j v (ks.map fun k => (k, valS σ k)) Z Fs H) := ⟨hf.1, by
        show j :: ((ks.map fun k => (k, valS σ k)) ++ f.pin).map (·.1) = _
        rw [List.map_append, List.map_map, hf.2]
        congr 2
        exact List.map_id' ks⟩
      refine (hb W tk _ hf').run pins s σ H En I (rS_of ⟨Z, _, g.shw ev r n hj (fun p hp => ?_)⟩ ?_)
      · obtain ⟨k, hk, rfl⟩ := List.mem_map.mp hp
        obtain ⟨d, _, e2, _⟩ := lend_val g hl hk
        exact e2
      · split at h
        · rename_i e em
          rw [em]
          rintro σ' H' ⟨Z2, Fs2, h2⟩
          obtain ⟨Fs3, h3⟩ := lend_back g r n hl h2
          exact h σ' H' ⟨Z2, Fs3, h3⟩
        · rename_i d e em
          split at h
          · rename_i im
            rw [em]
            rintro u σ' H' ⟨Z2, Fs2, F, h2, r2, x⟩
            obtain ⟨Fs3, h3⟩ := lend_back g r n hl h2
            refine h u σ' H' ⟨Z2, Fs3, fun _ => False, h3, ?_, fun _ z => z.elim⟩
            simp only [RepO] at r2 ⊢
            exact r2
          · exact h.elim
        · exact h.elim
    · exact h.elim
  · exact h.elim⟩
end
end VL
namespace VL
open PySem PySem.Spec PyProof.Rows L2
def ltF : O → Bool
  | .lf .fz _ => true
  | .lf .bo _ => true
  | _ => false
section
variable {X : Cx} {P : List Nat} {tg a : Expr} {g : TG} {ma : DEnv → R O}
end
end VL
namespace VL
open PySem PySem.Spec PyProof.Rows L2
@[simp] theorem dropBo_none : dropBo none = none := (rfl)
@[simp] theorem dropBo_fz {d : D} : dropBo (some (.lf .fz d)) = some (.lf .fz d) := (rfl)
@[simp] theorem dropBo_bo {d : D} : dropBo (some (.lf .bo d)) = none := (rfl)
theorem wS_lend {j : Nat} {ks : List Nat} {m : VEnv → RS} {env : VEnv} {o : O} {Q : Ct → VEnv → Prop} {E : Exn → VEnv → Prop} (hj : env[j]? = some (some o)) (n : o.no notFz = true) (hl : lendOk ks env = true)
    (h : wS (m (env.set j (some (.lf .bo o.er)))) (fun c e => match c with
      | .next => Q .next (keepL env ks ((e.map dropBo).set j (some o)))
      | .ret (.lf .fz d) => d.imm = true ∧ Q (.ret (.lf .fz d)) (keepL env ks ((e.map dropBo).set j (some o)))
      | _ => False) (fun _ _ => False)) : wS (sLend j ks m env) Q E := by
  unfold sLend
  rw [hj]
  simp only [n, hl, Bool.and_self, if_true]
  cases q : m (env.set j (some (.lf .bo o.er))) with
  | no => rw [q] at h; exact (wS_no.mp h).elim
  | ex x e => rw [q] at h; exact (wS_ex.mp h).elim
  | ok c e =>
    rw [q] at h
    have h := wS_ok.mp h
    cases c with
    | next => exact wS_ok.mpr h
    | brk => exact h.elim
    | cont => exact h.elim
    | ret o =>
      cases o with
      | lf k d =>
        cases k with
        | fz =>
          simp only [h.1, if_true]
          exact wS_ok.mpr h.2
        | bo => exact h.elim
        | tb => exact h.elim
      | _ => exact h.elim
@[simp] theorem ltF_fz {d : D} : ltF (.lf .fz d) = true := (rfl)
@[simp] theorem ltF_bo {d : D} : ltF (.lf .bo d) = true := (rfl)
end VL
namespace VL
open PySem PySem.Spec PyProof.Rows L2
def gSplit (o1 o2 : O) : R O := match o1.er with
  | .str a => (match o2.er with
    | .str b => if !(b.length == 0) && szOk (a.length + 2) then .ok (.lst ((Txt.split a b).map fun z => .lf .fz (.str z))) else .no
    | _ => .no)
  | _ => .no
theorem strs_rep {w : Wd} {H : Hp} : ∀ zs : List Str, RepOs w H (zs.map fun z => O.lf .fz (.str z)) (zs.map V.str) (fun _ => False)
  | [] => by simp [RepOs]
  | x :: xs => by
    simp only [List.map_cons, RepOs]
    exact ⟨_, _, fun _ => False, fun _ => False, rfl, fun _ z => z, fun _ z => z, fun _ z => z.elim, by simp [RepO, Rep], strs_rep xs⟩
section
variable {X : Cx} {P : List Nat} {a b e o : Expr} {ma mb me mo : DEnv → R O} {pos apos : Pos}
theorem ve_split (ho : VE X a ma) (he : VE X b mb) (hs : starEach [b] X.env = [(false, eval b X.env)] := by rfl) (hbase : attributeBase a "split" X.env (eval a X.env) = eval a X.env := by rfl) (hline : (apos.endLine == pos.line) = true := by rfl) :
    VE X (.Call (.Attribute a "split" apos) [b] [] pos) (eMeth isSO gSplit ma mb) := fun W tk w hc =>
  (pe_split (ho W tk w hc) (he W tk w hc) hs hbase hline).imp fun σ H Q h => by
    obtain ⟨env, G, h⟩ := rE_to h
    refine rE_of G (Out.bind (Same.refl H) h fun o1 v1 H1 F1 _ s1 p1 f1 h1 => ?_)
    by_cases c : isSO o1 = true
    · rw [if_pos c] at h1
      have z1 := RepO.at p1
      unfold isSO at c
      cases eo : o1.er <;> rw [eo] at c z1 <;> try (simp at c; done)
      rename_i x
      simp only [Rep] at z1
      subst z1
      refine ⟨⟨x, rfl⟩, rE_of (G.same s1) (Out.bind s1 h1 fun o2 v2 H2 F2 _ s2 p2 f2 h2 => ?_)⟩
      have z2 := RepO.at p2
      unfold gSplit at h2
      rw [eo] at h2
      cases eo2 : o2.er <;> rw [eo2] at h2 z2 <;> try exact h2.elim
      rename_i y
      simp only [Rep] at z2
      subst z2
      simp only at h2
      by_cases q : (!(y.length == 0) && szOk (x.length + 2)) = true
      · rw [if_pos q] at h2
        rw [Bool.and_eq_true, Bool.not_eq_true'] at q
        exact ⟨x, y, rfl, rfl, q.1, szOk_le q.2, fun p np => new_lst (s1.trans s2) (strs_rep _) (fun _ z => z.elim) h2 np⟩
      · rw [if_neg q] at h2; exact h2.elim
    · rw [if_neg c] at h1; exact h1.elim
end
def VET (X : Cx) (e : Expr) (m : DEnv → R O) : Prop := ∀ (W : WX), Takes X W → ∀ w : Wd, ClOk X w.cl → PET X e (rE w W m)
def VST (X : Cx) (P : List Nat) (st : Stmt) (m : VEnv → RS) : Prop := ∀ (W : WX), Takes X W → ∀ f : Fm, FOk X P f → PST X st (rS f W m)
def VBT (X : Cx) (P : List Nat) (st : List Stmt) (m : VEnv → RS) : Prop := ∀ (W : WX), Takes X W → ∀ f : Fm, FOk X P f → PSsT X st (rS f W m)
theorem pet_imp {X : Cx} {e : Expr} {t t' : TE} (h : PET X e t) (k : ∀ σ H Q, t' σ H Q → t σ H Q) : PET X e t' := fun pins s σ H Q h0 I q => h pins s σ H Q h0 I (k σ H Q q)
def gRepl (y z : Str) (o : O) : R O := match o.er with
  | .str x => if szOk (x.length + (x.length + 1) * z.length) then .ok (.lf .fz (.str (Txt.replace x y z))) else .no
  | _ => .no
section
variable {X : Cx} {P : List Nat} {a b e o c : Expr} {ma mb me mo : DEnv → R O} {m m1 m2 : VEnv → RS} {mp : VEnv → Option (Nat × List Nat)} {pos apos : Pos} {st : Stmt} {body els : List Stmt}
theorem vet_repl {y z : Str} {j k : Nat} {c0 c1 : Pos} (ho : VE X o mo) (hyz : (y == z) = false := by decide)
    (hst : starEach [.Constant (.str y) j c0, .Constant (.str z) k c1] X.env = [(false, eval (.Constant (.str y) j c0) X.env), (false, eval (.Constant (.str z) k c1) X.env)] := by rfl)
    (hbase : attributeBase o "replace" X.env (eval o X.env) = eval o X.env := by rfl) (hline : (apos.endLine == pos.line) = true := by rfl) :
    VET X (.Call (.Attribute o "replace" apos) [.Constant (.str y) j c0, .Constant (.str z) k c1] [] pos) (e1 (gRepl y z) mo) := fun W tk w hc =>
  pet_imp (CwR.pet_replC (ho W tk w hc) hyz hst hbase hline) fun σ H Q h => by
    obtain ⟨env, G, h⟩ := rE_to h
    refine rE_of G (Out.bind (Same.refl H) h fun o1 v1 H1 F1 _ s1 p1 f1 h1 => ?_)
    have z1 := RepO.at p1
    unfold gRepl at h1
    cases eo : o1.er <;> rw [eo] at h1 z1 <;> try exact h1.elim
    rename_i x
    simp only [Rep] at z1
    subst z1
    simp only at h1
    split at h1
    · rename_i q
      exact ⟨x, rfl, of_decide_eq_true q, out_str h1⟩
    · exact h1.elim
theorem pst_asg {tg e : Expr} {te : TE} {g : TG} (he : PET X e te) (hg : PG X tg g) (hs : swapsWithSole [tg] e pos.line X.env = pure false := by rfl) (hw : swappedStores [tg] e X.env = pure none := by rfl)
    (h1 : (assignEach [tg] X.env).map (·.2) = [assign tg X.env] := by rfl) : PST X (.Assign [tg] e pos) (tAsg te g) := by
  intro pins s σ H D h0 I h
  refine wpAny_Assign_stores (thn (he pins s σ H _ h0 I h) fun v s1 ⟨x, H1, I1, r1, q1⟩ => ?_) hs hw
  rw [h1]
  exact thn (hg.run pins s1 σ H1 x v _ I1 r1 q1) fun _ s2 q => q
theorem vet_ef {Z : Addr → Prop} {Fs : Nat → Addr → Prop} {W : WX} {f : Fm} (ha : VET X a ma) (tk : Takes X W) (hf : FOk X P f) : PET X a (rEf f W ma) := fun pins s σ H Q h0 I h => by
  obtain ⟨Z, Fs, h⟩ := h
  exact ha W tk (tw f Z Fs) hf.1 pins s σ H Q h0 I h
theorem vst_setIx {tpos : Pos} (he : VET X a ma) (hp : VP X P e mp) (hi : VE X b mb)
    (hsub : ∀ v, assign (.Subscript e b tpos) X.env v = (do
      let ov ← holding [v] (eval e X.env)
      let iv ← holding [v, ov] (eval b X.env)
      standAt tpos
      holding [v, ov, iv] (setItem ov iv v)
      release [v, ov, iv] []) := by intro _; rfl)
    (hs : swapsWithSole [.Subscript e b tpos] a pos.line X.env = pure false := by rfl) (hw : swappedStores [.Subscript e b tpos] a X.env = pure none := by rfl)
    (h1 : (assignEach [.Subscript e b tpos] X.env).map (·.2) = [assign (.Subscript e b tpos) X.env] := by rfl) : VST X P (.Assign [.Subscript e b tpos] a pos) (sSetIx ma mp mb) := fun W tk f hf pins s σ H D hz I h => by
  obtain ⟨env, ⟨Z, Fs, g⟩, h⟩ := rS_to h
  refine (pst_asg (vet_ef (Z := Z) (Fs := Fs) he tk hf) (pg_sub (hp W tk f hf) (hi.ef tk hf) set_list hsub) hs hw h1) pins s σ H D hz I ⟨Z, Fs, rE_of g.goodE ?_⟩
  unfold sSetIx at h
  split at h
  · exact h.elim
  · rename_i x ex
    rw [ex]
    split at h
    · rename_i n
      exact fun cls d H' F s r fr => h cls d σ H' ⟨Z, Fs, F, g.same s, RepX.unlend n r, g.fresh fr⟩
    · exact h.elim
  · rename_i o eo
    rw [eo]
    intro y H1 F1 s1 r1 f1
    split at h
    · exact h.elim
    · rename_i i p em
      refine ⟨Z, Fs, env, g.same s1, ?_⟩
      rw [em]
      intro v0 v H2 ev s2 ew
      split at h
      · rename_i os oi eg ei
        obtain ⟨a1, xs1, rfl, ha1⟩ := ((g.same s1).same s2).is eg ev ew
        refine ⟨Z, Fs, rE_of ((g.same s1).same s2).goodE ?_⟩
        rw [ei]
        intro iv H3 F3 s3 r3 f3
        have zi := RepO.at r3
        split at h
        · rename_i k ek
          rw [ek] at zi
          split at h
          · rename_i j ej
            split at h
            · rename_i n
              have g3 := ((g.same s1).same s2).same s3
              obtain ⟨v0', a, xs, G, ev', ew', hla, q, nG, sG, _, put⟩ := g3.putL eg
              rw [ev] at ev'; cases ev'
              have := (walkV_same s3 ew).symm.trans ew'
              cases this
              have x1 : Extra f Z Fs H3 F1 := fun b z => by
                obtain ⟨x1, x2, x3, x4, x5⟩ := g.fresh f1 b z
                exact ⟨x1, x2, (x3.same s2).same s3, x4, x5⟩
              have r1' := RepO.same (s2.trans s3) (RepO.unlend n r1)
              obtain ⟨Fs', g4, _⟩ := put (os.set j o) (xs.set j y) (fun b => G b ∨ F1 b) F1 x1 (fun _ z => z) (RepOs.setAt j q r1' fun b z z2 => (x1 b z2).2.2.2.2 i (sG b z))
              exact ⟨a1, xs, k, j, rfl, zi, hla, by rw [RepOs.length q]; exact ej, h σ _ ⟨Z, Fs', g4⟩⟩
            · exact h.elim
          · exact h.elim
        · exact h.elim
      · exact h.elim
theorem vbt_one (h1 : VST X P st m) : VBT X P [st] m := fun W tk f hf pins s σ H D h0 I h => by
  refine wpAny_execs_cons (thn (h1 W tk f hf pins s σ H D h0 I h) fun fl s1 q => ?_)
  cases fl with
  | next => exact wpAny_execs_nil q
  | ret v => exact q
  | brk => exact q
  | cont => exact q
theorem ptt_cmpR {op : CmpOp} {k : Int} {j : Nat} {cpos : Pos} {r : R2} {ta tb : TE} (ho : OpR X (compareOp op) r) (ha : PE X a ta) (hb : PE X (.Constant (.int k) j cpos) tb) (hm : behindInMarks op (.Constant (.int k) j cpos) = false) {pins : List (Addr × Obj)} {s : Shared} {σ : L2.St} {H : Hp} {Q : Bool → Hp → Prop}
    (I : Inv X pins σ H s) (h : tTest (tOp r ta tb) σ H Q) : wpAny (model X.prog X.w) X.A (isTrue (.Compare a [op] [.Constant (.int k) j cpos] pos) X.env (eval (.Compare a [op] [.Constant (.int k) j cpos] pos) X.env)) (fun d s1 => 1 ≤ s1.toks ∧ TP X pins σ Q d s1) X.xe s := by
  refine wpAny_isTrue_Compare1 (thn (ha.run pins s σ H _ I h) fun v s1 ⟨x, H1, I1, r1, q1⟩ => ?_) hm
  have h2 := hb.run pins s1 σ H1 _ I1 q1
  have h3 : wpAny (model X.prog X.w) X.A (eval (.Constant (.int k) j cpos) X.env) (fun u s2 => 1 ≤ s2.toks ∧ EP X pins σ (fun y H2 => r x y H2 fun x H' => ∃ k, x = V.bl k ∧ Q k H') u s2) X.xe s1 := fun Γ p hΓ => ⟨Nat.le_add_left 1 s1.toks, h2 Γ p hΓ⟩
  refine thn h3 fun u s2 ⟨hk, y, H2, I2, r2, q2⟩ => ?_
  refine wpAny_mono (PySem.wpAny_toks (ho pins s2 σ H2 x y v u _ I2 r1 r2 q2)) (fun c s3 ⟨hk3, z, H3, I3, r3, k', e, q3⟩ => ?_) fun _ _ z => z.2
  subst e
  cases r3
  exact wpAny_truthy_bool ⟨Nat.le_trans hk hk3, H3, I3, q3⟩
theorem vs_ifT {op : CmpOp} {k : Int} {j : Nat} {cpos : Pos} {r : R2} {g : O → O → R O} {q : Pos} (ho : OpR X (compareOp op) r) (hr : Op2 X r g) (ha : VE X a ma) (hm : behindInMarks op (.Constant (.int k) j cpos) = false) (hA : VBT X P body m1) (hB : VB X P els m2) :
    VS X P (.If (.Compare a [op] [.Constant (.int k) j cpos] pos) body els q) (sIf (tOfE (e2 g ma (eC (.int k)))) m1 m2) := fun W tk f hf => ⟨fun pins s σ H D I h => by
  obtain ⟨env, ⟨Z, Fs, g0⟩, h⟩ := rS_to h
  have base : rT (tw f Z Fs) W (tOfE (e2 g ma (eC (.int k)))) σ H (fun b H1 => if b = true then rS f W m1 D σ H1 else rS f W m2 D σ H1) := by
    refine rT_of g0.goodE ?_
    unfold sIf at h
    cases e : tOfE (e2 g ma (eC (.int k))) (dl env) with
    | ok r =>
      rw [e] at h
      intro c' H' F sm ec _
      subst ec
      cases c' with
      | true => rw [if_pos rfl]; exact rS_of ⟨Z, Fs, g0.same sm⟩ h
      | false => rw [if_neg Bool.false_ne_true]; exact rS_of ⟨Z, Fs, g0.same sm⟩ h
    | ex x =>
      rw [e] at h
      simp only at h
      split at h
      · rename_i n
        exact fun cls d H' F sm r fr => h cls d σ H' ⟨Z, Fs, F, g0.same sm, RepX.unlend n r, g0.fresh fr⟩
      · exact h.elim
    | no => rw [e] at h; exact h.elim
  have hq : tTest (tOp r (rE (tw f Z Fs) W ma) (rE (tw f Z Fs) W (eC (.int k)))) σ H (fun b H1 => if b = true then rS f W m1 D σ H1 else rS f W m2 D σ H1) := by
    obtain ⟨env', G, h'⟩ := rT_to base
    refine seq2 (W := W) hr hf.1 G ?_
    refine Out.bind (Same.refl H) h' fun o v H1 F1 _ s1 p1 f1 h1 => ?_
    have z := RepO.at p1
    unfold asB at h1
    cases e : o.er <;> rw [e] at h1 z <;> try exact h1.elim
    rename_i b
    exact ⟨b, z, h1 b H1 (fun _ => False) (Same.refl H1) rfl fun _ z => z.elim⟩
  refine wpAny_If (thn (ptt_cmpR ho (ha W tk (tw f Z Fs) hf.1) (ve_int W tk (tw f Z Fs) hf.1) hm I hq) fun d s1 ⟨hk, H1, I1, q1⟩ => ?_)
  cases d with
  | true => exact hA W tk f hf pins s1 σ H1 D hk I1 q1
  | false => exact (hB W tk f hf).run pins s1 σ H1 D I1 q1⟩
theorem vs_ifTeq {k : Int} {j : Nat} {cpos q : Pos} (hu : Hu X) (ha : VE X a ma) (hA : VBT X P body m1) (hB : VB X P els m2) :
    VS X P (.If (.Compare a [.Eq] [.Constant (.int k) j cpos] pos) body els q) (sIf (tOfE (e2 gEq ma (eC (.int k)))) m1 m2) := vs_ifT (op_eqD hu) o_eqD ha (nomark _) hA hB
end
end VL
namespace VL
open PySem PySem.Spec PyProof.Rows L2
def spC (c : Nat) (l : List Nat) : List (List Nat) := TL.spl [c] 0 [] l
theorem spC_acc {c : Nat} : ∀ (l acc : List Nat), TL.spl [c] 0 acc l ≠ [] ∧ (TL.spl [c] 0 acc l).length ≤ l.length + 1 ∧ ((TL.spl [c] 0 acc l).map List.length).sum + (TL.spl [c] 0 acc l).length = l.length + acc.length + 1 ∧ ∀ p ∈ TL.spl [c] 0 acc l, p.length ≤ l.length + acc.length ∧ ∀ x ∈ p, x ∈ acc ++ l
  | [], acc => by
    rw [TL.spl_nil]
    simp
  | d :: r, acc => by
    by_cases h : TL.pre [c] (d :: r) = true
    · rw [TL.spl_hit h]
      show acc :: TL.spl [c] 0 [] r ≠ [] ∧ _
      obtain ⟨h1, h2, h3, h4⟩ := spC_acc (c := c) r []
      refine ⟨by simp, by simp; omega, by simp at h3 ⊢; omega, fun p hp => ?_⟩
      rcases List.mem_cons.mp hp with rfl | hp
      · exact ⟨by simp, fun x hx => List.mem_append_left _ hx⟩
      · obtain ⟨a, b⟩ := h4 p hp
        refine ⟨by simp at a ⊢; omega, fun x hx => ?_⟩
        have := b x hx
        simp at this
        simp [this]
    · rw [TL.spl_miss (by simpa using h)]
      obtain ⟨h1, h2, h3, h4⟩ := spC_acc (c := c) r (acc ++ [d])
      refine ⟨h1, by simp; omega, by simp at h3 ⊢; omega, fun p hp => ?_⟩
      obtain ⟨a, b⟩ := h4 p hp
      refine ⟨by simp at a ⊢; omega, fun x hx => ?_⟩
      have := b x hx
      simpa using this
theorem spC_ne {c : Nat} {l : List Nat} : spC c l ≠ [] := (spC_acc l []).1
theorem spC_len {c : Nat} {l : List Nat} : (spC c l).length ≤ l.length + 1 := (spC_acc l []).2.1
theorem spC_pos {c : Nat} {l : List Nat} : 0 < (spC c l).length := List.length_pos_iff.mpr spC_ne
theorem spC_sum {c : Nat} {l : List Nat} : ((spC c l).map List.length).sum + (spC c l).length = l.length + 1 := (spC_acc l []).2.2.1
theorem spC_mem {c : Nat} {l p : List Nat} (h : p ∈ spC c l) : p.length ≤ l.length ∧ ∀ x ∈ p, x ∈ l := by
  have := (spC_acc l []).2.2.2 p h
  simpa using this
theorem split_C {c : Nat} {l : List Nat} (hc : c < 256) : PySem.Txt.split (tS l) (tS [c]) = (spC c l).map tS := SX.split_S (a := l) (b := [c]) (by simp) (by simpa using hc)
theorem gSplit_S {k k' : Kd} {l : List Nat} {c : Nat} (hc : c < 256) : gSplit (.lf k (.str (tS l))) (.lf k' (.str (tS [c]))) = gd (l.length + 2 ≤ 16777216) (.ok (.lst ((spC c l).map oS))) := by
  rw [← szif]
  show (if (!(([c] : List Nat).length == 0) && szOk (l.length + 2)) = true then R.ok (O.lst ((PySem.Txt.split (tS l) (tS [c])).map fun z => O.lf .fz (.str z))) else .no) = _
  rw [split_C hc, List.map_map]
  rfl
@[simp] theorem gSplit_nl {k k' : Kd} {l : List Nat} : gSplit (.lf k (.str (tS l))) (.lf k' (.str (tS [10]))) = gd (l.length + 2 ≤ 16777216) (.ok (.lst ((spC 10 l).map oS))) := gSplit_S (by decide)
@[simp] theorem gSplit_sp {k k' : Kd} {l : List Nat} : gSplit (.lf k (.str (tS l))) (.lf k' (.str (tS [32]))) = gd (l.length + 2 ≤ 16777216) (.ok (.lst ((spC 32 l).map oS))) := gSplit_S (by decide)
abbrev jnL (m : List Nat) (ys : List (List Nat)) : List Nat := TL.joinL m ys
theorem gJoin_S {k : Kd} {m : List Nat} {ys : List (List Nat)} {o : O} (h : o.er.seq.bind strsOf = some (ys.map tS)) : gJoin (.lf k (.str (tS m))) o = gd ((ys.map List.length).sum + ys.length * m.length ≤ 16777216) (.ok (oS (jnL m ys))) := by
  cases e : o.er.seq with
  | none => rw [e] at h; cases h
  | some ds =>
    rw [e] at h
    have h : strsOf ds = some (ys.map tS) := h
    unfold gJoin
    rw [e]
    show (match strsOf ds with
      | some ys => if decide ((ys.map fun y : Str => y.length).sum + ys.length * m.length ≤ 16777216) = true then R.ok (O.lf .fz (.str (PySem.Txt.join (tS m) ys))) else .no
      | none => R.no) = _
    rw [h]
    show (if decide (((ys.map tS).map fun y : Str => y.length).sum + (ys.map tS).length * m.length ≤ 16777216) = true then R.ok (O.lf .fz (.str (PySem.Txt.join (tS m) (ys.map tS)))) else .no) = _
    have e1 : ((ys.map tS).map fun y : Str => y.length) = ys.map List.length := SX.lens ys
    have e2 : PySem.Txt.join (tS m) (ys.map tS) = tS (jnL m ys) := SX.join_S m ys
    rw [e1, e2, List.length_map, ← gd_eq]
    by_cases h : (ys.map List.length).sum + ys.length * m.length ≤ 16777216
    · rw [if_pos (decide_eq_true h), if_pos h]
    · rw [if_neg (by simpa using h), if_neg h]
theorem jnL_len {m : List Nat} : ∀ {ys : List (List Nat)}, (jnL m ys).length ≤ (ys.map List.length).sum + ys.length * m.length
  | [] => by simp [jnL, TL.joinL]
  | [p] => by simp [jnL, TL.joinL]
  | p :: q :: r => by
    have ih := jnL_len (m := m) (ys := q :: r)
    show (p ++ (m ++ jnL m (q :: r))).length ≤ _
    rw [List.length_append, List.length_append, List.map_cons, List.sum_cons, List.length_cons, Nat.add_mul]
    omega
theorem jnL_mem {m : List Nat} {x : Nat} : ∀ {ys : List (List Nat)}, x ∈ jnL m ys → x ∈ m ∨ ∃ p ∈ ys, x ∈ p
  | [], h => by simp [jnL, TL.joinL] at h
  | [p], h => .inr ⟨p, by simp, h⟩
  | p :: q :: r, h => by
    have h : x ∈ p ++ (m ++ jnL m (q :: r)) := h
    rcases List.mem_append.mp h with h | h
    · exact .inr ⟨p, by simp, h⟩
    rcases List.mem_append.mp h with h | h
    · exact .inl h
    rcases jnL_mem h with h | ⟨z, h1, h2⟩
    · exact .inl h
    · exact .inr ⟨z, List.mem_cons_of_mem _ h1, h2⟩
def tabF (c : Nat) : Nat := if c = 32 then 9 else c
theorem replL_tab : ∀ l : List Nat, StrLaws.replL [32] [9] l = l.map tabF
  | [] => by rw [StrLaws.replL_nil]; rfl
  | c :: r => by
    by_cases h : c = 32
    · subst h
      rw [StrLaws.replL_hit (by simp) (by simp)]
      show 9 :: StrLaws.replL [32] [9] r = _
      rw [replL_tab r]
      rfl
    · rw [StrLaws.replL_miss (by simpa using h), replL_tab r, List.map_cons]
      unfold tabF
      rw [if_neg h]
@[simp] theorem gRepl_tab {k : Kd} {l : List Nat} : gRepl (tS [32]) (tS [9]) (.lf k (.str (tS l))) = gd (l.length + (l.length + 1) ≤ 16777216) (.ok (oS (l.map tabF))) := by
  rw [← szif]
  have e : PySem.Txt.replace (tS l) (tS [32]) (tS [9]) = tS (l.map tabF) := by
    refine TL.ext_tl ?_
    have := StrLaws.replace_list (x := tS l) (y := tS [32]) (z := tS [9]) (by decide)
    rw [← replL_tab]
    exact this
  show (if szOk (l.length + (l.length + 1) * 1) = true then R.ok (O.lf .fz (.str (PySem.Txt.replace (tS l) (tS [32]) (tS [9])))) else .no) = _
  rw [e, Nat.mul_one]
end VL
namespace Kw
open PySem PySem.Spec PyProof.Rows L2 VL
def top (i : Nat) : Stmt := PySem.Challenge.pw_dyevats_k36_texts_of_orders.main.body.getD i (.Pass ⟨0, 0, 0, 0⟩)
abbrev errs : Errs := [("DyeError", []), ("BadName", ["name"]), ("UnknownName", ["name"]), ("BadNumber", ["number"]), ("BadStrengths", ["place"]), ("NotDarker", ["top"]), ("BadDeed", ["place"]), ("NothingToUndo", []), ("BadOrder", []), ("WrongTotal", ["offered", "wanted"]), ("CircularPromise", ["dark", "light"]), ("NoPromise", ["promise"]), ("NoOrder", ["stretch"]), ("BadLine", ["line"])]
abbrev s_valid_name : Stmt := top 18
abbrev N_valid_name : List Str := ["name", "char"]
abbrev P_valid_name : List Str := ["name"]
def m_valid_name : VEnv → RS := sSeq (sIf (tOrM (tNotM (tOfE (eCh gLe gLe (eC (.int 1)) (eN (f1 gLen) (aCons (eVar 0) aNil)) (eC (.int 12))))) (tOfE (e2 gNIn (e2 gIx (eVar 0) (eC (.int 0))) (eC (.str "abcdefghijklmnopqrstuvwxyz"))))) (sRet (pur (eC (.bl false)))) (sNext))
  (sRet (pur (eN (f1 allB) (aCons (gLc [1] (jStr (eVar 0)) (asgN 1) (tYesM) (e2 gIn (eVar 1) (e2 gPlus (eC (.str "abcdefghijklmnopqrstuvwxyz")) (eC (.str "0123456789"))))) aNil))))
abbrev s_write_order : Stmt := top 20
abbrev N_write_order : List Str := ["order", "row"]
abbrev P_write_order : List Str := ["order"]
def m_write_order : VEnv → RS := sRet (pur (eMeth isSO gJoin (eC (.str "\n")) (gLc [1] (jSq (eVar 0)) (asgN 1) (tYesM) (eMeth isSO gJoin (eC (.str " ")) (eVar 1)))))
abbrev s_read_order : Stmt := top 21
abbrev N_read_order : List Str := ["text", "order", "at", "line", "row", "name"]
abbrev P_read_order : List Str := ["text"]
def b_read_order_1 : VEnv → RS := sSeq (sSet 4 (pur (eMeth isSO gSplit (eVar 3) (eC (.str " ")))))
  (sSeq (sIf (tNotM (tTru (eN (f1 allB) (aCons (gLc [5] (jSq (eVar 4)) (asgN 5) (tYesM) (eN (callM 2 m_valid_name) (aCons (eVar 5) (aNil)))) aNil)))) (sRaise1 "BadLine" "line" (e2 gPlus (eVar 2) (eC (.int 1)))) (sNext))
  (sDrop (xAppX 1 (mvM 4))))
def m_read_order : VEnv → RS := sSeq (sSet 1 (pur (eN gLst (aNil))))
  (sSeq (sFor (iEnM [2, 3] (eMeth isSO gSplit (eVar 0) (eC (.str "\n")))) (b_read_order_1))
  (sRet (mvM 1)))
abbrev s_law_cell : Stmt := top 23
abbrev N_law_cell : List Str := ["_law_script", "_law_k"]
abbrev P_law_cell : List Str := ["_law_script", "_law_k"]
def m_law_cell : VEnv → RS := sSeq (sIf (tOfE (e2 gLt (eVar 1) (eN (f1 gLen) (aCons (eVar 0) aNil)))) (sRet (pur (eN (f1 gInt) (aCons (e2 gIx (eVar 0) (eVar 1)) aNil)))) (sNext))
  (sRet (pur (e2 gPlus (e2 gTimes (e2 gMod (eN (f1 gInt) (aCons (eN (f1 gSum) (aCons (eSl (eVar 0) (oNo) (oYes (eC (.int 4)))) aNil)) aNil)) (eC (.int 99991))) (e2 gPlus (eVar 1) (eC (.int 3)))) (e2 gTimes (eC (.int 33)) (eVar 1)))))
abbrev s_law_row : Stmt := top 24
abbrev N_law_row : List Str := ["_law_cell_here", "_law_count", "_law_many", "_law_rest", "_law_mixed", "_law_row_here", "_law_k"]
abbrev P_law_row : List Str := ["_law_cell_here", "_law_count", "_law_many"]
def b_law_row_1 : VEnv → RS := sIf (tOfE (e2 gGt (eVar 3) (eC (.int 0)))) (sSeq (sDrop (xApp (pName 5) (e2 gMod (eN (f1 gInt) (aCons (eVar 3) aNil)) (eVar 2))))
  (sSetZ 3 (pur (e2 gDiv (eVar 3) (eVar 2))))) (sSeq (sSetZ 4 (pur (e2 gMod (eN (f1 gInt) (aCons (e2 gPlus (e2 gTimes (eVar 4) (eC (.int 40692))) (eC (.int 16807))) aNil)) (eC (.int 2147483399)))))
  (sDrop (xApp (pName 5) (e2 gMod (eN (f1 gInt) (aCons (eVar 4) aNil)) (eVar 2)))))
def m_law_row : VEnv → RS := sSeq (sSetZ 3 (pur (eN (f1 gAbs) (aCons (eN (f1 gInt) (aCons (eVar 0) aNil)) aNil))))
  (sSeq (sSetZ 4 (pur (e2 gMod (eN (f1 gInt) (aCons (e2 gPlus (e2 gTimes (eVar 3) (eC (.int 48271))) (eC (.int 12345))) aNil)) (eC (.int 2147483399)))))
  (sSeq (sSetZ 4 (pur (e2 gMod (eN (f1 gInt) (aCons (e2 gPlus (e2 gTimes (eVar 4) (eVar 4)) (eC (.int 48614))) aNil)) (eC (.int 2147483399)))))
  (sSeq (sIf (tOfE (e2 gLt (eVar 3) (e2 gPow (eC (.int 10)) (eC (.int 18))))) (sSetZ 3 (pur (eC (.int 0)))) (sNext))
  (sSeq (sSet 5 (pur (eN gLst (aNil))))
  (sSeq (sFor (iR1 6 (eVar 1)) (b_law_row_1))
  (sRet (mvM 5)))))))
abbrev s_law_is_int : Stmt := top 25
abbrev N_law_is_int : List Str := ["_law_x"]
abbrev P_law_is_int : List Str := ["_law_x"]
def m_law_is_int : VEnv → RS := sRet (pur (bAnd (e1 (gIsi "int") (eVar 0)) (e1 bNot (e1 (gIsi "bool") (eVar 0)))))
abbrev s_law_names : Stmt := top 26
abbrev N_law_names : List Str := ["_law_cell_here", "_law_count", "_law_letters", "_law_signs", "_law_row_here", "_law_size", "_law_place", "_law_common", "_law_names_here", "_law_k", "_law_sign", "_law_name"]
abbrev P_law_names : List Str := ["_law_cell_here", "_law_count"]
def b_law_names_1 : VEnv → RS := sSeq (sSetZ 10 (pur (e2 gIx (eVar 2) (e2 gMod (eN (f1 gInt) (aCons (e2 gPlus (e2 gIx (eVar 4) (eC (.int 12))) (e2 gTimes (eC (.int 7)) (eVar 9))) aNil)) (eC (.int 26))))))
  (sSeq (sSetZ 11 (pur (e2 gPlus (e2 gPlus (eSl (eVar 7) (oNo) (oYes (eVar 6))) (eVar 10)) (eSl (eVar 7) (oYes (eVar 6)) (oNo)))))
  (sSeq (sSetZ 11 (pur (e2 gPlus (eVar 11) (e2 gTimes (eC (.str "z")) (e2 gTimes (e2 gMod (eN (f1 gInt) (aCons (e2 gIx (eVar 4) (eC (.int 13))) aNil)) (eC (.int 2))) (e2 gMod (eN (f1 gInt) (aCons (eVar 9) aNil)) (eC (.int 3))))))))
  (sSeq (sIf (tOfE (e2 gGt (eVar 6) (eC (.int 0)))) (sSetZ 11 (pur (e2 gPlus (e2 gIx (eVar 2) (e2 gMod (eN (f1 gInt) (aCons (e2 gIx (eVar 4) (eC (.int 2))) aNil)) (eC (.int 26)))) (eSl (eVar 11) (oYes (eC (.int 1))) (oNo))))) (sNext))
  (sDrop (xApp (pName 8) (eVar 11))))))
def m_law_names : VEnv → RS := sSeq (sSetZ 2 (pur (eC (.str "abcdefghijklmnopqrstuvwxyz"))))
  (sSeq (sSetZ 3 (pur (e2 gPlus (eVar 2) (eC (.str "0123456789")))))
  (sSeq (sSetZ 4 (pur (eN (callM 7 m_law_row) (aCons (eVar 0) (aCons (eC (.int 14)) (aCons (eC (.int 36)) (aNil)))))))
  (sSeq (sSetZ 5 (pur (e2 gMod (eN (f1 gInt) (aCons (e2 gIx (eVar 4) (eC (.int 0))) aNil)) (eC (.int 10)))))
  (sSeq (sSetZ 6 (pur (e2 gMod (eN (f1 gInt) (aCons (e2 gIx (eVar 4) (eC (.int 1))) aNil)) (e2 gPlus (eVar 5) (eC (.int 1))))))
  (sSeq (sSetZ 7 (pur (eMeth isSO gJoin (eC (.str "")) (gLc [9] (jR1 (eVar 5)) (asgN 9) (tYesM) (e2 gIx (eVar 3) (e2 gIx (eVar 4) (e2 gPlus (eC (.int 2)) (eVar 9))))))))
  (sSeq (sSet 8 (pur (eN gLst (aNil))))
  (sSeq (sFor (iR1 9 (eVar 1)) (b_law_names_1))
  (sRet (mvM 8)))))))))
abbrev s_law_valid : Stmt := top 27
abbrev N_law_valid : List Str := ["_law_name", "_law_letters", "_law_sign"]
abbrev P_law_valid : List Str := ["_law_name"]
def m_law_valid : VEnv → RS := sSeq (sSetZ 1 (pur (eC (.str "abcdefghijklmnopqrstuvwxyz"))))
  (sSeq (sIf (tOrM (tNotM (tOfE (eCh gLe gLe (eC (.int 1)) (eN (f1 gLen) (aCons (eVar 0) aNil)) (eC (.int 12))))) (tOfE (e2 gNIn (e2 gIx (eVar 0) (eC (.int 0))) (eVar 1)))) (sRet (pur (eC (.bl false)))) (sNext))
  (sRet (pur (eN (f1 allB) (aCons (gLc [2] (jStr (eVar 0)) (asgN 2) (tYesM) (e2 gIn (eVar 2) (e2 gPlus (eVar 1) (eC (.str "0123456789"))))) aNil)))))
abbrev s_law_free_name : Stmt := top 28
abbrev N_law_free_name : List Str := ["_law_cell_here", "_law_signs", "_law_row_here", "_law_name", "_law_k"]
abbrev P_law_free_name : List Str := ["_law_cell_here"]
def b_law_free_name_1 : VEnv → RS := sSet 3 (pur (e2 gPlus (eVar 3) (e2 gIx (eVar 1) (e2 gIx (eVar 2) (e2 gPlus (eC (.int 2)) (eVar 4))))))
def m_law_free_name : VEnv → RS := sSeq (sSetZ 1 (pur (eC (.str "abcdefghijklmnopqrstuvwxyz0123456789"))))
  (sSeq (sSetZ 2 (pur (eN (callM 7 m_law_row) (aCons (eVar 0) (aCons (eC (.int 13)) (aCons (eC (.int 36)) (aNil)))))))
  (sSeq (sSet 3 (pur (e2 gIx (eVar 1) (e2 gMod (eN (f1 gInt) (aCons (e2 gIx (eVar 2) (eC (.int 1))) aNil)) (eC (.int 26))))))
  (sSeq (sFor (iR1 4 (e2 gMod (eN (f1 gInt) (aCons (e2 gIx (eVar 2) (eC (.int 0))) aNil)) (eC (.int 12)))) (b_law_free_name_1))
  (sRet (mvM 3)))))
abbrev s_law_lists : Stmt := top 29
abbrev N_law_lists : List Str := ["_law_sizes", "_law_places", "_law_pool", "_law_order", "_law_at", "_law_size", "_law_k"]
abbrev P_law_lists : List Str := ["_law_sizes", "_law_places", "_law_pool"]
def b_law_lists_1 : VEnv → RS := sSeq (sDrop (xApp (pName 3) (gLc [6] (jR1 (eVar 5)) (asgN 6) (tYesM) (e2 gIx (eVar 2) (e2 gIx (eVar 1) (e2 gPlus (eVar 4) (eVar 6)))))))
  (sSetZ 4 (pur (e2 gPlus (eVar 4) (eVar 5))))
def m_law_lists : VEnv → RS := sSeq (sSet 3 (pur (eN gLst (aNil))))
  (sSeq (sSetZ 4 (pur (eC (.int 0))))
  (sSeq (sFor (iSeqM (setA 5) (eVar 0)) (b_law_lists_1))
  (sRet (mvM 3))))
abbrev s_law_lines_spoilt : Stmt := top 30
abbrev N_law_lines_spoilt : List Str := ["_law_text", "_law_row_here", "_law_kind", "_law_lines", "_law_a", "_law_b", "_law_line"]
abbrev P_law_lines_spoilt : List Str := ["_law_text", "_law_row_here"]
def m_law_lines_spoilt : VEnv → RS := sSeq (sSetZ 2 (pur (e2 gMod (eN (f1 gInt) (aCons (e2 gIx (eVar 1) (eC (.int 0))) aNil)) (eC (.int 6)))))
  (sSeq (sSet 3 (pur (eMeth isSO gSplit (eVar 0) (eC (.str "\n")))))
  (sSeq (sSetZ 4 (pur (e2 gMod (eN (f1 gInt) (aCons (e2 gIx (eVar 1) (eC (.int 1))) aNil)) (eN (f1 gLen) (aCons (eVar 3) aNil)))))
  (sSeq (sSetZ 5 (pur (e2 gMod (eN (f1 gInt) (aCons (e2 gIx (eVar 1) (eC (.int 2))) aNil)) (eN (f1 gLen) (aCons (eVar 3) aNil)))))
  (sSeq (sIf (tOfE (e2 gEq (eVar 2) (eC (.int 0)))) (sRet (pur (e2 gPlus (eVar 0) (eC (.str "\n"))))) (sNext))
  (sSeq (sIf (tOfE (e2 gEq (eVar 2) (eC (.int 1)))) (sSetIx (eC (.str "")) (pName 3) (eVar 4)) (sNext))
  (sSeq (sIf (tOfE (e2 gEq (eVar 2) (eC (.int 2)))) (sSeq (sSetZ 6 (pur (e2 gIx (eVar 3) (eVar 4))))
  (sSeq (sSetIx (e2 gIx (eVar 3) (eVar 5)) (pName 3) (eVar 4))
  (sSetIx (eVar 6) (pName 3) (eVar 5)))) (sNext))
  (sSeq (sIf (tAndM (tOfE (e2 gEq (eVar 2) (eC (.int 3)))) (tOfE (e2 gLt (e2 gIx (eVar 1) (eC (.int 3))) (eC (.int 90))))) (sRet (pur (eC (.str "")))) (sNext))
  (sSeq (sIf (tOfE (e2 gEq (eVar 2) (eC (.int 4)))) (sSetIx (e1 (gRepl " " "\t") (e2 gIx (eVar 3) (eVar 4))) (pName 3) (eVar 4)) (sNext))
  (sSeq (sIf (tOfE (e2 gEq (eVar 2) (eC (.int 5)))) (sDrop (xIns (pName 3) (e2 gPlus (eC (.int 1)) (eVar 5)) (e2 gIx (eVar 3) (eC (.int 0))))) (sNext))
  (sRet (pur (eMeth isSO gJoin (eC (.str "\n")) (eVar 3)))))))))))))
abbrev s_law_spoilt : Stmt := top 31
abbrev N_law_spoilt : List Str := ["_law_text", "_law_row_here", "_law_signs", "_law_more", "_law_at", "_law_kind"]
abbrev P_law_spoilt : List Str := ["_law_text", "_law_row_here"]
def m_law_spoilt : VEnv → RS := sSeq (sIf (tOfE (e2 gLt (e2 gIx (eVar 1) (eC (.int 4))) (eC (.int 200)))) (sRet (pur (eN (callM 7 m_law_lines_spoilt) (aCons (eVar 0) (aCons (eVar 1) (aNil)))))) (sNext))
  (sSeq (sSetZ 2 (pur (eC (.str " !\"#$&'()*+,-./0123456789:;<=>?@ABCDEFGHIJKLMNOPQRSTUVWXYZ[\\]^_`"))))
  (sSeq (sSetZ 2 (pur (e2 gPlus (eVar 2) (eC (.str "abcdefghijklmnopqrstuvwxyz{|}~\n\t")))))
  (sSeq (sSetZ 3 (pur (e2 gIx (eVar 2) (e2 gMod (eN (f1 gInt) (aCons (e2 gIx (eVar 1) (eC (.int 0))) aNil)) (eN (f1 gLen) (aCons (eVar 2) aNil))))))
  (sSeq (sIf (tOfE (e2 gLt (e2 gIx (eVar 1) (eC (.int 4))) (eC (.int 500)))) (sSetZ 3 (pur (e2 gIx (eN gLst (aCons (eC (.str " ")) (aCons (eC (.str "\n")) (aCons (eC (.str "9")) (aCons (eC (.str "A")) (aCons (eC (.str "zz")) (aCons (eC (.str "zzzzzzzzzzzz")) (aCons (eC (.str "\t")) (aNil))))))))) (e2 gMod (eN (f1 gInt) (aCons (e2 gIx (eVar 1) (eC (.int 0))) aNil)) (eC (.int 7)))))) (sNext))
  (sSeq (sSetZ 4 (pur (e2 gMod (eN (f1 gInt) (aCons (e2 gIx (eVar 1) (eC (.int 1))) aNil)) (e2 gPlus (eN (f1 gLen) (aCons (eVar 0) aNil)) (eC (.int 1))))))
  (sSeq (sSetZ 5 (pur (e2 gMod (eN (f1 gInt) (aCons (e2 gIx (eVar 1) (eC (.int 2))) aNil)) (eC (.int 4)))))
  (sSeq (sIf (tOrM (tOfE (e2 gEq (eVar 5) (eC (.int 0)))) (tOfE (e2 gEq (eVar 5) (eC (.int 1))))) (sRet (pur (e2 gPlus (e2 gPlus (eSl (eVar 0) (oNo) (oYes (eVar 4))) (eVar 3)) (eSl (eVar 0) (oYes (eVar 4)) (oNo))))) (sNext))
  (sSeq (sIf (tOfE (e2 gEq (eVar 5) (eC (.int 2)))) (sRet (pur (e2 gPlus (e2 gPlus (eSl (eVar 0) (oNo) (oYes (eVar 4))) (eVar 3)) (eSl (eVar 0) (oYes (e2 gPlus (eVar 4) (eC (.int 1)))) (oNo))))) (sNext))
  (sRet (pur (e2 gPlus (eSl (eVar 0) (oNo) (oYes (eVar 4))) (eSl (eVar 0) (oYes (e2 gPlus (eVar 4) (eC (.int 1)))) (oNo)))))))))))))
abbrev s_law_expected : Stmt := top 32
abbrev N_law_expected : List Str := ["_law_text", "_law_lists_here", "_law_lines", "_law_k", "_law_names_here", "_law_name"]
abbrev P_law_expected : List Str := ["_law_text"]
def b_law_expected_1 : VEnv → RS := sSeq (sSet 4 (pur (eMeth isSO gSplit (e2 gIx (eVar 2) (eVar 3)) (eC (.str " ")))))
  (sSeq (sIf (tNotM (tTru (eN (f1 allB) (aCons (gLc [5] (jSq (eVar 4)) (asgN 5) (tYesM) (eN (callM 3 m_law_valid) (aCons (eVar 5) (aNil)))) aNil)))) (sRet (pur (eN gTup (aCons (eC (.str "line")) (aCons (e2 gPlus (eVar 3) (eC (.int 1))) (aNil)))))) (sNext))
  (sDrop (xAppX 1 (mvM 4))))
def m_law_expected : VEnv → RS := sSeq (sSet 1 (pur (eN gLst (aNil))))
  (sSeq (sSetZ 2 (pur (eMeth isSO gSplit (eVar 0) (eC (.str "\n")))))
  (sSeq (sFor (iR1 3 (eN (f1 gLen) (aCons (eVar 2) aNil))) (b_law_expected_1))
  (sRet (xTup (xaCons (pur (eC (.str "lists"))) (xaCons (mvM 1) (xaNil)))))))
abbrev s_law_told : Stmt := top 33
abbrev N_law_told : List Str := ["_law_text", "e"]
abbrev P_law_told : List Str := ["_law_text"]
def m_law_told : VEnv → RS := sSeq (sTryAs errs "DyeError" 1 (sRet (pur (eN gTup (aCons (eC (.str "lists")) (aCons (eN (callM 6 m_read_order) (aCons (eVar 0) (aNil))) (aNil)))))) (sSeq (sIf (tTru (e1 (gIsT errs ["BadDeed", "BadName", "BadNumber", "BadOrder", "BadStrengths", "CircularPromise", "NoOrder"]) (eVar 1))) (sRet (pur (eN gTup (aCons (eC (.str "other")) (aCons (eC .non) (aNil)))))) (sNext))
  (sSeq (sIf (tTru (e1 (gIsT errs ["NoPromise", "NotDarker", "NothingToUndo", "UnknownName", "WrongTotal"]) (eVar 1))) (sRet (pur (eN gTup (aCons (eC (.str "other")) (aCons (eC .non) (aNil)))))) (sNext))
  (sIf (tAndM (tTru (e1 (gIsV errs) (eVar 1))) (tTru (e1 (gIsE errs "BadLine") (eVar 1)))) (sRet (pur (eN gTup (aCons (eC (.str "line")) (aCons (e1 (gXf errs "line") (eVar 1)) (aNil)))))) (sNext)))))
  (sRet (pur (eN gTup (aCons (eC (.str "other")) (aCons (eC .non) (aNil))))))
abbrev s_law_read : Stmt := top 34
abbrev N_law_read : List Str := ["_law_text", "_law_expected_here", "_law_told_here", "_law_names_here", "_law_name"]
abbrev P_law_read : List Str := ["_law_text"]
def b_law_read_1 : VEnv → RS := sIf (tOrM (tNotM (tTru (e1 (gIsi "list") (eVar 3)))) (tNotM (tTru (eN (f1 allB) (aCons (gLc [4] (jSq (eVar 3)) (asgN 4) (tYesM) (e1 (gIsi "str") (eVar 4))) aNil))))) (sRet (pur (eC (.bl false)))) (sNext)
def m_law_read : VEnv → RS := sSeq (sSetZ 1 (pur (eN (callM 6 m_law_expected) (aCons (eVar 0) (aNil)))))
  (sSeq (sSet 2 (pur (eN (callM 2 m_law_told) (aCons (eVar 0) (aNil)))))
  (sSeq (sIf (tOfE (e2 gEq (e2 gIx (eVar 2) (eC (.int 0))) (eC (.str "line")))) (sRet (pur (bAnd (e2 gEq (eVar 2) (eVar 1)) (eN (callM 1 m_law_is_int) (aCons (e2 gIx (eVar 2) (eC (.int 1))) (aNil)))))) (sNext))
  (sSeq (sIf (tOrM (tOfE (e2 gNe (eVar 2) (eVar 1))) (tNotM (tTru (e1 (gIsi "list") (e2 gIx (eVar 2) (eC (.int 1))))))) (sRet (pur (eC (.bl false)))) (sNext))
  (sSeq (sLend 2 [] (sFor (iSeqM (setA 3) (e2 gIx (eVar 2) (eC (.int 1)))) (b_law_read_1)))
  (sSeq (sDrop (xApp (pIx (pIxT (pName 2) (eC (.int 1))) (eC (.int 0))) (eC (.str "z"))))
  (sSeq (sIf (tOfE (e2 gNe (eSl (e2 gIx (eVar 2) (eC (.int 1))) (oYes (eC (.int 1))) (oNo)) (eSl (e2 gIx (eVar 1) (eC (.int 1))) (oYes (eC (.int 1))) (oNo)))) (sRet (pur (eC (.bl false)))) (sNext))
  (sSeq (sDrop (xApp (pIxT (pName 2) (eC (.int 1))) (eN gLst (aNil))))
  (sRet (pur (eC (.bl true)))))))))))
abbrev s_law : Stmt := top 35
abbrev N_law : List Str := ["_law_script", "_law_pool", "_law_sizes", "_law_order", "_law_due_text", "_law_passed", "_law_text", "_law_k", "_law_x", "_law_names_here"]
abbrev P_law : List Str := ["_law_script"]
def b_law_1 : VEnv → RS := sSeq (sSetZ 6 (pur (eN (callM 6 m_law_spoilt) (aCons (eVar 6) (aCons (eN (callM 7 m_law_row) (aCons (eN (callM 2 m_law_cell) (aCons (eVar 0) (aCons (e2 gPlus (eC (.int 7)) (eVar 7)) (aNil)))) (aCons (eC (.int 5)) (aCons (eC (.int 700)) (aNil))))) (aNil))))))
  (sIf (tNotM (tTru (eN (callM 5 m_law_read) (aCons (eVar 6) (aNil))))) (sRet (pur (eC (.bl false)))) (sNext))
def m_law : VEnv → RS := sSeq (sSetZ 1 (pur (eN (callM 12 m_law_names) (aCons (eN (callM 2 m_law_cell) (aCons (eVar 0) (aCons (eC (.int 3)) (aNil)))) (aCons (eC (.int 4)) (aNil))))))
  (sSeq (sSetZ 1 (pur (e2 gPlus (eVar 1) (eN gLst (aCons (eN (callM 5 m_law_free_name) (aCons (eN (callM 2 m_law_cell) (aCons (eVar 0) (aCons (eC (.int 4)) (aNil)))) (aNil))) (aCons (eN (callM 5 m_law_free_name) (aCons (eN (callM 2 m_law_cell) (aCons (eVar 0) (aCons (eC (.int 5)) (aNil)))) (aNil))) (aNil)))))))
  (sSeq (sSetZ 2 (pur (gLc [8] (jSq (eN (callM 7 m_law_row) (aCons (eN (callM 2 m_law_cell) (aCons (eVar 0) (aCons (eC (.int 0)) (aNil)))) (aCons (e2 gPlus (eC (.int 1)) (e2 gMod (eN (f1 gInt) (aCons (eN (callM 2 m_law_cell) (aCons (eVar 0) (aCons (eC (.int 1)) (aNil)))) aNil)) (eC (.int 8)))) (aCons (eC (.int 6)) (aNil)))))) (asgN 8) (tYesM) (e2 gPlus (eC (.int 1)) (eVar 8)))))
  (sSeq (sSetZ 3 (pur (eN (callM 7 m_law_lists) (aCons (eVar 2) (aCons (eN (callM 7 m_law_row) (aCons (eN (callM 2 m_law_cell) (aCons (eVar 0) (aCons (eC (.int 2)) (aNil)))) (aCons (eC (.int 48)) (aCons (eC (.int 6)) (aNil))))) (aCons (eVar 1) (aNil)))))))
  (sSeq (sSetZ 4 (pur (eMeth isSO gJoin (eC (.str "\n")) (gLc [9] (jSq (eVar 3)) (asgN 9) (tYesM) (eMeth isSO gJoin (eC (.str " ")) (eVar 9))))))
  (sSeq (sSetZ 5 (pur (gLc [9] (jSq (eVar 3)) (asgN 9) (tYesM) (eN (f1 gList) (aCons (eVar 9) aNil)))))
  (sSeq (sSetZ 6 (pur (eN (callM 2 m_write_order) (aCons (eVar 5) (aNil)))))
  (sSeq (sIf (tOrM (tNotM (tTru (e1 (gIsi "str") (eVar 6)))) (tOrM (tOfE (e2 gNe (eVar 6) (eVar 4))) (tOfE (e2 gNe (eVar 5) (eVar 3))))) (sRet (pur (eC (.bl false)))) (sNext))
  (sSeq (sIf (tOrM (tNotM (tTru (eN (callM 5 m_law_read) (aCons (eVar 6) (aNil))))) (tNotM (tTru (eN (callM 5 m_law_read) (aCons (eVar 6) (aNil)))))) (sRet (pur (eC (.bl false)))) (sNext))
  (sSeq (sFor (iR1 7 (e2 gMod (eN (f1 gInt) (aCons (e2 gPlus (eN (callM 2 m_law_cell) (aCons (eVar 0) (aCons (eC (.int 6)) (aNil)))) (eC (.int 1))) aNil)) (eC (.int 3)))) (b_law_1))
  (sRet (pur (eN (callM 5 m_law_read) (aCons (eVar 4) (aNil))))))))))))))
structure Txt (P : Program) (w : World) (K : PySem.W.Frag) (mg : Str → Option Value) (base : Heap) : Prop where
  b : BltOk mg
  E : ErrF K mg errs
  gDIGITS : ∃ t, mg "DIGITS" = some (.str "0123456789" t)
  gLETTERS : ∃ t, mg "LETTERS" = some (.str "abcdefghijklmnopqrstuvwxyz" t)
  eBadLine : Er1 P w K mg base "BadLine" "line"
  t_valid_name : FnT K mg "valid_name" s_valid_name P_valid_name
  t_write_order : FnT K mg "write_order" s_write_order P_write_order
  t_read_order : FnT K mg "read_order" s_read_order P_read_order
  t_law_cell : FnT K mg "_law_cell" s_law_cell P_law_cell
  t_law_row : FnT K mg "_law_row" s_law_row P_law_row
  t_law_is_int : FnT K mg "_law_is_int" s_law_is_int P_law_is_int
  t_law_names : FnT K mg "_law_names" s_law_names P_law_names
  t_law_valid : FnT K mg "_law_valid" s_law_valid P_law_valid
  t_law_free_name : FnT K mg "_law_free_name" s_law_free_name P_law_free_name
  t_law_lists : FnT K mg "_law_lists" s_law_lists P_law_lists
  t_law_lines_spoilt : FnT K mg "_law_lines_spoilt" s_law_lines_spoilt P_law_lines_spoilt
  t_law_spoilt : FnT K mg "_law_spoilt" s_law_spoilt P_law_spoilt
  t_law_expected : FnT K mg "_law_expected" s_law_expected P_law_expected
  t_law_told : FnT K mg "_law_told" s_law_told P_law_told
  t_law_read : FnT K mg "_law_read" s_law_read P_law_read
  t_law : FnT K mg "law" s_law P_law
section
variable {P : Program} {w : World} {K : PySem.W.Frag} {mg : Str → Option Value} {base : Heap}
theorem sc_valid_name : FnScope N_valid_name P_valid_name (defScope s_valid_name) := ⟨rfl, rfl, rfl, by decide +kernel, rfl, by decide +kernel, by decide +kernel⟩
theorem v_valid_name (T : Txt P w K mg base)    (f : Addr) (cdv : Value) (A : Around) (outer : List Env) (s : Shared) (H : Hp) (E : XK) (hr : Room 1 (A.deeper (envOfC "valid_name" (defScope s_valid_name) s.heap.objs.size f cdv))) :
    VB (cxOf (CXv mg P w) P w K mg base N_valid_name "valid_name" (defScope s_valid_name) f cdv A outer s H E) [] (defBody s_valid_name) m_valid_name :=
  have hN := sc_valid_name.nd
  have hu : Hu (cxOf (CXv mg P w) P w K mg base N_valid_name "valid_name" (defScope s_valid_name) f cdv A outer s H E) := hu_of hr
  have hu5 := hu5_of hr
  (vb_cons (vs_if (VW.vt (vw_or (vt_not (vt_leLe ve_int (ve_len (T.b.at "len") (ve_var 0)) ve_int)) (vw_or1 (vt_nin hu5 (ve_ix (ve_var 0) ve_int) (ve_gstr T.gLETTERS))))) (vb_one (vs_ret (vx ve_bl))) vb_nil)
    (vb_one (vs_ret (vx (ve_all rfl (T.b.at "all") (ve_lc (own := [("char", 1)]) rfl hN (blkOk_by (by exact rfl)) (vj_str (ve_var 0)) (fun s H C cl fp => vg_name 1 hN) (fun s H C cl fp => vts_nil) (fun s H C cl fp => (ve_in hu5 (ve_var 1) (ve_plus (ve_gstr T.gLETTERS) (ve_gstr T.gDIGITS))))))))))
theorem k_valid_name (T : Txt P w K mg base) : OkF P w K mg base "valid_name" N_valid_name P_valid_name m_valid_name 2 :=
  T.t_valid_name.ok sc_valid_name (fun f cdv A outer s H E hr => v_valid_name T  f cdv A outer s H E hr)
theorem sc_write_order : FnScope N_write_order P_write_order (defScope s_write_order) := ⟨rfl, rfl, rfl, by decide +kernel, rfl, by decide +kernel, by decide +kernel⟩
theorem v_write_order (T : Txt P w K mg base)    (f : Addr) (cdv : Value) (A : Around) (outer : List Env) (s : Shared) (H : Hp) (E : XK) (hr : Room 1 (A.deeper (envOfC "write_order" (defScope s_write_order) s.heap.objs.size f cdv))) :
    VB (cxOf (CXv mg P w) P w K mg base N_write_order "write_order" (defScope s_write_order) f cdv A outer s H E) [] (defBody s_write_order) m_write_order :=
  have hN := sc_write_order.nd
  have hu : Hu (cxOf (CXv mg P w) P w K mg base N_write_order "write_order" (defScope s_write_order) f cdv A outer s H E) := hu_of hr
  (vb_one (vs_ret (vx (ve_join ve_str (ve_lc (own := [("row", 1)]) rfl hN (blkOk_by (by exact rfl)) (vj_seq (ve_var 0)) (fun s H C cl fp => vg_name 1 hN) (fun s H C cl fp => vts_nil) (fun s H C cl fp => (ve_join ve_str (ve_var 1))))))))
theorem k_write_order (T : Txt P w K mg base) : OkF P w K mg base "write_order" N_write_order P_write_order m_write_order 2 :=
  T.t_write_order.ok sc_write_order (fun f cdv A outer s H E hr => v_write_order T  f cdv A outer s H E hr)
theorem sc_read_order : FnScope N_read_order P_read_order (defScope s_read_order) := ⟨rfl, rfl, rfl, by decide +kernel, rfl, by decide +kernel, by decide +kernel⟩
theorem v_read_order (T : Txt P w K mg base) (f_valid_name : OkF P w K mg base "valid_name" N_valid_name P_valid_name m_valid_name 2)   (f : Addr) (cdv : Value) (A : Around) (outer : List Env) (s : Shared) (H : Hp) (E : XK) (hr : Room 2 (A.deeper (envOfC "read_order" (defScope s_read_order) s.heap.objs.size f cdv))) :
    VB (cxOf (CXv mg P w) P w K mg base N_read_order "read_order" (defScope s_read_order) f cdv A outer s H E) [] (defBody s_read_order) m_read_order :=
  have hN := sc_read_order.nd
  have hu : Hu (cxOf (CXv mg P w) P w K mg base N_read_order "read_order" (defScope s_read_order) f cdv A outer s H E) := hu_of hr
  (vb_cons (vs_set (i := 1) (vx (ve_lst va_nil)) hN)
    (vb_cons (vs_for (passes_of rfl) rfl (vi_enum [2, 3] (T.b.at "enumerate") (ve_split (ve_var 0) ve_str)) (pg_tup rfl (pgs_name 2 hN (pgs_name 3 hN pgs_end))) (vb_cons (vs_set (i := 4) (vx (ve_split (ve_var 3) ve_str)) hN)
    (vb_cons (vs_if (vt_not (vt_tru (ve_all rfl (T.b.at "all") (ve_lc (own := [("name", 5)]) rfl hN (blkOk_by (by exact rfl)) (vj_seq (ve_var 4)) (fun s H C cl fp => vg_name 5 hN) (fun s H C cl fp => vts_nil) (fun s H C cl fp => (ve_callO f_valid_name (hr.mono (by decide)) (va_cons (ve_var 5) va_nil) (alen_cons alen_nil))))))) (vb_one (vs_raise1 rfl T.eBadLine (hr.mono (by decide)) (ve_plus (ve_var 2) ve_int))) vb_nil)
    (vb_one (vs_expr (vx_appX 1 (vx_move 4)))))))
    (vb_one (vs_ret (vx_move 1)))))
theorem k_read_order (T : Txt P w K mg base) : OkF P w K mg base "read_order" N_read_order P_read_order m_read_order 3 :=
  T.t_read_order.ok sc_read_order (fun f cdv A outer s H E hr => v_read_order T (k_valid_name T) f cdv A outer s H E hr)
theorem sc_law_cell : FnScope N_law_cell P_law_cell (defScope s_law_cell) := ⟨rfl, rfl, rfl, by decide +kernel, rfl, by decide +kernel, by decide +kernel⟩
theorem v_law_cell (T : Txt P w K mg base)    (f : Addr) (cdv : Value) (A : Around) (outer : List Env) (s : Shared) (H : Hp) (E : XK) (hr : Room 1 (A.deeper (envOfC "_law_cell" (defScope s_law_cell) s.heap.objs.size f cdv))) :
    VB (cxOf (CXv mg P w) P w K mg base N_law_cell "_law_cell" (defScope s_law_cell) f cdv A outer s H E) [] (defBody s_law_cell) m_law_cell :=
  have hN := sc_law_cell.nd
  have hu : Hu (cxOf (CXv mg P w) P w K mg base N_law_cell "_law_cell" (defScope s_law_cell) f cdv A outer s H E) := hu_of hr
  (vb_cons (vs_if (vt_lt (ve_var 1) (ve_len (T.b.at "len") (ve_var 0))) (vb_one (vs_ret (vx (ve_int1 (T.b.at "int") (ve_ix (ve_var 0) (ve_var 1)))))) vb_nil)
    (vb_one (vs_ret (vx (ve_plus (ve_times (ve_mod (ve_int1 (T.b.at "int") (ve_sum rfl (T.b.at "sum") (ve_slice (ve_var 0) vo_none (vo_some ve_int)))) ve_int) (ve_plus (ve_var 1) ve_int)) (ve_times ve_int (ve_var 1)))))))
theorem k_law_cell (T : Txt P w K mg base) : OkF P w K mg base "_law_cell" N_law_cell P_law_cell m_law_cell 2 :=
  T.t_law_cell.ok sc_law_cell (fun f cdv A outer s H E hr => v_law_cell T  f cdv A outer s H E hr)
theorem sc_law_row : FnScope N_law_row P_law_row (defScope s_law_row) := ⟨rfl, rfl, rfl, by decide +kernel, rfl, by decide +kernel, by decide +kernel⟩
theorem v_law_row (T : Txt P w K mg base)    (f : Addr) (cdv : Value) (A : Around) (outer : List Env) (s : Shared) (H : Hp) (E : XK) (hr : Room 1 (A.deeper (envOfC "_law_row" (defScope s_law_row) s.heap.objs.size f cdv))) :
    VB (cxOf (CXv mg P w) P w K mg base N_law_row "_law_row" (defScope s_law_row) f cdv A outer s H E) [] (defBody s_law_row) m_law_row :=
  have hN := sc_law_row.nd
  have hu : Hu (cxOf (CXv mg P w) P w K mg base N_law_row "_law_row" (defScope s_law_row) f cdv A outer s H E) := hu_of hr
  (vb_cons (vs_setZ (i := 3) (vx (ve_abs (T.b.at "abs") (ve_int1 (T.b.at "int") (ve_var 0)))) hN)
    (vb_cons (vs_setZ (i := 4) (vx (ve_mod (ve_int1 (T.b.at "int") (ve_plus (ve_times (ve_var 3) ve_int) ve_int)) ve_int)) hN)
    (vb_cons (vs_setZ (i := 4) (vx (ve_mod (ve_int1 (T.b.at "int") (ve_plus (ve_times (ve_var 4) (ve_var 4)) ve_int)) ve_int)) hN)
    (vb_cons (vs_if (vt_lt (ve_var 3) (ve_pow ve_int ve_int)) (vb_one (vs_setZ (i := 3) (vx ve_int) hN)) vb_nil)
    (vb_cons (vs_set (i := 5) (vx (ve_lst va_nil)) hN)
    (vb_cons (vs_for (passes_of rfl) rfl (vi_range1 6 (T.b.at "range") (ve_var 1)) (pg_name (i := 6) hN rfl (by first | exact Or.inl rfl | exact Or.inr rfl)) (vb_one (vs_if (vt_gt (ve_var 3) ve_int) (vb_cons (vs_expr (vx_append (vp_name 5) (ve_mod (ve_int1 (T.b.at "int") (ve_var 3)) (ve_var 2))))
    (vb_one (vs_setZ (i := 3) (vx (ve_div (ve_var 3) (ve_var 2))) hN))) (vb_cons (vs_setZ (i := 4) (vx (ve_mod (ve_int1 (T.b.at "int") (ve_plus (ve_times (ve_var 4) ve_int) ve_int)) ve_int)) hN)
    (vb_one (vs_expr (vx_append (vp_name 5) (ve_mod (ve_int1 (T.b.at "int") (ve_var 4)) (ve_var 2)))))))))
    (vb_one (vs_ret (vx_move 5)))))))))
theorem k_law_row (T : Txt P w K mg base) : OkF P w K mg base "_law_row" N_law_row P_law_row m_law_row 2 :=
  T.t_law_row.ok sc_law_row (fun f cdv A outer s H E hr => v_law_row T  f cdv A outer s H E hr)
theorem sc_law_is_int : FnScope N_law_is_int P_law_is_int (defScope s_law_is_int) := ⟨rfl, rfl, rfl, by decide +kernel, rfl, by decide +kernel, by decide +kernel⟩
theorem v_law_is_int (T : Txt P w K mg base)    (f : Addr) (cdv : Value) (A : Around) (outer : List Env) (s : Shared) (H : Hp) (E : XK) (hr : Room 1 (A.deeper (envOfC "_law_is_int" (defScope s_law_is_int) s.heap.objs.size f cdv))) :
    VB (cxOf (CXv mg P w) P w K mg base N_law_is_int "_law_is_int" (defScope s_law_is_int) f cdv A outer s H E) [] (defBody s_law_is_int) m_law_is_int :=
  have hN := sc_law_is_int.nd
  have hu : Hu (cxOf (CXv mg P w) P w K mg base N_law_is_int "_law_is_int" (defScope s_law_is_int) f cdv A outer s H E) := hu_of hr
  (vb_one (vs_ret (vx (ve_and (ve_isi "int" (T.b.at "isinstance") (T.b.at "int") (by decide +kernel) (ve_var 0)) (ve_one (ve_not (ve_isi "bool" (T.b.at "isinstance") (T.b.at "bool") (by decide +kernel) (ve_var 0))))))))
theorem k_law_is_int (T : Txt P w K mg base) : OkF P w K mg base "_law_is_int" N_law_is_int P_law_is_int m_law_is_int 2 :=
  T.t_law_is_int.ok sc_law_is_int (fun f cdv A outer s H E hr => v_law_is_int T  f cdv A outer s H E hr)
theorem sc_law_names : FnScope N_law_names P_law_names (defScope s_law_names) := ⟨rfl, rfl, rfl, by decide +kernel, rfl, by decide +kernel, by decide +kernel⟩
theorem v_law_names (T : Txt P w K mg base) (f_law_row : OkF P w K mg base "_law_row" N_law_row P_law_row m_law_row 2)   (f : Addr) (cdv : Value) (A : Around) (outer : List Env) (s : Shared) (H : Hp) (E : XK) (hr : Room 2 (A.deeper (envOfC "_law_names" (defScope s_law_names) s.heap.objs.size f cdv))) :
    VB (cxOf (CXv mg P w) P w K mg base N_law_names "_law_names" (defScope s_law_names) f cdv A outer s H E) [] (defBody s_law_names) m_law_names :=
  have hN := sc_law_names.nd
  have hu : Hu (cxOf (CXv mg P w) P w K mg base N_law_names "_law_names" (defScope s_law_names) f cdv A outer s H E) := hu_of hr
  (vb_cons (vs_setZ (i := 2) (vx ve_str) hN)
    (vb_cons (vs_setZ (i := 3) (vx (ve_plus (ve_var 2) ve_str)) hN)
    (vb_cons (vs_setZ (i := 4) (vx (ve_callO f_law_row (hr.mono (by decide)) (va_cons (ve_var 0) (va_cons ve_int (va_cons ve_int va_nil))) (alen_cons (alen_cons (alen_cons alen_nil))))) hN)
    (vb_cons (vs_setZ (i := 5) (vx (ve_mod (ve_int1 (T.b.at "int") (ve_ix (ve_var 4) ve_int)) ve_int)) hN)
    (vb_cons (vs_setZ (i := 6) (vx (ve_mod (ve_int1 (T.b.at "int") (ve_ix (ve_var 4) ve_int)) (ve_plus (ve_var 5) ve_int))) hN)
    (vb_cons (vs_setZ (i := 7) (vx (ve_join ve_str (ve_lc (own := [("_law_k", 9)]) rfl hN (blkOk_by (by exact rfl)) (vj_range1 (T.b.at "range") (ve_var 5)) (fun s H C cl fp => vg_name 9 hN) (fun s H C cl fp => vts_nil) (fun s H C cl fp => (ve_ix (ve_var 3) (ve_ix (ve_var 4) (ve_plus ve_int (ve_var 9)))))))) hN)
    (vb_cons (vs_set (i := 8) (vx (ve_lst va_nil)) hN)
    (vb_cons (vs_for (passes_of rfl) rfl (vi_range1 9 (T.b.at "range") (ve_var 1)) (pg_name (i := 9) hN rfl (by first | exact Or.inl rfl | exact Or.inr rfl)) (vb_cons (vs_setZ (i := 10) (vx (ve_ix (ve_var 2) (ve_mod (ve_int1 (T.b.at "int") (ve_plus (ve_ix (ve_var 4) ve_int) (ve_times ve_int (ve_var 9)))) ve_int))) hN)
    (vb_cons (vs_setZ (i := 11) (vx (ve_plus (ve_plus (ve_slice (ve_var 7) vo_none (vo_some (ve_var 6))) (ve_var 10)) (ve_slice (ve_var 7) (vo_some (ve_var 6)) vo_none))) hN)
    (vb_cons (vs_setZ (i := 11) (vx (ve_plus (ve_var 11) (ve_times ve_str (ve_times (ve_mod (ve_int1 (T.b.at "int") (ve_ix (ve_var 4) ve_int)) ve_int) (ve_mod (ve_int1 (T.b.at "int") (ve_var 9)) ve_int))))) hN)
    (vb_cons (vs_if (vt_gt (ve_var 6) ve_int) (vb_one (vs_setZ (i := 11) (vx (ve_plus (ve_ix (ve_var 2) (ve_mod (ve_int1 (T.b.at "int") (ve_ix (ve_var 4) ve_int)) ve_int)) (ve_slice (ve_var 11) (vo_some ve_int) vo_none))) hN)) vb_nil)
    (vb_one (vs_expr (vx_append (vp_name 8) (ve_var 11)))))))))
    (vb_one (vs_ret (vx_move 8)))))))))))
theorem k_law_names (T : Txt P w K mg base) : OkF P w K mg base "_law_names" N_law_names P_law_names m_law_names 3 :=
  T.t_law_names.ok sc_law_names (fun f cdv A outer s H E hr => v_law_names T (k_law_row T) f cdv A outer s H E hr)
theorem sc_law_valid : FnScope N_law_valid P_law_valid (defScope s_law_valid) := ⟨rfl, rfl, rfl, by decide +kernel, rfl, by decide +kernel, by decide +kernel⟩
theorem v_law_valid (T : Txt P w K mg base)    (f : Addr) (cdv : Value) (A : Around) (outer : List Env) (s : Shared) (H : Hp) (E : XK) (hr : Room 1 (A.deeper (envOfC "_law_valid" (defScope s_law_valid) s.heap.objs.size f cdv))) :
    VB (cxOf (CXv mg P w) P w K mg base N_law_valid "_law_valid" (defScope s_law_valid) f cdv A outer s H E) [] (defBody s_law_valid) m_law_valid :=
  have hN := sc_law_valid.nd
  have hu : Hu (cxOf (CXv mg P w) P w K mg base N_law_valid "_law_valid" (defScope s_law_valid) f cdv A outer s H E) := hu_of hr
  have hu5 := hu5_of hr
  (vb_cons (vs_setZ (i := 1) (vx ve_str) hN)
    (vb_cons (vs_if (VW.vt (vw_or (vt_not (vt_leLe ve_int (ve_len (T.b.at "len") (ve_var 0)) ve_int)) (vw_or1 (vt_nin hu5 (ve_ix (ve_var 0) ve_int) (ve_var 1))))) (vb_one (vs_ret (vx ve_bl))) vb_nil)
    (vb_one (vs_ret (vx (ve_all rfl (T.b.at "all") (ve_lc (own := [("_law_sign", 2)]) rfl hN (blkOk_by (by exact rfl)) (vj_str (ve_var 0)) (fun s H C cl fp => vg_name 2 hN) (fun s H C cl fp => vts_nil) (fun s H C cl fp => (ve_in hu5 (ve_var 2) (ve_plus (ve_var 1) ve_str))))))))))
theorem k_law_valid (T : Txt P w K mg base) : OkF P w K mg base "_law_valid" N_law_valid P_law_valid m_law_valid 2 :=
  T.t_law_valid.ok sc_law_valid (fun f cdv A outer s H E hr => v_law_valid T  f cdv A outer s H E hr)
theorem sc_law_free_name : FnScope N_law_free_name P_law_free_name (defScope s_law_free_name) := ⟨rfl, rfl, rfl, by decide +kernel, rfl, by decide +kernel, by decide +kernel⟩
theorem v_law_free_name (T : Txt P w K mg base) (f_law_row : OkF P w K mg base "_law_row" N_law_row P_law_row m_law_row 2)   (f : Addr) (cdv : Value) (A : Around) (outer : List Env) (s : Shared) (H : Hp) (E : XK) (hr : Room 2 (A.deeper (envOfC "_law_free_name" (defScope s_law_free_name) s.heap.objs.size f cdv))) :
    VB (cxOf (CXv mg P w) P w K mg base N_law_free_name "_law_free_name" (defScope s_law_free_name) f cdv A outer s H E) [] (defBody s_law_free_name) m_law_free_name :=
  have hN := sc_law_free_name.nd
  have hu : Hu (cxOf (CXv mg P w) P w K mg base N_law_free_name "_law_free_name" (defScope s_law_free_name) f cdv A outer s H E) := hu_of hr
  (vb_cons (vs_setZ (i := 1) (vx ve_str) hN)
    (vb_cons (vs_setZ (i := 2) (vx (ve_callO f_law_row (hr.mono (by decide)) (va_cons (ve_var 0) (va_cons ve_int (va_cons ve_int va_nil))) (alen_cons (alen_cons (alen_cons alen_nil))))) hN)
    (vb_cons (vs_set (i := 3) (vx (ve_ix (ve_var 1) (ve_mod (ve_int1 (T.b.at "int") (ve_ix (ve_var 2) ve_int)) ve_int))) hN)
    (vb_cons (vs_for (passes_of rfl) rfl (vi_range1 4 (T.b.at "range") (ve_mod (ve_int1 (T.b.at "int") (ve_ix (ve_var 2) ve_int)) ve_int)) (pg_name (i := 4) hN rfl (by first | exact Or.inl rfl | exact Or.inr rfl)) (vb_one (vs_set (i := 3) (vx (ve_plus (ve_var 3) (ve_ix (ve_var 1) (ve_ix (ve_var 2) (ve_plus ve_int (ve_var 4)))))) hN)))
    (vb_one (vs_ret (vx_move 3)))))))
theorem k_law_free_name (T : Txt P w K mg base) : OkF P w K mg base "_law_free_name" N_law_free_name P_law_free_name m_law_free_name 3 :=
  T.t_law_free_name.ok sc_law_free_name (fun f cdv A outer s H E hr => v_law_free_name T (k_law_row T) f cdv A outer s H E hr)
theorem sc_law_lists : FnScope N_law_lists P_law_lists (defScope s_law_lists) := ⟨rfl, rfl, rfl, by decide +kernel, rfl, by decide +kernel, by decide +kernel⟩
theorem v_law_lists (T : Txt P w K mg base)    (f : Addr) (cdv : Value) (A : Around) (outer : List Env) (s : Shared) (H : Hp) (E : XK) (hr : Room 1 (A.deeper (envOfC "_law_lists" (defScope s_law_lists) s.heap.objs.size f cdv))) :
    VB (cxOf (CXv mg P w) P w K mg base N_law_lists "_law_lists" (defScope s_law_lists) f cdv A outer s H E) [] (defBody s_law_lists) m_law_lists :=
  have hN := sc_law_lists.nd
  have hu : Hu (cxOf (CXv mg P w) P w K mg base N_law_lists "_law_lists" (defScope s_law_lists) f cdv A outer s H E) := hu_of hr
  (vb_cons (vs_set (i := 3) (vx (ve_lst va_nil)) hN)
    (vb_cons (vs_setZ (i := 4) (vx ve_int) hN)
    (vb_cons (vs_for (passes_of rfl) rfl (vi_list 5 (ve_var 0)) (pg_name (i := 5) hN rfl (by first | exact Or.inl rfl | exact Or.inr rfl)) (vb_cons (vs_expr (vx_append (vp_name 3) (ve_lc (own := [("_law_k", 6)]) rfl hN (blkOk_by (by exact rfl)) (vj_range1 (T.b.at "range") (ve_var 5)) (fun s H C cl fp => vg_name 6 hN) (fun s H C cl fp => vts_nil) (fun s H C cl fp => (ve_ix (ve_var 2) (ve_ix (ve_var 1) (ve_plus (ve_var 4) (ve_var 6))))))))
    (vb_one (vs_setZ (i := 4) (vx (ve_plus (ve_var 4) (ve_var 5))) hN))))
    (vb_one (vs_ret (vx_move 3))))))
theorem k_law_lists (T : Txt P w K mg base) : OkF P w K mg base "_law_lists" N_law_lists P_law_lists m_law_lists 2 :=
  T.t_law_lists.ok sc_law_lists (fun f cdv A outer s H E hr => v_law_lists T  f cdv A outer s H E hr)
theorem sc_law_lines_spoilt : FnScope N_law_lines_spoilt P_law_lines_spoilt (defScope s_law_lines_spoilt) := ⟨rfl, rfl, rfl, by decide +kernel, rfl, by decide +kernel, by decide +kernel⟩
theorem v_law_lines_spoilt (T : Txt P w K mg base)    (f : Addr) (cdv : Value) (A : Around) (outer : List Env) (s : Shared) (H : Hp) (E : XK) (hr : Room 1 (A.deeper (envOfC "_law_lines_spoilt" (defScope s_law_lines_spoilt) s.heap.objs.size f cdv))) :
    VB (cxOf (CXv mg P w) P w K mg base N_law_lines_spoilt "_law_lines_spoilt" (defScope s_law_lines_spoilt) f cdv A outer s H E) [] (defBody s_law_lines_spoilt) m_law_lines_spoilt :=
  have hN := sc_law_lines_spoilt.nd
  have hu : Hu (cxOf (CXv mg P w) P w K mg base N_law_lines_spoilt "_law_lines_spoilt" (defScope s_law_lines_spoilt) f cdv A outer s H E) := hu_of hr
  (vb_cons (vs_setZ (i := 2) (vx (ve_mod (ve_int1 (T.b.at "int") (ve_ix (ve_var 1) ve_int)) ve_int)) hN)
    (vb_cons (vs_set (i := 3) (vx (ve_split (ve_var 0) ve_str)) hN)
    (vb_cons (vs_setZ (i := 4) (vx (ve_mod (ve_int1 (T.b.at "int") (ve_ix (ve_var 1) ve_int)) (ve_len (T.b.at "len") (ve_var 3)))) hN)
    (vb_cons (vs_setZ (i := 5) (vx (ve_mod (ve_int1 (T.b.at "int") (ve_ix (ve_var 1) ve_int)) (ve_len (T.b.at "len") (ve_var 3)))) hN)
    (vb_cons (vs_if (vt_eq hu (ve_var 2) ve_int) (vb_one (vs_ret (vx (ve_plus (ve_var 0) ve_str)))) vb_nil)
    (vb_cons (vs_if (vt_eq hu (ve_var 2) ve_int) (vb_one (vs_setIx ve_str (vp_name 3) (ve_var 4))) vb_nil)
    (vb_cons (vs_if (vt_eq hu (ve_var 2) ve_int) (vb_cons (vs_setZ (i := 6) (vx (ve_ix (ve_var 3) (ve_var 4))) hN)
    (vb_cons (vs_setIx (ve_ix (ve_var 3) (ve_var 5)) (vp_name 3) (ve_var 4))
    (vb_one (vs_setIx (ve_var 6) (vp_name 3) (ve_var 5))))) vb_nil)
    (vb_cons (vs_if (VW.vt (vw_and (vt_eq hu (ve_var 2) ve_int) (vw_and1 (vt_lt (ve_ix (ve_var 1) ve_int) ve_int)))) (vb_one (vs_ret (vx ve_str))) vb_nil)
    (vb_cons (vs_ifTeq hu (ve_var 2) (vbt_one (vst_setIx (vet_repl (ve_ix (ve_var 3) (ve_var 4))) (vp_name 3) (ve_var 4))) vb_nil)
    (vb_cons (vs_if (vt_eq hu (ve_var 2) ve_int) (vb_one (vs_expr (vx_insert (vp_name 3) (ve_plus ve_int (ve_var 5)) (ve_ix (ve_var 3) ve_int)))) vb_nil)
    (vb_one (vs_ret (vx (ve_join ve_str (ve_var 3)))))))))))))))
theorem k_law_lines_spoilt (T : Txt P w K mg base) : OkF P w K mg base "_law_lines_spoilt" N_law_lines_spoilt P_law_lines_spoilt m_law_lines_spoilt 2 :=
  T.t_law_lines_spoilt.ok sc_law_lines_spoilt (fun f cdv A outer s H E hr => v_law_lines_spoilt T  f cdv A outer s H E hr)
theorem sc_law_spoilt : FnScope N_law_spoilt P_law_spoilt (defScope s_law_spoilt) := ⟨rfl, rfl, rfl, by decide +kernel, rfl, by decide +kernel, by decide +kernel⟩
theorem v_law_spoilt (T : Txt P w K mg base) (f_law_lines_spoilt : OkF P w K mg base "_law_lines_spoilt" N_law_lines_spoilt P_law_lines_spoilt m_law_lines_spoilt 2)   (f : Addr) (cdv : Value) (A : Around) (outer : List Env) (s : Shared) (H : Hp) (E : XK) (hr : Room 2 (A.deeper (envOfC "_law_spoilt" (defScope s_law_spoilt) s.heap.objs.size f cdv))) :
    VB (cxOf (CXv mg P w) P w K mg base N_law_spoilt "_law_spoilt" (defScope s_law_spoilt) f cdv A outer s H E) [] (defBody s_law_spoilt) m_law_spoilt :=
  have hN := sc_law_spoilt.nd
  have hu : Hu (cxOf (CXv mg P w) P w K mg base N_law_spoilt "_law_spoilt" (defScope s_law_spoilt) f cdv A outer s H E) := hu_of hr
  (vb_cons (vs_if (vt_lt (ve_ix (ve_var 1) ve_int) ve_int) (vb_one (vs_ret (vx (ve_callO f_law_lines_spoilt (hr.mono (by decide)) (va_cons (ve_var 0) (va_cons (ve_var 1) va_nil)) (alen_cons (alen_cons alen_nil)))))) vb_nil)
    (vb_cons (vs_setZ (i := 2) (vx ve_str) hN)
    (vb_cons (vs_setZ (i := 2) (vx (ve_plus (ve_var 2) ve_str)) hN)
    (vb_cons (vs_setZ (i := 3) (vx (ve_ix (ve_var 2) (ve_mod (ve_int1 (T.b.at "int") (ve_ix (ve_var 1) ve_int)) (ve_len (T.b.at "len") (ve_var 2))))) hN)
    (vb_cons (vs_if (vt_lt (ve_ix (ve_var 1) ve_int) ve_int) (vb_one (vs_setZ (i := 3) (vx (ve_ix (ve_lst (va_cons ve_str (va_cons ve_str (va_cons ve_str (va_cons ve_str (va_cons ve_str (va_cons ve_str (va_cons ve_str va_nil)))))))) (ve_mod (ve_int1 (T.b.at "int") (ve_ix (ve_var 1) ve_int)) ve_int))) hN)) vb_nil)
    (vb_cons (vs_setZ (i := 4) (vx (ve_mod (ve_int1 (T.b.at "int") (ve_ix (ve_var 1) ve_int)) (ve_plus (ve_len (T.b.at "len") (ve_var 0)) ve_int))) hN)
    (vb_cons (vs_setZ (i := 5) (vx (ve_mod (ve_int1 (T.b.at "int") (ve_ix (ve_var 1) ve_int)) ve_int)) hN)
    (vb_cons (vs_if (VW.vt (vw_or (vt_eq hu (ve_var 5) ve_int) (vw_or1 (vt_eq hu (ve_var 5) ve_int)))) (vb_one (vs_ret (vx (ve_plus (ve_plus (ve_slice (ve_var 0) vo_none (vo_some (ve_var 4))) (ve_var 3)) (ve_slice (ve_var 0) (vo_some (ve_var 4)) vo_none))))) vb_nil)
    (vb_cons (vs_if (vt_eq hu (ve_var 5) ve_int) (vb_one (vs_ret (vx (ve_plus (ve_plus (ve_slice (ve_var 0) vo_none (vo_some (ve_var 4))) (ve_var 3)) (ve_slice (ve_var 0) (vo_some (ve_plus (ve_var 4) ve_int)) vo_none))))) vb_nil)
    (vb_one (vs_ret (vx (ve_plus (ve_slice (ve_var 0) vo_none (vo_some (ve_var 4))) (ve_slice (ve_var 0) (vo_some (ve_plus (ve_var 4) ve_int)) vo_none))))))))))))))
theorem k_law_spoilt (T : Txt P w K mg base) : OkF P w K mg base "_law_spoilt" N_law_spoilt P_law_spoilt m_law_spoilt 3 :=
  T.t_law_spoilt.ok sc_law_spoilt (fun f cdv A outer s H E hr => v_law_spoilt T (k_law_lines_spoilt T) f cdv A outer s H E hr)
theorem sc_law_expected : FnScope N_law_expected P_law_expected (defScope s_law_expected) := ⟨rfl, rfl, rfl, by decide +kernel, rfl, by decide +kernel, by decide +kernel⟩
theorem v_law_expected (T : Txt P w K mg base) (f_law_valid : OkF P w K mg base "_law_valid" N_law_valid P_law_valid m_law_valid 2)   (f : Addr) (cdv : Value) (A : Around) (outer : List Env) (s : Shared) (H : Hp) (E : XK) (hr : Room 2 (A.deeper (envOfC "_law_expected" (defScope s_law_expected) s.heap.objs.size f cdv))) :
    VB (cxOf (CXv mg P w) P w K mg base N_law_expected "_law_expected" (defScope s_law_expected) f cdv A outer s H E) [] (defBody s_law_expected) m_law_expected :=
  have hN := sc_law_expected.nd
  have hu : Hu (cxOf (CXv mg P w) P w K mg base N_law_expected "_law_expected" (defScope s_law_expected) f cdv A outer s H E) := hu_of hr
  (vb_cons (vs_set (i := 1) (vx (ve_lst va_nil)) hN)
    (vb_cons (vs_setZ (i := 2) (vx (ve_split (ve_var 0) ve_str)) hN)
    (vb_cons (vs_for (passes_of rfl) rfl (vi_range1 3 (T.b.at "range") (ve_len (T.b.at "len") (ve_var 2))) (pg_name (i := 3) hN rfl (by first | exact Or.inl rfl | exact Or.inr rfl)) (vb_cons (vs_set (i := 4) (vx (ve_split (ve_ix (ve_var 2) (ve_var 3)) ve_str)) hN)
    (vb_cons (vs_if (vt_not (vt_tru (ve_all rfl (T.b.at "all") (ve_lc (own := [("_law_name", 5)]) rfl hN (blkOk_by (by exact rfl)) (vj_seq (ve_var 4)) (fun s H C cl fp => vg_name 5 hN) (fun s H C cl fp => vts_nil) (fun s H C cl fp => (ve_callO f_law_valid (hr.mono (by decide)) (va_cons (ve_var 5) va_nil) (alen_cons alen_nil))))))) (vb_one (vs_ret (vx (ve_tup (va_cons ve_str (va_cons (ve_plus (ve_var 3) ve_int) va_nil)))))) vb_nil)
    (vb_one (vs_expr (vx_appX 1 (vx_move 4)))))))
    (vb_one (vs_ret (vx_tupX (xa_cons (vx ve_str) (xa_cons (vx_move 1) xa_nil))))))))
theorem k_law_expected (T : Txt P w K mg base) : OkF P w K mg base "_law_expected" N_law_expected P_law_expected m_law_expected 3 :=
  T.t_law_expected.ok sc_law_expected (fun f cdv A outer s H E hr => v_law_expected T (k_law_valid T) f cdv A outer s H E hr)
theorem sc_law_told : FnScope N_law_told P_law_told (defScope s_law_told) := ⟨rfl, rfl, rfl, by decide +kernel, rfl, by decide +kernel, by decide +kernel⟩
theorem v_law_told (T : Txt P w K mg base) (f_read_order : OkF P w K mg base "read_order" N_read_order P_read_order m_read_order 3)   (f : Addr) (cdv : Value) (A : Around) (outer : List Env) (s : Shared) (H : Hp) (E : XK) (hr : Room 3 (A.deeper (envOfC "_law_told" (defScope s_law_told) s.heap.objs.size f cdv))) :
    VB (cxOf (CXv mg P w) P w K mg base N_law_told "_law_told" (defScope s_law_told) f cdv A outer s H E) [] (defBody s_law_told) m_law_told :=
  have hN := sc_law_told.nd
  have hu : Hu (cxOf (CXv mg P w) P w K mg base N_law_told "_law_told" (defScope s_law_told) f cdv A outer s H E) := hu_of hr
  (vb_cons (vs_try_as (i := 1) "DyeError" T.E rfl hN (fun pn xe hpo => (vb_one (vs_ret (vx (ve_tup (va_cons ve_str (va_cons (ve_callO f_read_order (hr.mono (by decide)) (va_cons (ve_var 0) va_nil) (alen_cons alen_nil)) va_nil))))))) (fun a oe pn => (vb_cons (vs_if (vt_tru (ve_isT T.E (T.b.at "isinstance") (ve_var 1) (vcs_cons "BadDeed" T.E (vcs_cons "BadName" T.E (vcs_cons "BadNumber" T.E (vcs_cons "BadOrder" T.E (vcs_cons "BadStrengths" T.E (vcs_cons "CircularPromise" T.E (vcs_cons "NoOrder" T.E vcs_nil))))))))) (vb_one (vs_ret (vx (ve_tup (va_cons ve_str (va_cons ve_non va_nil)))))) vb_nil)
    (vb_cons (vs_if (vt_tru (ve_isT T.E (T.b.at "isinstance") (ve_var 1) (vcs_cons "NoPromise" T.E (vcs_cons "NotDarker" T.E (vcs_cons "NothingToUndo" T.E (vcs_cons "UnknownName" T.E (vcs_cons "WrongTotal" T.E vcs_nil))))))) (vb_one (vs_ret (vx (ve_tup (va_cons ve_str (va_cons ve_non va_nil)))))) vb_nil)
    (vb_one (vs_if (VW.vt (vw_and (vt_tru (ve_isV T.E (T.b.at "isinstance") (T.b.at "ValueError") (ve_var 1))) (vw_and1 (vt_tru (ve_isE "BadLine" T.E (T.b.at "isinstance") (ve_var 1)))))) (vb_one (vs_ret (vx (ve_tup (va_cons ve_str (va_cons (ve_xf "line" T.E (ve_var 1)) va_nil)))))) vb_nil))))))
    (vb_one (vs_ret (vx (ve_tup (va_cons ve_str (va_cons ve_non va_nil)))))))
theorem k_law_told (T : Txt P w K mg base) : OkF P w K mg base "_law_told" N_law_told P_law_told m_law_told 4 :=
  T.t_law_told.ok sc_law_told (fun f cdv A outer s H E hr => v_law_told T (k_read_order T) f cdv A outer s H E hr)
theorem sc_law_read : FnScope N_law_read P_law_read (defScope s_law_read) := ⟨rfl, rfl, rfl, by decide +kernel, rfl, by decide +kernel, by decide +kernel⟩
theorem v_law_read (T : Txt P w K mg base) (f_law_is_int : OkF P w K mg base "_law_is_int" N_law_is_int P_law_is_int m_law_is_int 2) (f_law_expected : OkF P w K mg base "_law_expected" N_law_expected P_law_expected m_law_expected 3) (f_law_told : OkF P w K mg base "_law_told" N_law_told P_law_told m_law_told 4)   (f : Addr) (cdv : Value) (A : Around) (outer : List Env) (s : Shared) (H : Hp) (E : XK) (hr : Room 4 (A.deeper (envOfC "_law_read" (defScope s_law_read) s.heap.objs.size f cdv))) :
    VB (cxOf (CXv mg P w) P w K mg base N_law_read "_law_read" (defScope s_law_read) f cdv A outer s H E) [] (defBody s_law_read) m_law_read :=
  have hN := sc_law_read.nd
  have hu : Hu (cxOf (CXv mg P w) P w K mg base N_law_read "_law_read" (defScope s_law_read) f cdv A outer s H E) := hu_of hr
  (vb_cons (vs_setZ (i := 1) (vx (ve_callO f_law_expected (hr.mono (by decide)) (va_cons (ve_var 0) va_nil) (alen_cons alen_nil))) hN)
    (vb_cons (vs_set (i := 2) (vx (ve_callO f_law_told (hr.mono (by decide)) (va_cons (ve_var 0) va_nil) (alen_cons alen_nil))) hN)
    (vb_cons (vs_if (vt_eq hu (ve_ix (ve_var 2) ve_int) ve_str) (vb_one (vs_ret (vx (ve_and (ve_eq hu (ve_var 2) (ve_var 1)) (ve_one (ve_callO f_law_is_int (hr.mono (by decide)) (va_cons (ve_ix (ve_var 2) ve_int) va_nil) (alen_cons alen_nil))))))) vb_nil)
    (vb_cons (vs_if (VW.vt (vw_or (vt_ne hu (ve_var 2) (ve_var 1)) (vw_or1 (vt_not (vt_tru (ve_isi "list" (T.b.at "isinstance") (T.b.at "list") (by decide +kernel) (ve_ix (ve_var 2) ve_int))))))) (vb_one (vs_ret (vx ve_bl))) vb_nil)
    (vb_cons (vs_lend 2 [] (vs_for (passes_of rfl) rfl (vi_list 3 (ve_ix (ve_var 2) ve_int)) (pg_name (i := 3) hN rfl (by first | exact Or.inl rfl | exact Or.inr rfl)) (vb_one (vs_if (VW.vt (vw_or (vt_not (vt_tru (ve_isi "list" (T.b.at "isinstance") (T.b.at "list") (by decide +kernel) (ve_var 3)))) (vw_or1 (vt_not (vt_tru (ve_all rfl (T.b.at "all") (ve_lc (own := [("_law_name", 4)]) rfl hN (blkOk_by (by exact rfl)) (vj_seq (ve_var 3)) (fun s H C cl fp => vg_name 4 hN) (fun s H C cl fp => vts_nil) (fun s H C cl fp => (ve_isi "str" (T.b.at "isinstance") (T.b.at "str") (by decide +kernel) (ve_var 4)))))))))) (vb_one (vs_ret (vx ve_bl))) vb_nil))))
    (vb_cons (vs_expr (vx_append (vp_ix (vp_ixT (vp_name 2) ve_int) ve_int) ve_str))
    (vb_cons (vs_if (vt_ne hu (ve_slice (ve_ix (ve_var 2) ve_int) (vo_some ve_int) vo_none) (ve_slice (ve_ix (ve_var 1) ve_int) (vo_some ve_int) vo_none)) (vb_one (vs_ret (vx ve_bl))) vb_nil)
    (vb_cons (vs_expr (vx_append (vp_ixT (vp_name 2) ve_int) (ve_lst va_nil)))
    (vb_one (vs_ret (vx ve_bl)))))))))))
theorem k_law_read (T : Txt P w K mg base) : OkF P w K mg base "_law_read" N_law_read P_law_read m_law_read 5 :=
  T.t_law_read.ok sc_law_read (fun f cdv A outer s H E hr => v_law_read T (k_law_is_int T) (k_law_expected T) (k_law_told T) f cdv A outer s H E hr)
theorem sc_law : FnScope N_law P_law (defScope s_law) := ⟨rfl, rfl, rfl, by decide +kernel, rfl, by decide +kernel, by decide +kernel⟩
theorem v_law (T : Txt P w K mg base) (f_write_order : OkF P w K mg base "write_order" N_write_order P_write_order m_write_order 2) (f_law_cell : OkF P w K mg base "_law_cell" N_law_cell P_law_cell m_law_cell 2) (f_law_row : OkF P w K mg base "_law_row" N_law_row P_law_row m_law_row 2) (f_law_names : OkF P w K mg base "_law_names" N_law_names P_law_names m_law_names 3) (f_law_free_name : OkF P w K mg base "_law_free_name" N_law_free_name P_law_free_name m_law_free_name 3) (f_law_lists : OkF P w K mg base "_law_lists" N_law_lists P_law_lists m_law_lists 2) (f_law_spoilt : OkF P w K mg base "_law_spoilt" N_law_spoilt P_law_spoilt m_law_spoilt 3) (f_law_read : OkF P w K mg base "_law_read" N_law_read P_law_read m_law_read 5)   (f : Addr) (cdv : Value) (A : Around) (outer : List Env) (s : Shared) (H : Hp) (E : XK) (hr : Room 5 (A.deeper (envOfC "law" (defScope s_law) s.heap.objs.size f cdv))) :
    VB (cxOf (CXv mg P w) P w K mg base N_law "law" (defScope s_law) f cdv A outer s H E) [] (defBody s_law) m_law :=
  have hN := sc_law.nd
  have hu : Hu (cxOf (CXv mg P w) P w K mg base N_law "law" (defScope s_law) f cdv A outer s H E) := hu_of hr
  (vb_cons (vs_setZ (i := 1) (vx (ve_callO f_law_names (hr.mono (by decide)) (va_cons (ve_callO f_law_cell (hr.mono (by decide)) (va_cons (ve_var 0) (va_cons ve_int va_nil)) (alen_cons (alen_cons alen_nil))) (va_cons ve_int va_nil)) (alen_cons (alen_cons alen_nil)))) hN)
    (vb_cons (vs_setZ (i := 1) (vx (ve_plus (ve_var 1) (ve_lst (va_cons (ve_callO f_law_free_name (hr.mono (by decide)) (va_cons (ve_callO f_law_cell (hr.mono (by decide)) (va_cons (ve_var 0) (va_cons ve_int va_nil)) (alen_cons (alen_cons alen_nil))) va_nil) (alen_cons alen_nil)) (va_cons (ve_callO f_law_free_name (hr.mono (by decide)) (va_cons (ve_callO f_law_cell (hr.mono (by decide)) (va_cons (ve_var 0) (va_cons ve_int va_nil)) (alen_cons (alen_cons alen_nil))) va_nil) (alen_cons alen_nil)) va_nil))))) hN)
    (vb_cons (vs_setLc true (own := [("_law_x", 8)]) rfl hN (blkOk_by (by exact rfl)) (vj_seq (ve_callO f_law_row (hr.mono (by decide)) (va_cons (ve_callO f_law_cell (hr.mono (by decide)) (va_cons (ve_var 0) (va_cons ve_int va_nil)) (alen_cons (alen_cons alen_nil))) (va_cons (ve_plus ve_int (ve_mod (ve_int1 (T.b.at "int") (ve_callO f_law_cell (hr.mono (by decide)) (va_cons (ve_var 0) (va_cons ve_int va_nil)) (alen_cons (alen_cons alen_nil)))) ve_int)) (va_cons ve_int va_nil))) (alen_cons (alen_cons (alen_cons alen_nil))))) (fun s H C cl fp => vg_name 8 hN) (fun s H C cl fp => vts_nil) (fun s H C cl fp => (ve_plus ve_int (ve_var 8))))
    (vb_cons (vs_setZ (i := 3) (vx (ve_callO f_law_lists (hr.mono (by decide)) (va_cons (ve_var 2) (va_cons (ve_callO f_law_row (hr.mono (by decide)) (va_cons (ve_callO f_law_cell (hr.mono (by decide)) (va_cons (ve_var 0) (va_cons ve_int va_nil)) (alen_cons (alen_cons alen_nil))) (va_cons ve_int (va_cons ve_int va_nil))) (alen_cons (alen_cons (alen_cons alen_nil)))) (va_cons (ve_var 1) va_nil))) (alen_cons (alen_cons (alen_cons alen_nil))))) hN)
    (vb_cons (vs_setZ (i := 4) (vx (ve_join ve_str (ve_lc (own := [("_law_names_here", 9)]) rfl hN (blkOk_by (by exact rfl)) (vj_seq (ve_var 3)) (fun s H C cl fp => vg_name 9 hN) (fun s H C cl fp => vts_nil) (fun s H C cl fp => (ve_join ve_str (ve_var 9)))))) hN)
    (vb_cons (vs_setLc true (own := [("_law_names_here", 9)]) rfl hN (blkOk_by (by exact rfl)) (vj_seq (ve_var 3)) (fun s H C cl fp => vg_name 9 hN) (fun s H C cl fp => vts_nil) (fun s H C cl fp => (ve_list (T.b.at "list") (ve_var 9))))
    (vb_cons (vs_setZ (i := 6) (vx (ve_callO f_write_order (hr.mono (by decide)) (va_cons (ve_var 5) va_nil) (alen_cons alen_nil))) hN)
    (vb_cons (vs_if (VW.vt (vw_or (vt_not (vt_tru (ve_isi "str" (T.b.at "isinstance") (T.b.at "str") (by decide +kernel) (ve_var 6)))) (vw_or (vt_ne hu (ve_var 6) (ve_var 4)) (vw_or1 (vt_ne hu (ve_var 5) (ve_var 3)))))) (vb_one (vs_ret (vx ve_bl))) vb_nil)
    (vb_cons (vs_if (VW.vt (vw_or (vt_not (vt_tru (ve_callO f_law_read (hr.mono (by decide)) (va_cons (ve_var 6) va_nil) (alen_cons alen_nil)))) (vw_or1 (vt_not (vt_tru (ve_callO f_law_read (hr.mono (by decide)) (va_cons (ve_var 6) va_nil) (alen_cons alen_nil))))))) (vb_one (vs_ret (vx ve_bl))) vb_nil)
    (vb_cons (vs_for (passes_of rfl) rfl (vi_range1 7 (T.b.at "range") (ve_mod (ve_int1 (T.b.at "int") (ve_plus (ve_callO f_law_cell (hr.mono (by decide)) (va_cons (ve_var 0) (va_cons ve_int va_nil)) (alen_cons (alen_cons alen_nil))) ve_int)) ve_int)) (pg_name (i := 7) hN rfl (by first | exact Or.inl rfl | exact Or.inr rfl)) (vb_cons (vs_setZ (i := 6) (vx (ve_callO f_law_spoilt (hr.mono (by decide)) (va_cons (ve_var 6) (va_cons (ve_callO f_law_row (hr.mono (by decide)) (va_cons (ve_callO f_law_cell (hr.mono (by decide)) (va_cons (ve_var 0) (va_cons (ve_plus ve_int (ve_var 7)) va_nil)) (alen_cons (alen_cons alen_nil))) (va_cons ve_int (va_cons ve_int va_nil))) (alen_cons (alen_cons (alen_cons alen_nil)))) va_nil)) (alen_cons (alen_cons alen_nil)))) hN)
    (vb_one (vs_if (vt_not (vt_tru (ve_callO f_law_read (hr.mono (by decide)) (va_cons (ve_var 6) va_nil) (alen_cons alen_nil)))) (vb_one (vs_ret (vx ve_bl))) vb_nil))))
    (vb_one (vs_ret (vx (ve_callO f_law_read (hr.mono (by decide)) (va_cons (ve_var 4) va_nil) (alen_cons alen_nil)))))))))))))))
end
section
variable {P : Program} {w : World} {K : PySem.W.Frag} {h : Heap} {mg : Str → Option Value} {base : Heap}
abbrev iBadLine : Stmt := inClass (top 14) 0
theorem er_BadLine {Ca f1 cda cc : Addr} {fd : FuncData} (I : InitT P K mg "BadLine" iBadLine "BadLine.__init__" ["self", "line"] ["line"] Ca f1 cda cc fd) : Er1 P w K mg base "BadLine" "line" :=
  ⟨Ca, f1, fd, _, I.gC, I.ox, I.iC, I.tI, (err1B I.T (VLX.sup_by rfl) rfl (fun _ => rfl) rfl (I.no _ (by simp)) (fun A outer s H E cal pn => pss_one (ps_ost (pv 0) (pv 1)))).1, I.bd⟩
end
theorem all_mk {w : World} {K : PySem.W.Frag} {h : Heap} {mg : Str → Option Value} {fa : Addr} (X : K.In h) (G : h.Ns mainGlobals mg) (hfa : mg "law" = some (.ref fa))
    {C0 : Addr} (n0 : PySem.W.nsIn K mainGlobals "DyeError" = some (some (.ref C0)))
    {C1 : Addr} (n1 : PySem.W.nsIn K mainGlobals "BadName" = some (some (.ref C1)))
    {C2 : Addr} (n2 : PySem.W.nsIn K mainGlobals "UnknownName" = some (some (.ref C2)))
    {C3 : Addr} (n3 : PySem.W.nsIn K mainGlobals "BadNumber" = some (some (.ref C3)))
    {C4 : Addr} (n4 : PySem.W.nsIn K mainGlobals "BadStrengths" = some (some (.ref C4)))
    {C5 : Addr} (n5 : PySem.W.nsIn K mainGlobals "NotDarker" = some (some (.ref C5)))
    {C6 : Addr} (n6 : PySem.W.nsIn K mainGlobals "BadDeed" = some (some (.ref C6)))
    {C7 : Addr} (n7 : PySem.W.nsIn K mainGlobals "NothingToUndo" = some (some (.ref C7)))
    {C8 : Addr} (n8 : PySem.W.nsIn K mainGlobals "BadOrder" = some (some (.ref C8)))
    {C9 : Addr} (n9 : PySem.W.nsIn K mainGlobals "WrongTotal" = some (some (.ref C9)))
    {C10 : Addr} (n10 : PySem.W.nsIn K mainGlobals "CircularPromise" = some (some (.ref C10)))
    {C11 : Addr} (n11 : PySem.W.nsIn K mainGlobals "NoPromise" = some (some (.ref C11)))
    {C12 : Addr} (n12 : PySem.W.nsIn K mainGlobals "NoOrder" = some (some (.ref C12)))
    {C13 : Addr} (n13 : PySem.W.nsIn K mainGlobals "BadLine" = some (some (.ref C13)))
    (hE : errB K [(("DyeError", []), C0), (("BadName", ["name"]), C1), (("UnknownName", ["name"]), C2), (("BadNumber", ["number"]), C3), (("BadStrengths", ["place"]), C4), (("NotDarker", ["top"]), C5), (("BadDeed", ["place"]), C6), (("NothingToUndo", []), C7), (("BadOrder", []), C8), (("WrongTotal", ["offered", "wanted"]), C9), (("CircularPromise", ["dark", "light"]), C10), (("NoPromise", ["promise"]), C11), (("NoOrder", ["stretch"]), C12), (("BadLine", ["line"]), C13)] = true) (hblt : bltB K = true)
    {nm13 q13 : String} {N13 : Addr} {bs13 bm13 : List Value} {sn13 : List Str} {sub13 : List Value} {ab13 : Bool} {col13 : Option Bool} {dd13 : Option Addr} {z013 z113 z213 z313 z513 : Option Value}
    {g13 cda13 cc13 : Addr} {oc13 kV13 doc13 pm13 ct13 : Value} {od13 an13 : Option Addr} {osl13 : Array (Option Value)} {cl13 : Value} {cld13 : Option Addr} {csl13 : Array (Option Value)}
    (x13 : K.lookup C13 = some (excClassObj nm13 q13 C13 N13 bs13 bm13 true sn13 sub13 ab13 col13 dd13 z013 z113 z213 z313 z513 "ValueError.__new__")) (bm_13 : PySem.HandSPX.refsVE bm13 = true)
    (y13 : PySem.W.findIn K (.ref C13) "__init__" = some (some (.ref g13)))
    (m13 : K.lookup g13 = some ⟨oc13, od13, .func (PySem.W.fnX "__init__" "BadLine.__init__" (defArgs iBadLine) (defBody iBadLine) (defScope iBadLine) [("__class__", cc13)] .none kV13 doc13 pm13 an13 (.ref cda13) ct13), osl13⟩)
    (ce13 : K.lookup cc13 = some ⟨cl13, cld13, .cell (some (.ref C13)), csl13⟩) (hc13 : codeB PySem.Challenge.pw_dyevats_k36_texts_of_orders K cda13 = true) (e13 : initB PySem.Challenge.pw_dyevats_k36_texts_of_orders K C13 g13 cda13 "BadLine.__init__" ["line"] = true)
    {tk_DIGITS : Tok} (gs_DIGITS : PySem.W.nsIn K mainGlobals "DIGITS" = some (some (.str "0123456789" tk_DIGITS)))
    {tk_LETTERS : Tok} (gs_LETTERS : PySem.W.nsIn K mainGlobals "LETTERS" = some (some (.str "abcdefghijklmnopqrstuvwxyz" tk_LETTERS)))
    {f__valid_name : Addr} {oc__valid_name kV__valid_name dc__valid_name pm__valid_name cd__valid_name ct__valid_name : Value} {od__valid_name an__valid_name : Option Addr} {sl__valid_name : Array (Option Value)} (a__valid_name : PySem.W.nsIn K mainGlobals "valid_name" = some (some (.ref f__valid_name))) (l__valid_name : K.lookup f__valid_name = some ⟨oc__valid_name, od__valid_name, .func (PySem.W.fnOf "valid_name" "valid_name" (defArgs s_valid_name) (defBody s_valid_name) (defScope s_valid_name) .none kV__valid_name dc__valid_name pm__valid_name an__valid_name cd__valid_name ct__valid_name), sl__valid_name⟩) (c__valid_name : PySem.W.codeIn K cd__valid_name "valid_name" = true) (k__valid_name : PySem.W.keepIn K (.ref f__valid_name) = true)
    {f__write_order : Addr} {oc__write_order kV__write_order dc__write_order pm__write_order cd__write_order ct__write_order : Value} {od__write_order an__write_order : Option Addr} {sl__write_order : Array (Option Value)} (a__write_order : PySem.W.nsIn K mainGlobals "write_order" = some (some (.ref f__write_order))) (l__write_order : K.lookup f__write_order = some ⟨oc__write_order, od__write_order, .func (PySem.W.fnOf "write_order" "write_order" (defArgs s_write_order) (defBody s_write_order) (defScope s_write_order) .none kV__write_order dc__write_order pm__write_order an__write_order cd__write_order ct__write_order), sl__write_order⟩) (c__write_order : PySem.W.codeIn K cd__write_order "write_order" = true) (k__write_order : PySem.W.keepIn K (.ref f__write_order) = true)
    {f__read_order : Addr} {oc__read_order kV__read_order dc__read_order pm__read_order cd__read_order ct__read_order : Value} {od__read_order an__read_order : Option Addr} {sl__read_order : Array (Option Value)} (a__read_order : PySem.W.nsIn K mainGlobals "read_order" = some (some (.ref f__read_order))) (l__read_order : K.lookup f__read_order = some ⟨oc__read_order, od__read_order, .func (PySem.W.fnOf "read_order" "read_order" (defArgs s_read_order) (defBody s_read_order) (defScope s_read_order) .none kV__read_order dc__read_order pm__read_order an__read_order cd__read_order ct__read_order), sl__read_order⟩) (c__read_order : PySem.W.codeIn K cd__read_order "read_order" = true) (k__read_order : PySem.W.keepIn K (.ref f__read_order) = true)
    {f__law_cell : Addr} {oc__law_cell kV__law_cell dc__law_cell pm__law_cell cd__law_cell ct__law_cell : Value} {od__law_cell an__law_cell : Option Addr} {sl__law_cell : Array (Option Value)} (a__law_cell : PySem.W.nsIn K mainGlobals "_law_cell" = some (some (.ref f__law_cell))) (l__law_cell : K.lookup f__law_cell = some ⟨oc__law_cell, od__law_cell, .func (PySem.W.fnOf "_law_cell" "_law_cell" (defArgs s_law_cell) (defBody s_law_cell) (defScope s_law_cell) .none kV__law_cell dc__law_cell pm__law_cell an__law_cell cd__law_cell ct__law_cell), sl__law_cell⟩) (c__law_cell : PySem.W.codeIn K cd__law_cell "_law_cell" = true) (k__law_cell : PySem.W.keepIn K (.ref f__law_cell) = true)
    {f__law_row : Addr} {oc__law_row kV__law_row dc__law_row pm__law_row cd__law_row ct__law_row : Value} {od__law_row an__law_row : Option Addr} {sl__law_row : Array (Option Value)} (a__law_row : PySem.W.nsIn K mainGlobals "_law_row" = some (some (.ref f__law_row))) (l__law_row : K.lookup f__law_row = some ⟨oc__law_row, od__law_row, .func (PySem.W.fnOf "_law_row" "_law_row" (defArgs s_law_row) (defBody s_law_row) (defScope s_law_row) .none kV__law_row dc__law_row pm__law_row an__law_row cd__law_row ct__law_row), sl__law_row⟩) (c__law_row : PySem.W.codeIn K cd__law_row "_law_row" = true) (k__law_row : PySem.W.keepIn K (.ref f__law_row) = true)
    {f__law_is_int : Addr} {oc__law_is_int kV__law_is_int dc__law_is_int pm__law_is_int cd__law_is_int ct__law_is_int : Value} {od__law_is_int an__law_is_int : Option Addr} {sl__law_is_int : Array (Option Value)} (a__law_is_int : PySem.W.nsIn K mainGlobals "_law_is_int" = some (some (.ref f__law_is_int))) (l__law_is_int : K.lookup f__law_is_int = some ⟨oc__law_is_int, od__law_is_int, .func (PySem.W.fnOf "_law_is_int" "_law_is_int" (defArgs s_law_is_int) (defBody s_law_is_int) (defScope s_law_is_int) .none kV__law_is_int dc__law_is_int pm__law_is_int an__law_is_int cd__law_is_int ct__law_is_int), sl__law_is_int⟩) (c__law_is_int : PySem.W.codeIn K cd__law_is_int "_law_is_int" = true) (k__law_is_int : PySem.W.keepIn K (.ref f__law_is_int) = true)
    {f__law_names : Addr} {oc__law_names kV__law_names dc__law_names pm__law_names cd__law_names ct__law_names : Value} {od__law_names an__law_names : Option Addr} {sl__law_names : Array (Option Value)} (a__law_names : PySem.W.nsIn K mainGlobals "_law_names" = some (some (.ref f__law_names))) (l__law_names : K.lookup f__law_names = some ⟨oc__law_names, od__law_names, .func (PySem.W.fnOf "_law_names" "_law_names" (defArgs s_law_names) (defBody s_law_names) (defScope s_law_names) .none kV__law_names dc__law_names pm__law_names an__law_names cd__law_names ct__law_names), sl__law_names⟩) (c__law_names : PySem.W.codeIn K cd__law_names "_law_names" = true) (k__law_names : PySem.W.keepIn K (.ref f__law_names) = true)
    {f__law_valid : Addr} {oc__law_valid kV__law_valid dc__law_valid pm__law_valid cd__law_valid ct__law_valid : Value} {od__law_valid an__law_valid : Option Addr} {sl__law_valid : Array (Option Value)} (a__law_valid : PySem.W.nsIn K mainGlobals "_law_valid" = some (some (.ref f__law_valid))) (l__law_valid : K.lookup f__law_valid = some ⟨oc__law_valid, od__law_valid, .func (PySem.W.fnOf "_law_valid" "_law_valid" (defArgs s_law_valid) (defBody s_law_valid) (defScope s_law_valid) .none kV__law_valid dc__law_valid pm__law_valid an__law_valid cd__law_valid ct__law_valid), sl__law_valid⟩) (c__law_valid : PySem.W.codeIn K cd__law_valid "_law_valid" = true) (k__law_valid : PySem.W.keepIn K (.ref f__law_valid) = true)
    {f__law_free_name : Addr} {oc__law_free_name kV__law_free_name dc__law_free_name pm__law_free_name cd__law_free_name ct__law_free_name : Value} {od__law_free_name an__law_free_name : Option Addr} {sl__law_free_name : Array (Option Value)} (a__law_free_name : PySem.W.nsIn K mainGlobals "_law_free_name" = some (some (.ref f__law_free_name))) (l__law_free_name : K.lookup f__law_free_name = some ⟨oc__law_free_name, od__law_free_name, .func (PySem.W.fnOf "_law_free_name" "_law_free_name" (defArgs s_law_free_name) (defBody s_law_free_name) (defScope s_law_free_name) .none kV__law_free_name dc__law_free_name pm__law_free_name an__law_free_name cd__law_free_name ct__law_free_name), sl__law_free_name⟩) (c__law_free_name : PySem.W.codeIn K cd__law_free_name "_law_free_name" = true) (k__law_free_name : PySem.W.keepIn K (.ref f__law_free_name) = true)
    {f__law_lists : Addr} {oc__law_lists kV__law_lists dc__law_lists pm__law_lists cd__law_lists ct__law_lists : Value} {od__law_lists an__law_lists : Option Addr} {sl__law_lists : Array (Option Value)} (a__law_lists : PySem.W.nsIn K mainGlobals "_law_lists" = some (some (.ref f__law_lists))) (l__law_lists : K.lookup f__law_lists = some ⟨oc__law_lists, od__law_lists, .func (PySem.W.fnOf "_law_lists" "_law_lists" (defArgs s_law_lists) (defBody s_law_lists) (defScope s_law_lists) .none kV__law_lists dc__law_lists pm__law_lists an__law_lists cd__law_lists ct__law_lists), sl__law_lists⟩) (c__law_lists : PySem.W.codeIn K cd__law_lists "_law_lists" = true) (k__law_lists : PySem.W.keepIn K (.ref f__law_lists) = true)
    {f__law_lines_spoilt : Addr} {oc__law_lines_spoilt kV__law_lines_spoilt dc__law_lines_spoilt pm__law_lines_spoilt cd__law_lines_spoilt ct__law_lines_spoilt : Value} {od__law_lines_spoilt an__law_lines_spoilt : Option Addr} {sl__law_lines_spoilt : Array (Option Value)} (a__law_lines_spoilt : PySem.W.nsIn K mainGlobals "_law_lines_spoilt" = some (some (.ref f__law_lines_spoilt))) (l__law_lines_spoilt : K.lookup f__law_lines_spoilt = some ⟨oc__law_lines_spoilt, od__law_lines_spoilt, .func (PySem.W.fnOf "_law_lines_spoilt" "_law_lines_spoilt" (defArgs s_law_lines_spoilt) (defBody s_law_lines_spoilt) (defScope s_law_lines_spoilt) .none kV__law_lines_spoilt dc__law_lines_spoilt pm__law_lines_spoilt an__law_lines_spoilt cd__law_lines_spoilt ct__law_lines_spoilt), sl__law_lines_spoilt⟩) (c__law_lines_spoilt : PySem.W.codeIn K cd__law_lines_spoilt "_law_lines_spoilt" = true) (k__law_lines_spoilt : PySem.W.keepIn K (.ref f__law_lines_spoilt) = true)
    {f__law_spoilt : Addr} {oc__law_spoilt kV__law_spoilt dc__law_spoilt pm__law_spoilt cd__law_spoilt ct__law_spoilt : Value} {od__law_spoilt an__law_spoilt : Option Addr} {sl__law_spoilt : Array (Option Value)} (a__law_spoilt : PySem.W.nsIn K mainGlobals "_law_spoilt" = some (some (.ref f__law_spoilt))) (l__law_spoilt : K.lookup f__law_spoilt = some ⟨oc__law_spoilt, od__law_spoilt, .func (PySem.W.fnOf "_law_spoilt" "_law_spoilt" (defArgs s_law_spoilt) (defBody s_law_spoilt) (defScope s_law_spoilt) .none kV__law_spoilt dc__law_spoilt pm__law_spoilt an__law_spoilt cd__law_spoilt ct__law_spoilt), sl__law_spoilt⟩) (c__law_spoilt : PySem.W.codeIn K cd__law_spoilt "_law_spoilt" = true) (k__law_spoilt : PySem.W.keepIn K (.ref f__law_spoilt) = true)
    {f__law_expected : Addr} {oc__law_expected kV__law_expected dc__law_expected pm__law_expected cd__law_expected ct__law_expected : Value} {od__law_expected an__law_expected : Option Addr} {sl__law_expected : Array (Option Value)} (a__law_expected : PySem.W.nsIn K mainGlobals "_law_expected" = some (some (.ref f__law_expected))) (l__law_expected : K.lookup f__law_expected = some ⟨oc__law_expected, od__law_expected, .func (PySem.W.fnOf "_law_expected" "_law_expected" (defArgs s_law_expected) (defBody s_law_expected) (defScope s_law_expected) .none kV__law_expected dc__law_expected pm__law_expected an__law_expected cd__law_expected ct__law_expected), sl__law_expected⟩) (c__law_expected : PySem.W.codeIn K cd__law_expected "_law_expected" = true) (k__law_expected : PySem.W.keepIn K (.ref f__law_expected) = true)
    {f__law_told : Addr} {oc__law_told kV__law_told dc__law_told pm__law_told cd__law_told ct__law_told : Value} {od__law_told an__law_told : Option Addr} {sl__law_told : Array (Option Value)} (a__law_told : PySem.W.nsIn K mainGlobals "_law_told" = some (some (.ref f__law_told))) (l__law_told : K.lookup f__law_told = some ⟨oc__law_told, od__law_told, .func (PySem.W.fnOf "_law_told" "_law_told" (defArgs s_law_told) (defBody s_law_told) (defScope s_law_told) .none kV__law_told dc__law_told pm__law_told an__law_told cd__law_told ct__law_told), sl__law_told⟩) (c__law_told : PySem.W.codeIn K cd__law_told "_law_told" = true) (k__law_told : PySem.W.keepIn K (.ref f__law_told) = true)
    {f__law_read : Addr} {oc__law_read kV__law_read dc__law_read pm__law_read cd__law_read ct__law_read : Value} {od__law_read an__law_read : Option Addr} {sl__law_read : Array (Option Value)} (a__law_read : PySem.W.nsIn K mainGlobals "_law_read" = some (some (.ref f__law_read))) (l__law_read : K.lookup f__law_read = some ⟨oc__law_read, od__law_read, .func (PySem.W.fnOf "_law_read" "_law_read" (defArgs s_law_read) (defBody s_law_read) (defScope s_law_read) .none kV__law_read dc__law_read pm__law_read an__law_read cd__law_read ct__law_read), sl__law_read⟩) (c__law_read : PySem.W.codeIn K cd__law_read "_law_read" = true) (k__law_read : PySem.W.keepIn K (.ref f__law_read) = true)
    {f__law : Addr} {oc__law kV__law dc__law pm__law cd__law ct__law : Value} {od__law an__law : Option Addr} {sl__law : Array (Option Value)} (a__law : PySem.W.nsIn K mainGlobals "law" = some (some (.ref f__law))) (l__law : K.lookup f__law = some ⟨oc__law, od__law, .func (PySem.W.fnOf "law" "law" (defArgs s_law) (defBody s_law) (defScope s_law) .none kV__law dc__law pm__law an__law cd__law ct__law), sl__law⟩) (c__law : PySem.W.codeIn K cd__law "law" = true) (k__law : PySem.W.keepIn K (.ref f__law) = true)
    (nm_mk : PySem.W.nsIn K mainGlobals mkrN = some none) (hm : RunsTrue N_law.length m_law) :
    LawT PySem.Challenge.pw_dyevats_k36_texts_of_orders w K 6 mg fa h := by
  have e := hfa.symm.trans (PySem.W.mg_of X G a__law)
  cases e
  have hb := blt_of X G hblt
  have T : ∀ base : Heap, Txt PySem.Challenge.pw_dyevats_k36_texts_of_orders w K mg base := fun base =>
    { b := hb,
      E := errF_of (E := [(("DyeError", []), C0), (("BadName", ["name"]), C1), (("UnknownName", ["name"]), C2), (("BadNumber", ["number"]), C3), (("BadStrengths", ["place"]), C4), (("NotDarker", ["top"]), C5), (("BadDeed", ["place"]), C6), (("NothingToUndo", []), C7), (("BadOrder", []), C8), (("WrongTotal", ["offered", "wanted"]), C9), (("CircularPromise", ["dark", "light"]), C10), (("NoPromise", ["promise"]), C11), (("NoOrder", ["stretch"]), C12), (("BadLine", ["line"]), C13)]) ⟨PySem.W.mg_of X G n0, PySem.W.mg_of X G n1, PySem.W.mg_of X G n2, PySem.W.mg_of X G n3, PySem.W.mg_of X G n4, PySem.W.mg_of X G n5, PySem.W.mg_of X G n6, PySem.W.mg_of X G n7, PySem.W.mg_of X G n8, PySem.W.mg_of X G n9, PySem.W.mg_of X G n10, PySem.W.mg_of X G n11, PySem.W.mg_of X G n12, PySem.W.mg_of X G n13, True.intro⟩ hE,
      gDIGITS := ⟨_, PySem.W.mg_of X G gs_DIGITS⟩,
      gLETTERS := ⟨_, PySem.W.mg_of X G gs_LETTERS⟩,
      eBadLine := er_BadLine (initT_of (PySem.W.mg_of X G n13) (hb.at "super") x13 bm_13 y13 m13 ce13 hc13 e13 rfl rfl (fun us hl => by obtain ⟨_, _, rfl⟩ := len2 hl; rfl)),
      t_valid_name := fnT_of X G a__valid_name l__valid_name c__valid_name k__valid_name (fun _ _ _ _ _ _ us hl => by obtain ⟨_, rfl⟩ := len1 hl; rfl),
      t_write_order := fnT_of X G a__write_order l__write_order c__write_order k__write_order (fun _ _ _ _ _ _ us hl => by obtain ⟨_, rfl⟩ := len1 hl; rfl),
      t_read_order := fnT_of X G a__read_order l__read_order c__read_order k__read_order (fun _ _ _ _ _ _ us hl => by obtain ⟨_, rfl⟩ := len1 hl; rfl),
      t_law_cell := fnT_of X G a__law_cell l__law_cell c__law_cell k__law_cell (fun _ _ _ _ _ _ us hl => by obtain ⟨_, _, rfl⟩ := len2 hl; rfl),
      t_law_row := fnT_of X G a__law_row l__law_row c__law_row k__law_row (fun _ _ _ _ _ _ us hl => by obtain ⟨_, _, _, rfl⟩ := len3 hl; rfl),
      t_law_is_int := fnT_of X G a__law_is_int l__law_is_int c__law_is_int k__law_is_int (fun _ _ _ _ _ _ us hl => by obtain ⟨_, rfl⟩ := len1 hl; rfl),
      t_law_names := fnT_of X G a__law_names l__law_names c__law_names k__law_names (fun _ _ _ _ _ _ us hl => by obtain ⟨_, _, rfl⟩ := len2 hl; rfl),
      t_law_valid := fnT_of X G a__law_valid l__law_valid c__law_valid k__law_valid (fun _ _ _ _ _ _ us hl => by obtain ⟨_, rfl⟩ := len1 hl; rfl),
      t_law_free_name := fnT_of X G a__law_free_name l__law_free_name c__law_free_name k__law_free_name (fun _ _ _ _ _ _ us hl => by obtain ⟨_, rfl⟩ := len1 hl; rfl),
      t_law_lists := fnT_of X G a__law_lists l__law_lists c__law_lists k__law_lists (fun _ _ _ _ _ _ us hl => by obtain ⟨_, _, _, rfl⟩ := len3 hl; rfl),
      t_law_lines_spoilt := fnT_of X G a__law_lines_spoilt l__law_lines_spoilt c__law_lines_spoilt k__law_lines_spoilt (fun _ _ _ _ _ _ us hl => by obtain ⟨_, _, rfl⟩ := len2 hl; rfl),
      t_law_spoilt := fnT_of X G a__law_spoilt l__law_spoilt c__law_spoilt k__law_spoilt (fun _ _ _ _ _ _ us hl => by obtain ⟨_, _, rfl⟩ := len2 hl; rfl),
      t_law_expected := fnT_of X G a__law_expected l__law_expected c__law_expected k__law_expected (fun _ _ _ _ _ _ us hl => by obtain ⟨_, rfl⟩ := len1 hl; rfl),
      t_law_told := fnT_of X G a__law_told l__law_told c__law_told k__law_told (fun _ _ _ _ _ _ us hl => by obtain ⟨_, rfl⟩ := len1 hl; rfl),
      t_law_read := fnT_of X G a__law_read l__law_read c__law_read k__law_read (fun _ _ _ _ _ _ us hl => by obtain ⟨_, rfl⟩ := len1 hl; rfl),
      t_law := fnT_of X G a__law l__law c__law k__law (fun _ _ _ _ _ _ us hl => by obtain ⟨_, rfl⟩ := len1 hl; rfl) }
  refine lawT_none X G nm_mk (fun s u => ?_) fun base _ _ => law_fn (fn_v (fun_mk (st := s_law) l__law c__law k__law) sc_law (fun cdv A outer s H E hr => v_law (T base) (k_write_order (T base)) (k_law_cell (T base)) (k_law_row (T base)) (k_law_names (T base)) (k_law_free_name (T base)) (k_law_lists (T base)) (k_law_spoilt (T base)) (k_law_read (T base)) _ cdv A outer s H E hr)) hm
  exact .of_eq rfl
end Kw
namespace Kw
open PySem PySem.Spec PyProof.Rows L2 VL
local macro_rules | `(tactic| walk_at "s") => `(tactic| (rw [wS_seq]; generalize hK : seqK _ _ _ = K; simp [mulOk_lit]; subst hK; try rw [seqK_next]))
local macro_rules | `(tactic| walk_at "if") => `(tactic| (rw [wS_seq, wS_if]; generalize hK : seqK _ _ _ = K; simp [mulOk_lit, wS_seq, wS_if]; (try simp only [joinA, joinB, joinK K, and_assoc]); (try simp); subst hK; try rw [seqK_next]))
local macro_rules | `(tactic| walk_at "for") => `(tactic| (rw [wS_seq, wS_for]; generalize hK : seqK _ _ _ = K; simp [mulOk_lit]; subst hK))
local macro_rules | `(tactic| walk_at "s*") => `(tactic| (rw [wS_seq]; generalize hK : seqK _ _ _ = K; simp [mulOk_lit, *]; subst hK; try rw [seqK_next]))
local macro_rules | `(tactic| walk_at "if*") => `(tactic| (rw [wS_seq, wS_if]; generalize hK : seqK _ _ _ = K; simp [mulOk_lit, *]; (try simp only [joinA, joinB, joinK K, and_assoc]); (try simp); subst hK; try rw [seqK_next]))
local macro_rules | `(tactic| walk_at "gs") => `(tactic| repeat refine And.intro (by omega) ?_)
def LET : List Nat := [97, 98, 99, 100, 101, 102, 103, 104, 105, 106, 107, 108, 109, 110, 111, 112, 113, 114, 115, 116, 117, 118, 119, 120, 121, 122]
@[simp] theorem lit_LET : Str.ofString "abcdefghijklmnopqrstuvwxyz" = tS LET := by decide +kernel
@[simp] theorem len_LET : LET.length = 26 := (rfl)
def DIG : List Nat := [48, 49, 50, 51, 52, 53, 54, 55, 56, 57]
@[simp] theorem lit_DIG : Str.ofString "0123456789" = tS DIG := by decide +kernel
@[simp] theorem len_DIG : DIG.length = 10 := (rfl)
@[simp] theorem lit_2 : Str.ofString "\n" = tS [10] := by decide +kernel
@[simp] theorem lit_3 : Str.ofString " " = tS [32] := by decide +kernel
@[simp] theorem lit_4 : Str.ofString "z" = tS [122] := by decide +kernel
@[simp] theorem lit_empty : Str.ofString "" = tS [] := by decide +kernel
def LT6 : List Nat := [97, 98, 99, 100, 101, 102, 103, 104, 105, 106, 107, 108, 109, 110, 111, 112, 113, 114, 115, 116, 117, 118, 119, 120, 121, 122, 48, 49, 50, 51, 52, 53, 54, 55, 56, 57]
@[simp] theorem lit_LT6 : Str.ofString "abcdefghijklmnopqrstuvwxyz0123456789" = tS LT6 := by decide +kernel
@[simp] theorem len_LT6 : LT6.length = 36 := (rfl)
def BSG : List Nat := [32, 33, 34, 35, 36, 38, 39, 40, 41, 42, 43, 44, 45, 46, 47, 48, 49, 50, 51, 52, 53, 54, 55, 56, 57, 58, 59, 60, 61, 62, 63, 64, 65, 66, 67, 68, 69, 70, 71, 72, 73, 74, 75, 76, 77, 78, 79, 80, 81, 82, 83, 84, 85, 86, 87, 88, 89, 90, 91, 92, 93, 94, 95, 96]
@[simp] theorem lit_BSG : Str.ofString " !\"#$&'()*+,-./0123456789:;<=>?@ABCDEFGHIJKLMNOPQRSTUVWXYZ[\\]^_`" = tS BSG := by decide +kernel
@[simp] theorem len_BSG : BSG.length = 64 := (rfl)
def LT8 : List Nat := [97, 98, 99, 100, 101, 102, 103, 104, 105, 106, 107, 108, 109, 110, 111, 112, 113, 114, 115, 116, 117, 118, 119, 120, 121, 122, 123, 124, 125, 126, 10, 9]
@[simp] theorem lit_LT8 : Str.ofString "abcdefghijklmnopqrstuvwxyz{|}~\n\t" = tS LT8 := by decide +kernel
@[simp] theorem len_LT8 : LT8.length = 32 := (rfl)
@[simp] theorem lit_9 : Str.ofString "9" = tS [57] := by decide +kernel
@[simp] theorem lit_10 : Str.ofString "A" = tS [65] := by decide +kernel
@[simp] theorem lit_w_zz : Str.ofString "zz" = tS [122, 122] := by decide +kernel
@[simp] theorem lit_w_zzzzzzzzzzzz : Str.ofString "zzzzzzzzzzzz" = tS [122, 122, 122, 122, 122, 122, 122, 122, 122, 122, 122, 122] := by decide +kernel
@[simp] theorem lit_13 : Str.ofString "\t" = tS [9] := by decide +kernel
@[simp] theorem lit_w_line : Str.ofString "line" = tS [108, 105, 110, 101] := by decide +kernel
@[simp] theorem lit_w_lists : Str.ofString "lists" = tS [108, 105, 115, 116, 115] := by decide +kernel
@[simp] theorem lit_w_other : Str.ofString "other" = tS [111, 116, 104, 101, 114] := by decide +kernel
def nameOk (l : List Nat) : Bool := decide (1 ≤ l.length ∧ l.length ≤ 12) && (match l with | c :: _ => decide (c ∈ LET) | [] => false) && l.all fun c => decide (c ∈ LET ++ DIG)
theorem r_valid {o : O} {k : Kd} {l : List Nat} (h1 : toArg o = .lf k (.str (tS l))) (hl : l.length ≤ 100000) : callM 2 m_valid_name [o] = .ok (ob (nameOk l)) := by
  refine call_ok ?_
  unfold m_valid_name
  simp only [List.map_cons, List.map_nil, h1]
  rw [wS_seq, wS_if]
  simp
  refine ⟨by omega, ?_⟩
  cases l with
  | nil => simp [nameOk]
  | cons c r =>
    simp
    by_cases h12 : r.length + 1 ≤ 12
    · have h12' : (r.length : Int) + 1 ≤ 12 := by omega
      rw [if_pos (show 1 ≤ (r.length : Int) + 1 by omega)]
      simp [h12']
      by_cases hc : c ∈ LET
      · simp [hc]
        refine ⟨by omega, ?_⟩
        unfold nameOk
        rw [decide_eq_true (show 1 ≤ (c :: r).length ∧ (c :: r).length ≤ 12 from ⟨by simp, by simpa using h12⟩)]
        simp [hc]
      · simp [hc, nameOk]
        omega
    · have h12' : ¬ (r.length : Int) + 1 ≤ 12 := by omega
      have hn : nameOk (c :: r) = false := by
        unfold nameOk
        rw [decide_eq_false (by simp; omega)]; rfl
      simp [h12', hn]
theorem w_cell {ns : List Int} {j : Int} {Q : O → Prop} {E : Exn → Prop} (h : 0 ≤ j) (hj : j ≤ 1000) (k : ∀ c : Int, Q (oi c)) : wR (callM 2 m_law_cell [scrD ns, oi j]) Q E := by
  refine wR_mono (call_wp (P := fun o => ∃ c : Int, o = oi c) ?_) (fun a ⟨c, e⟩ => e ▸ k c)
  unfold m_law_cell
  rw [wS_seq, wS_if]
  simp
  split
  · rename_i h2
    obtain ⟨x, _, e, _⟩ := atI_lt h h2
    exact ⟨x, e⟩
  · exact mulOk_r (by omega) (by omega)
theorem w_row {c n many : Int} {Q : O → Prop} {E : Exn → Prop} (hn : 0 ≤ n) (hn2 : n ≤ 100000) (hm : 0 < many) (hm2 : many.natAbs.log2 < 9000) (k : ∀ xs : List Int, xs.length = n.toNat → (∀ x ∈ xs, 0 ≤ x ∧ x < many) → Q (ol xs)) : wR (callM 7 m_law_row [oi c, oi n, oi many]) Q E := by
  refine wR_mono (call_wp (P := fun o => ∃ xs : List Int, xs.length = n.toNat ∧ (∀ x ∈ xs, 0 ≤ x ∧ x < many) ∧ o = ol xs) ?_) (fun a ⟨c, h1, h2, e⟩ => e ▸ k c h1 h2)
  unfold m_law_row
  have hb0 : ∀ z : Int, 0 ≤ z % 2147483399 ∧ z % 2147483399 < 2147483399 := fun z => by omega
  walk_at "s"
  walk_at "s"
  generalize hM : ((if c < 0 then -c else c) * 48271 + 12345) % 2147483399 = M
  have hM2 := hb0 ((if c < 0 then -c else c) * 48271 + 12345)
  rw [hM] at hM2
  walk_at "s"
  refine ⟨mulOk_r (by omega) (by omega), ?_⟩
  generalize hM : (M * M + 48614) % 2147483399 = M1
  have hM3 := hb0 (M * M + 48614)
  rw [hM] at hM3
  walk_at "if"
  walk_at "s"
  walk_at "for"
  refine ⟨by omega, wS_forN (fun j e => ∃ (r1 m1 : Int) (k1 : Option O) (xs : List Int), 0 ≤ m1 ∧ m1 < 2147483399 ∧ xs.length = j ∧ (∀ x ∈ xs, 0 ≤ x ∧ x < many) ∧ e = [some (oi c), some (oi n), some (oi many), some (oi r1), some (oi m1), some (ol xs), k1]) ?_ ?_ ?_⟩
  · exact ⟨_, _, none, [], hM3.1, hM3.2, rfl, by simp, rfl⟩
  · rintro j _ hj ⟨r1, m1, k1, xs, m0, m2, rfl, hx, rfl⟩
    have e0 : ∀ z : Int, ∀ x ∈ xs ++ [z % many], 0 ≤ x ∧ x < many := fun z x hx' => by
      rcases List.mem_append.mp hx' with h | h
      · exact hx x h
      · have : x = z % many := by simpa using h
        subst this
        exact ⟨Int.emod_nonneg _ (by omega), Int.emod_lt_of_pos _ hm⟩
    refine ⟨_, setA_ok (by simp), ?_⟩
    unfold b_law_row_1
    rw [wS_if]
    simp
    split
    · walk_at "s"
      simp [hm, hm2]
      exact ⟨by omega, _, _, m0, m2, _, xs ++ [_ % many], by simp, e0 _, rfl, rfl, by rw [List.map_append]; rfl, rfl⟩
    · walk_at "s"
      simp [hm, hm2]
      exact ⟨by omega, _, _, (hb0 _).1, (hb0 _).2, _, xs ++ [_ % many], by simp, e0 _, rfl, rfl, by rw [List.map_append]; rfl, rfl⟩
  · rintro _ ⟨r1, m1, k1, xs, m0, m2, h1, hx, rfl⟩
    simp
    exact ⟨_, h1, hx, rfl⟩
@[simp] theorem s_is_int {n : Int} : callM 1 m_law_is_int [oi n] = .ok (ob true) := rfl
@[simp] theorem s_is_int_non : callM 1 m_law_is_int [.lf .fz .non] = .ok (ob false) := rfl
def txOk (x : List Nat) : Bool := x.all fun c => decide (c < 1114112)
theorem tx_pl {l : List Nat} (h : txOk l = true) {n : Nat} : (D.str (tS l)).pl n = true := by rw [pl_str, strOk_tS]; exact h
theorem gEq_txs {a b : List Nat} {k k' : Kd} (ha : txOk a = true) (hb : txOk b = true) : gEq (.lf k (.str (tS a))) (.lf k' (.str (tS b))) = .ok (ob (decide (a = b))) := by
  rw [gEq_pl (show (O.er (.lf k (.str (tS a)))).pl 60 = true from tx_pl ha) (show (O.er (.lf k' (.str (tS b)))).pl 60 = true from tx_pl hb)]
  show VL.R.ok (ob (decide (D.str (tS a) = D.str (tS b)))) = _
  simp
theorem gNe_eq {o p : O} {d : D} (h1 : o.er = d) (h2 : p.er = d) (hp : d.pl 60 = true) : gNe o p = .ok (ob false) := by
  rw [gNe_pl (by rw [h1]; exact hp) (by rw [h2]; exact hp), h1, h2]; simp
theorem gEq_eq {o p : O} {d : D} (h1 : o.er = d) (h2 : p.er = d) (hp : d.pl 60 = true) : gEq o p = .ok (ob true) := by
  rw [gEq_pl (by rw [h1]; exact hp) (by rw [h2]; exact hp), h1, h2]; simp
theorem txs_pl {r : List (List Nat)} (h : ∀ x ∈ r, txOk x = true) {n : Nat} : (D.lst (r.map tD)).pl (n + 1) = true := by
  rw [pl_lst, pls_map]
  exact List.all_eq_true.mpr fun x hx => tx_pl (h x hx)
theorem nameOk_tx {l : List Nat} (h : nameOk l = true) : txOk l = true := by
  unfold nameOk at h
  rw [Bool.and_eq_true] at h
  unfold txOk
  refine List.all_eq_true.mpr fun c hc => ?_
  have := List.all_eq_true.mp h.2 c hc
  simp only [decide_eq_true_eq] at this ⊢
  have key : ∀ c ∈ LET ++ DIG, c < 1114112 := by decide
  exact key c this
def nmB (C : List Nat) (p a s : Nat) : List Nat := if 0 < p then a :: (C.take p ++ s :: C.drop p).drop 1 else C.take p ++ s :: C.drop p
theorem nmB_at {C : List Nat} {p a s : Nat} (hp : p ≤ C.length) : (nmB C p a s)[p]? = some s := by
  have e : (C.take p ++ s :: C.drop p)[p]? = some s := by
    rw [List.getElem?_append_right (by rw [List.length_take]; omega), List.length_take, Nat.min_eq_left hp, Nat.sub_self]; rfl
  unfold nmB
  split
  · rename_i h
    obtain ⟨q, rfl⟩ : ∃ q, p = q + 1 := ⟨p - 1, by omega⟩
    rw [List.getElem?_cons_succ, List.getElem?_drop, Nat.add_comm 1 q]
    exact e
  · exact e
theorem nmB_len {C : List Nat} {p a s : Nat} (hp : p ≤ C.length) : (nmB C p a s).length = C.length + 1 := by
  unfold nmB
  split <;> simp <;> omega
theorem nmB_ok {C : List Nat} {p a s : Nat} (hC : ∀ c ∈ C, c ∈ LET ++ DIG) (ha : a ∈ LET) (hs : s ∈ LET) : (∃ c r, nmB C p a s = c :: r ∧ c ∈ LET) ∧ ∀ c ∈ nmB C p a s, c ∈ LET ++ DIG := by
  have up : ∀ c ∈ LET, c ∈ LET ++ DIG := fun c h => List.mem_append_left _ h
  have all : ∀ c ∈ C.take p ++ s :: C.drop p, c ∈ LET ++ DIG := fun c h => by
    simp only [List.mem_append, List.mem_cons] at h
    rcases h with h | h | h
    · exact hC c (List.mem_of_mem_take h)
    · exact h ▸ up s hs
    · exact hC c (List.mem_of_mem_drop h)
  unfold nmB
  split
  · refine ⟨⟨_, _, rfl, ha⟩, fun c hc => ?_⟩
    rcases List.mem_cons.mp hc with h | h
    · exact h ▸ up a ha
    · exact all c (List.mem_of_mem_drop h)
  · rename_i h
    have : p = 0 := by omega
    subst this
    exact ⟨⟨_, _, rfl, hs⟩, all⟩
theorem nameOk_of {l : List Nat} (h1 : 1 ≤ l.length) (h2 : l.length ≤ 12) (h3 : ∃ c r, l = c :: r ∧ c ∈ LET) (h4 : ∀ c ∈ l, c ∈ LET ++ DIG) : nameOk l = true := by
  obtain ⟨c, r, rfl, hc⟩ := h3
  unfold nameOk
  simp only [Bool.and_eq_true, decide_eq_true_eq, List.all_eq_true]
  exact ⟨⟨⟨h1, h2⟩, hc⟩, h4⟩
theorem LET_at : ∀ n : Fin 26, LET[n.val]? = some (97 + n.val) := by decide
theorem LET_get {x : Int} (h : 0 ≤ x ∧ x < 26) : atI LET x = some (97 + x.toNat) := by
  obtain ⟨n, rfl⟩ : ∃ n : Nat, x = n := ⟨x.toNat, by omega⟩
  rw [atI_cast, Int.toNat_natCast]
  exact LET_at ⟨n, by omega⟩
theorem LET_mem {x : Int} (h : 0 ≤ x ∧ x < 26) : 97 + x.toNat ∈ LET := List.mem_of_getElem? (LET_at ⟨x.toNat, by omega⟩)
def sgK (r : Int) (k : Nat) : Nat := 97 + ((r + 7 * (k : Int)) % 26).toNat
def sgC (x : Int) : Nat := (LET ++ DIG)[x.toNat]?.getD 0
theorem sgC_get {x : Int} (h : 0 ≤ x ∧ x < 36) : atI (LET ++ DIG) x = some (sgC x) ∧ sgC x ∈ LET ++ DIG := by
  obtain ⟨y, hy, e1, e2⟩ := atI_lt (xs := LET ++ DIG) h.1 (by show x < 36; exact h.2)
  unfold sgC
  rw [e1, e2]
  exact ⟨rfl, hy⟩
theorem join_sg {α : Type} {f : α → Nat} : ∀ {xs : List α}, ((xs.map fun x => tS [f x]).map fun y : Str => y.length).sum = xs.length ∧ ((xs.map fun x => tS [f x]).map fun y : Str => y.cps.toList).flatten = xs.map f
  | [] => ⟨rfl, rfl⟩
  | x :: r => by
    obtain ⟨a, b⟩ := join_sg (f := f) (xs := r)
    rw [List.map_cons, List.map_cons, List.sum_cons, a, List.map_cons, List.flatten_cons, b, List.length_cons, Nat.add_comm]
    exact ⟨rfl, rfl⟩
def nmZ (C : List Nat) (p a s z : Nat) : List Nat := nmB C p a s ++ List.replicate z 122
def zN (r : Int) (k : Nat) : Nat := (r % 2).toNat * (k % 3)
theorem zN_le {r : Int} {k : Nat} : zN r k ≤ 2 := by
  unfold zN
  have h : (r % 2).toNat = 0 ∨ (r % 2).toNat = 1 := by omega
  rcases h with h | h <;> rw [h] <;> omega
theorem zN_eq {r : Int} {k : Nat} : (r % 2 * ((k : Int) % 3)).toNat = zN r k := by
  unfold zN
  have h : r % 2 = 0 ∨ r % 2 = 1 := by omega
  rcases h with h | h <;> rw [h] <;> simp <;> omega
theorem zz_b {r : Int} {j : Nat} : 0 ≤ r % 2 * ((j : Int) % 3) ∧ r % 2 * ((j : Int) % 3) ≤ 2 := by
  have h2 : r % 2 = 0 ∨ r % 2 = 1 := by omega
  rcases h2 with h2 | h2 <;> rw [h2] <;> omega
theorem nmZ_ok {C : List Nat} {p a s z : Nat} (hp : p ≤ C.length) (hl : C.length ≤ 9) (hz : z ≤ 2) (hC : ∀ c ∈ C, c ∈ LET ++ DIG) (ha : a ∈ LET) (hs : s ∈ LET) : nameOk (nmZ C p a s z) = true := by
  have hz2 : (122 : Nat) ∈ LET ++ DIG := by decide
  obtain ⟨⟨c, r, e, hc⟩, h⟩ := nmB_ok (C := C) (p := p) (a := a) (s := s) hC ha hs
  have hbl := nmB_len (C := C) (p := p) (a := a) (s := s) hp
  unfold nmZ
  refine nameOk_of (by simp; omega) (by simp; omega) ⟨c, _, by rw [e]; rfl, hc⟩ fun c hc => ?_
  rcases List.mem_append.mp hc with q | q
  · exact h c q
  · exact (List.mem_replicate.mp q).2 ▸ hz2
theorem sgK_inj20 {r : Int} {i j : Nat} (hi : i < 20) (hj : j < 20) (h : sgK r i = sgK r j) : i = j := by
  unfold sgK at h
  omega
theorem nmZ_inj {C : List Nat} {p a i j : Nat} {r w : Int} (hp : p ≤ C.length) (hi : i < 20) (hj : j < 20) (h : nmZ C p a (sgK r i) (zN w i) = nmZ C p a (sgK r j) (zN w j)) : i = j := by
  unfold nmZ at h
  refine sgK_inj20 (r := r) hi hj ?_
  have := congrArg (fun l => l[p]?) h
  rw [List.getElem?_append_left (by rw [nmB_len hp]; omega), List.getElem?_append_left (by rw [nmB_len hp]; omega), nmB_at hp, nmB_at hp] at this
  exact Option.some.inj this
def nmsZ (C : List Nat) (p a : Nat) (w r : Int) (j : Nat) : List (List Nat) := (List.range j).map fun i => nmZ C p a (sgK r i) (zN w i)
theorem nmsZ_nodup {C : List Nat} {p a j : Nat} {w r : Int} (hp : p ≤ C.length) (hj : j ≤ 20) : (nmsZ C p a w r j).Nodup := by
  unfold nmsZ
  rw [List.Nodup, List.pairwise_map]
  refine (List.nodup_range (n := j)).imp_of_mem fun {x y} hx hy ne e => ne ?_
  rw [List.mem_range] at hx hy
  exact nmZ_inj hp (by omega) (by omega) e
theorem w_names {c n : Int} {Q : O → Prop} {E : Exn → Prop} (h1 : 1 ≤ n) (h6 : n ≤ 20) (k : ∀ ns : List (List Nat), ns.length = n.toNat → ns.Nodup → (∀ l ∈ ns, nameOk l = true) → Q (.lst (ns.map fun x => oS x))) : wR (callM 12 m_law_names [oi c, oi n]) Q E := by
  refine wR_mono (call_wp (P := fun o => ∃ ns : List (List Nat), ns.length = n.toNat ∧ ns.Nodup ∧ (∀ l ∈ ns, nameOk l = true) ∧ o = .lst (ns.map fun x => oS x)) ?_) (fun a ⟨F, h1, h2, h3, e⟩ => e ▸ k F h1 h2 h3)
  unfold m_law_names
  walk_at "s"
  walk_at "s"
  walk_at "s"
  refine w_row (by omega) (by omega) (by omega) (by decide) fun R hR hRb => ?_
  simp at hR
  have at_ : ∀ i : Nat, i < 14 → ∃ x, R[i]? = some x ∧ 0 ≤ x ∧ x < 36 := fun i h1 => by
    have e : R[i]? = some R[i] := List.getElem?_eq_getElem (by omega)
    exact ⟨_, e, hRb _ (List.mem_of_getElem? e)⟩
  obtain ⟨r0, e0, b0⟩ := at_ 0 (by omega)
  obtain ⟨r1, e1, b1⟩ := at_ 1 (by omega)
  obtain ⟨r2, e2, b2⟩ := at_ 2 (by omega)
  obtain ⟨r12, e12, b12⟩ := at_ 12 (by omega)
  obtain ⟨r13, e13, b13⟩ := at_ 13 (by omega)
  simp
  rw [wS_seq]
  generalize hK : seqK _ _ _ = K
  simp [e0]
  subst hK
  rw [seqK_next]
  obtain ⟨S, hS, hS0, hS9⟩ : ∃ S : Int, S = r0 % 10 ∧ 0 ≤ S ∧ S ≤ 9 := ⟨_, rfl, by omega, by omega⟩
  rw [← hS]
  rw [wS_seq]
  generalize hK : seqK _ _ _ = K
  simp [e1]
  refine ⟨by omega, ?_⟩
  obtain ⟨p, hp, hp0, hp1⟩ : ∃ p : Int, p = r1 % (S + 1) ∧ 0 ≤ p ∧ p ≤ S := ⟨_, rfl, Int.emod_nonneg _ (by omega), by have := Int.emod_lt_of_pos r1 (show 0 < S + 1 by omega); omega⟩
  rw [← hp]
  subst hK
  rw [seqK_next, wS_seq]
  generalize hK : seqK _ _ _ = K
  simp
  refine ⟨by omega, by omega, ?_⟩
  rw [lcF_ofM (fun x : Nat => oS [sgC ((R[2 + x]?).getD 0)]) (fun x hx => ?_) (fun _ _ => rfl)]
  · simp
    rw [gJoin_nil (ys := (List.range S.toNat).map fun x : Nat => tS [sgC ((R[2 + x]?).getD 0)]) (by simp)]
    rw [join_sg.1, join_sg.2]
    simp
    refine ⟨by omega, ?_⟩
    obtain ⟨C, hC, hC2, hC3⟩ : ∃ C : List Nat, C = (List.range S.toNat).map (fun x : Nat => sgC ((R[2 + x]?).getD 0)) ∧ C.length = S.toNat ∧ ∀ c ∈ C, c ∈ LET ++ DIG := by
      refine ⟨_, rfl, by simp, fun c hc => ?_⟩
      obtain ⟨x, hx, rfl⟩ := List.mem_map.mp hc
      rw [List.mem_range] at hx
      obtain ⟨y, ey, yb⟩ := at_ (2 + x) (by omega)
      rw [ey]
      exact (sgC_get yb).2
    rw [← hC]
    subst hK
    rw [seqK_next]
    have ha := LET_get (x := r2 % 26) (by omega)
    walk_at "s"
    walk_at "for"
    have hpC : p.toNat ≤ C.length := by omega
    refine ⟨by omega, wS_forNE (fun v j e => ∃ z z2 z3, e = (((v.set 8 (some (.lst ((nmsZ C p.toNat (97 + (r2 % 26).toNat) r13 r12 j).map fun x => oS x)))).set 9 z).set 10 z2).set 11 z3) ⟨none, none, none, rfl⟩ ?_ ?_⟩
    · rintro j _ hj ⟨z, z2, z3, rfl⟩
      refine ⟨_, rfl, ?_⟩
      have hj6 : j < 20 := by omega
      unfold b_law_names_1
      have hs := LET_get (x := (r12 + 7 * (j : Int)) % 26) (by omega)
      rw [wS_seq]
      generalize hK : seqK _ _ _ = K
      simp [e12, hs]
      subst hK
      rw [seqK_next]
      rw [wS_seq]
      generalize hK : seqK _ _ _ = K
      simp
      rw [cutA_to' hp0, cutA_from' hp0]
      have l1 : (C.take p.toNat).length ≤ 9 := by rw [List.length_take]; omega
      have l2 : (C.drop p.toNat).length ≤ 9 := by rw [List.length_drop]; omega
      refine ⟨by omega, by omega, by omega, by omega, ?_⟩
      subst hK
      rw [seqK_next]
      have hbl := nmB_len (C := C) (p := p.toNat) (a := 97 + (r2 % 26).toNat) (s := sgK r12 j) hpC
      have hzl : zN r13 j ≤ 2 := zN_le
      rw [wS_seq]
      generalize hK : seqK _ _ _ = K
      simp [e13, mulOk_r (a := r13 % 2) (b := (j : Int) % 3) (by omega) (by omega)]
      rw [zN_eq]
      obtain ⟨w2, hw2, hw20, hw22⟩ : ∃ w2, w2 = r13 % 2 * ((j : Int) % 3) ∧ 0 ≤ w2 ∧ w2 ≤ 2 := ⟨_, rfl, zz_b⟩
      rw [← hw2]
      refine ⟨⟨by omega, by omega, by omega⟩, by omega, ?_⟩
      subst hK
      rw [seqK_next]
      refine wS_cut (fun e => e = [some (oi c), some (oi n), some (oS LET), some (oS (LET ++ DIG)), some (.lf .fz (iL R)), some (oi S), some (oi p), some (oS C), some (.lst ((nmsZ C p.toNat (97 + (r2 % 26).toNat) r13 r12 j).map fun x => oS x)), some (oi j), some (oS [97 + ((r12 + 7 * (j : Int)) % 26).toNat]), some (oS (nmZ C p.toNat (97 + (r2 % 26).toNat) (sgK r12 j) (zN r13 j)))]) ?_ ?_
      · rw [wS_if]
        unfold nmZ nmB sgK
        by_cases h : 0 < p
        · simp [h, e2, ha]
          rw [cutA_from' (by omega)]
          have : 0 < p.toNat := by omega
          simp [this]
          refine ⟨by omega, by omega, ?_⟩
          rw [show ∀ (a b z : List Nat) (s : Nat), a ++ s :: (b ++ z) = (a ++ s :: b) ++ z from fun a b z s => by simp]
          exact List.tail_append_of_ne_nil (by simp)
        · have : ¬ 0 < p.toNat := by omega
          simp [h, this]
      rintro _ rfl
      have hfin : nmsZ C p.toNat (97 + (r2 % 26).toNat) r13 r12 (j + 1) = nmsZ C p.toNat (97 + (r2 % 26).toNat) r13 r12 j ++ [nmZ C p.toNat (97 + (r2 % 26).toNat) (sgK r12 j) (zN r13 j)] := by unfold nmsZ; rw [List.range_succ, List.map_append]; rfl
      have hln : (nmsZ C p.toNat (97 + (r2 % 26).toNat) r13 r12 j).length = j := by unfold nmsZ; simp
      rw [hfin]
      simp [hln]
      omega
    · rintro _ ⟨z, z2, z3, rfl⟩
      rw [seqK_next]
      simp only [List.set_cons_succ, List.set_cons_zero]
      simp
      refine ⟨nmsZ C p.toNat (97 + (r2 % 26).toNat) r13 r12 n.toNat, by unfold nmsZ; simp, nmsZ_nodup hpC (by omega), fun l hl => ?_, rfl⟩
      unfold nmsZ at hl
      obtain ⟨i, hi, rfl⟩ := List.mem_map.mp hl
      exact nmZ_ok hpC (by omega) zN_le hC3 (LET_mem (by omega)) (LET_mem (by omega))
  · rw [List.mem_range] at hx
    obtain ⟨y, ey, yb⟩ := at_ (2 + x) (by omega)
    rw [show (2 + (x : Int)) = ((2 + x : Nat) : Int) by omega, atI_cast, ey]
    simp [(sgC_get yb).1]
abbrev rowD (r : List (List Nat)) : D := .lst (r.map tD)
abbrev ordD (R : List (List (List Nat))) : D := .lst (R.map rowD)
abbrev rowsO (R : List (List (List Nat))) : O := .lst (R.map fun r => .lst (r.map oS))
def linR (l : List Nat) : List (List (List Nat)) := (spC 10 l).map (spC 32)
def rowOk (r : List (List Nat)) : Bool := r.all nameOk
theorem r_lvalid {o : O} {k : Kd} {l : List Nat} (h1 : toArg o = .lf k (.str (tS l))) (hl : l.length ≤ 100000) : callM 3 m_law_valid [o] = .ok (ob (nameOk l)) := by
  refine call_ok ?_
  unfold m_law_valid
  simp only [List.map_cons, List.map_nil, h1]
  walk_at "s"
  rw [wS_seq, wS_if]
  simp
  refine ⟨by omega, ?_⟩
  cases l with
  | nil => simp [nameOk]
  | cons c r =>
    simp
    by_cases h12 : r.length + 1 ≤ 12
    · have h12' : (r.length : Int) + 1 ≤ 12 := by omega
      rw [if_pos (show 1 ≤ (r.length : Int) + 1 by omega)]
      simp [h12']
      by_cases hc : c ∈ LET
      · simp [hc]
        refine ⟨by omega, ?_⟩
        unfold nameOk
        rw [decide_eq_true (show 1 ≤ (c :: r).length ∧ (c :: r).length ≤ 12 from ⟨by simp, by simpa using h12⟩)]
        simp [hc]
      · simp [hc, nameOk]
        omega
    · have h12' : ¬ (r.length : Int) + 1 ≤ 12 := by omega
      have hn : nameOk (c :: r) = false := by
        unfold nameOk
        rw [decide_eq_false (by simp; omega)]; rfl
      simp [h12', hn]
theorem g_lvalid {a b c d : Option O} {ws : List (List Nat)} {z : Option O} (hw : ∀ w ∈ ws, w.length ≤ 100000) (hl : ws.length ≤ 100000) :
    gLc [5] (jSq (eVar 4)) (asgN 5) tYesM (eN (callM 3 m_law_valid) (aCons (eVar 5) aNil)) (dl [a, b, c, d, some (.lst (ws.map oS)), z]) = .ok (.lst (ws.map fun w => ob (nameOk w))) := by
  simp
  rw [lcF_ofM (fun w => ob (nameOk w)) (fun w hw' => ?_) (fun _ _ => rfl)]
  · simp
    rw [gd_pos (by omega)]
  · simp [r_lvalid (o := oS w) (k := .fz) toArg_ok (hw w hw')]
theorem g_valid {a b c d : Option O} {ws : List (List Nat)} {z : Option O} (hw : ∀ w ∈ ws, w.length ≤ 100000) (hl : ws.length ≤ 100000) :
    gLc [5] (jSq (eVar 4)) (asgN 5) tYesM (eN (callM 2 m_valid_name) (aCons (eVar 5) aNil)) (dl [a, b, c, d, some (.lst (ws.map oS)), z]) = .ok (.lst (ws.map fun w => ob (nameOk w))) := by
  simp
  rw [lcF_ofM (fun w => ob (nameOk w)) (fun w hw' => ?_) (fun _ _ => rfl)]
  · simp
    rw [gd_pos (by omega)]
  · simp [r_valid (o := oS w) (k := .fz) toArg_ok (hw w hw')]
theorem t_allB {m : DEnv → VL.R O} {env : DEnv} {ws : List (List Nat)} {f : List Nat → Bool} (h : m env = .ok (.lst (ws.map fun w => ob (f w)))) : tNotM (tTru (eN (f1 VL.allB) (aCons m aNil))) env = .ok (!(ws.all f)) := by
  unfold tNotM tTru eN aCons aNil
  simp only [h, R.bind]
  simp [Function.comp_def]
abbrev sLine : List Nat := [108, 105, 110, 101]
abbrev sLists : List Nat := [108, 105, 115, 116, 115]
def badL (R : List (List (List Nat))) : Option Nat := R.findIdx? fun r => !rowOk r
def expO (R : List (List (List Nat))) : O := match badL R with
  | some j => .tup [oS sLine, oi ((j : Int) + 1)]
  | none => .tup [oS sLists, rowsO R]
theorem badL_some {R : List (List (List Nat))} {j : Nat} {r : List (List Nat)} (h1 : R[j]? = some r) (h2 : rowOk r = false) (h3 : ∀ i < j, ∀ s, R[i]? = some s → rowOk s = true) : badL R = some j := by
  unfold badL
  rw [List.findIdx?_eq_some_iff_getElem]
  obtain ⟨hj, e⟩ := List.getElem?_eq_some_iff.mp h1
  refine ⟨hj, by rw [e, h2]; rfl, fun i hi => ?_⟩
  rw [h3 i hi _ (List.getElem?_eq_getElem (by omega))]
  decide
theorem badL_none {R : List (List (List Nat))} (h3 : ∀ i < R.length, ∀ s, R[i]? = some s → rowOk s = true) : badL R = none := by
  unfold badL
  rw [List.findIdx?_eq_none_iff]
  intro r hr
  obtain ⟨i, hi, e⟩ := List.mem_iff_getElem.mp hr
  rw [h3 i hi r (by rw [List.getElem?_eq_getElem hi, e])]
  rfl
theorem lin_b {l : List Nat} (hl : l.length ≤ 50000) : (linR l).length ≤ 50001 ∧ ∀ r ∈ linR l, r.length ≤ 50001 ∧ ∀ w ∈ r, w.length ≤ 50000 ∧ ∀ x ∈ w, x ∈ l := by
  unfold linR
  refine ⟨by rw [List.length_map]; have := spC_len (c := 10) (l := l); omega, fun r hr => ?_⟩
  obtain ⟨p, hp, rfl⟩ := List.mem_map.mp hr
  obtain ⟨h1, h2⟩ := spC_mem hp
  refine ⟨by have := spC_len (c := 32) (l := p); omega, fun w hw => ?_⟩
  obtain ⟨h3, h4⟩ := spC_mem hw
  exact ⟨by omega, fun x hx => h2 x (h4 x hx)⟩
theorem r_expected {o : O} {k : Kd} [KOk k] {l : List Nat} (h1 : toArg o = .lf k (.str (tS l))) (hl : l.length ≤ 50000) : callM 6 m_law_expected [o] = .ok (expO (linR l)) := by
  have hb := lin_b hl
  have hL := spC_len (c := 10) (l := l)
  refine call_ok ?_
  unfold m_law_expected
  simp only [List.map_cons, List.map_nil, h1]
  rw [show startE 6 [O.lf k (.str (tS l))] = [some (.lf k (.str (tS l))), none, none, none, none, none] from rfl]
  refine wS_cut (fun e => e = [some (.lf k (.str (tS l))), some (.lst []), none, none, none, none]) ?_ ?_
  · simp
  rintro _ rfl
  refine wS_cut (fun e => e = [some (.lf k (.str (tS l))), some (.lst []), some (.lf .fz (.lst ((spC 10 l).map tD))), none, none, none]) ?_ ?_
  · simp
    omega
  rintro _ rfl
  walk_at "for"
  refine ⟨by omega, wS_forNE (fun v j e => (∀ i < j, ∀ s, (linR l)[i]? = some s → rowOk s = true) ∧ ∃ z3 z4 z5, e = [some (.lf k (.str (tS l))), some (rowsO ((linR l).take j)), some (.lf .fz (.lst ((spC 10 l).map tD))), z3, z4, z5]) ⟨fun i hi => by omega, none, none, none, rfl⟩ ?_ ?_⟩
  · rintro j _ hj ⟨hp, z3, z4, z5, rfl⟩
    refine ⟨_, rfl, ?_⟩
    have hj' : j < (linR l).length := by unfold linR; rw [List.length_map]; exact hj
    have er : (linR l)[j]? = some (linR l)[j] := List.getElem?_eq_getElem hj'
    obtain ⟨hr1, hr2⟩ := hb.2 _ (List.mem_of_getElem? er)
    have er2 : (linR l)[j] = spC 32 (spC 10 l)[j] := by simp [linR]
    obtain ⟨hp1, _⟩ := spC_mem (List.getElem_mem hj)
    unfold b_law_expected_1
    refine wS_cut (fun e => e = [some (.lf k (.str (tS l))), some (rowsO ((linR l).take j)), some (.lf .fz (.lst ((spC 10 l).map tD))), some (oi j), some (.lst ((linR l)[j].map oS)), z5]) ?_ ?_
    · rw [er2]
      simp [List.getElem?_eq_getElem hj]
      omega
    rintro _ rfl
    have hg := g_lvalid (a := some (.lf k (.str (tS l)))) (b := some (rowsO ((linR l).take j))) (c := some (.lf .fz (.lst ((spC 10 l).map tD)))) (d := some (oi j)) (ws := (linR l)[j]) (z := z5) (fun w hw => by have := (hr2 w hw).1; omega) (by omega)
    cases hq : rowOk (linR l)[j] with
    | true =>
      refine wS_cut (fun e => e = [some (.lf k (.str (tS l))), some (rowsO ((linR l).take j)), some (.lf .fz (.lst ((spC 10 l).map tD))), some (oi j), some (.lst ((linR l)[j].map oS)), z5]) ?_ ?_
      · rw [wS_if]
        refine wR_of (a := false) ?_ ?_
        · exact (t_allB hg).trans (by unfold rowOk at hq; rw [hq]; rfl)
        · rw [if_neg (by simp), wS_next]; rfl
      rintro _ rfl
      have eT : (linR l).take (j + 1) = (linR l).take j ++ [(linR l)[j]] := List.take_succ_eq_append_getElem hj'
      simp [wX_appX]
      refine ⟨by omega, fun i hi s hs => ?_, ?_⟩
      · by_cases h : i < j
        · exact hp i h s hs
        · have : i = j := by omega
          subst this
          rw [er] at hs
          cases hs
          exact hq
      · rw [List.take_succ_eq_append_getElem (by simpa using hj')]
        simp
    | false =>
      have eb := badL_some er hq (fun i hi => hp i hi)
      rw [wS_seq, wS_if]
      refine wR_of (a := true) ?_ ?_
      · exact (t_allB hg).trans (by unfold rowOk at hq; rw [hq]; rfl)
      · rw [if_pos rfl]
        unfold expO
        rw [eb]
        simp
  · rintro _ ⟨hp, z3, z4, z5, rfl⟩
    have en : badL (linR l) = none := badL_none fun i hi => hp i (by unfold linR at hi; rw [List.length_map] at hi; exact hi)
    rw [seqK_next, show (linR l).take (spC 10 l).length = linR l from List.take_of_length_le (by unfold linR; rw [List.length_map]; exact Nat.le_refl _)]
    unfold expO
    rw [en]
    simp
theorem w_read0 {o : O} {k : Kd} [KOk k] {l : List Nat} (h1 : toArg o = .lf k (.str (tS l))) (hl : l.length ≤ 50000) : wR (callM 6 m_read_order [o]) (fun o => badL (linR l) = none ∧ o = rowsO (linR l)) (fun x => ∃ j, badL (linR l) = some j ∧ x = ⟨"BadLine", ["line"], [oi ((j : Int) + 1)]⟩) := by
  have hb := lin_b hl
  have hL := spC_len (c := 10) (l := l)
  refine call_wp ?_
  unfold m_read_order
  simp only [List.map_cons, List.map_nil, h1]
  rw [show startE 6 [O.lf k (.str (tS l))] = [some (.lf k (.str (tS l))), none, none, none, none, none] from rfl]
  refine wS_cut (fun e => e = [some (.lf k (.str (tS l))), some (.lst []), none, none, none, none]) ?_ ?_
  · simp
  rintro _ rfl
  walk_at "for"
  refine ⟨by omega, wS_forE (fun pre e => (∀ i < pre.length, ∀ s, (linR l)[i]? = some s → rowOk s = true) ∧ ∃ z2 z3 z4 z5, e = [some (.lf k (.str (tS l))), some (rowsO ((linR l).take pre.length)), z2, z3, z4, z5]) ⟨fun i hi => by simp at hi, none, none, none, none, rfl⟩ ?_ ?_⟩
  · rintro pre x post _ hx ⟨hp, z2, z3, z4, z5, rfl⟩
    refine ⟨_, rfl, ?_⟩
    have hx' : linR l = pre.map (spC 32) ++ spC 32 x :: post.map (spC 32) := by unfold linR; rw [hx]; simp
    have hj' : pre.length < (linR l).length := by rw [hx']; simp
    have er : (linR l)[pre.length]? = some (spC 32 x) := by rw [hx', List.getElem?_append_right (by simp)]; simp
    have et : (linR l).take (pre.length + 1) = (linR l).take pre.length ++ [spC 32 x] := by
      rw [List.take_succ, er]; rfl
    obtain ⟨hr1, hr2⟩ := hb.2 _ (List.mem_of_getElem? er)
    obtain ⟨hp1, _⟩ := spC_mem (c := 10) (l := l) (p := x) (by rw [hx]; simp)
    generalize hT : (linR l).take pre.length = T at et
    have hTl : T.length ≤ 50001 := by rw [← hT, List.length_take]; omega
    unfold b_read_order_1
    refine wS_cut (fun e => e = [some (.lf k (.str (tS l))), some (rowsO T), some (oi pre.length), some (.lf .fz (.str (tS x))), some (.lst ((spC 32 x).map oS)), z5]) ?_ ?_
    · simp
      omega
    rintro _ rfl
    have hg := g_valid (a := some (.lf k (.str (tS l)))) (b := some (rowsO T)) (c := some (oi pre.length)) (d := some (.lf .fz (.str (tS x)))) (ws := spC 32 x) (z := z5) (fun w hw => by have := (hr2 w hw).1; omega) (by omega)
    cases hq : rowOk (spC 32 x) with
    | true =>
      refine wS_cut (fun e => e = [some (.lf k (.str (tS l))), some (rowsO T), some (oi pre.length), some (.lf .fz (.str (tS x))), some (.lst ((spC 32 x).map oS)), z5]) ?_ ?_
      · rw [wS_if]
        refine wR_of (a := false) ?_ ?_
        · exact (t_allB hg).trans (by unfold rowOk at hq; rw [hq]; rfl)
        · rw [if_neg (by simp), wS_next]; rfl
      rintro _ rfl
      simp [wX_appX]
      refine ⟨by omega, fun i hi s hs => ?_, by rw [← List.map_take, et, List.map_append]; rfl⟩
      by_cases h : i < pre.length
      · exact hp i h s hs
      · have : i = pre.length := by omega
        subst this
        rw [er] at hs
        cases hs
        exact hq
    | false =>
      have eb := badL_some er hq (fun i hi => hp i hi)
      rw [wS_seq, wS_if]
      refine wR_of (a := true) ?_ ?_
      · exact (t_allB hg).trans (by unfold rowOk at hq; rw [hq]; rfl)
      · rw [if_pos rfl, eb]
        simp
  · rintro _ ⟨hp, z2, z3, z4, z5, rfl⟩
    have hll : (linR l).length = (spC 10 l).length := by unfold linR; rw [List.length_map]
    have en : badL (linR l) = none := badL_none fun i hi => hp i (by rw [← hll]; exact hi)
    rw [seqK_next, show (linR l).take (spC 10 l).length = linR l from List.take_of_length_le (by rw [hll]; exact Nat.le_refl _), en]
    simp
theorem r_ltold {o : O} {k : Kd} [KOk k] {l : List Nat} (h1 : toArg o = .lf k (.str (tS l))) (hl : l.length ≤ 50000) : callM 2 m_law_told [o] = .ok (expO (linR l)) := by
  have e := w_read0 (o := oS l) (k := .fz) rfl hl
  refine call_ok ?_
  unfold m_law_told
  simp only [List.map_cons, List.map_nil, h1]
  rw [wS_seq, wS_try]
  unfold expO
  cases he : callM 6 m_read_order [oS l] with
  | no => rw [he] at e; simp at e
  | ok a =>
    rw [he] at e
    simp at e
    obtain ⟨hb, rfl⟩ := e
    rw [hb]
    simp [he]
  | ex x =>
    rw [he] at e
    simp at e
    obtain ⟨j, hb, rfl⟩ := e
    rw [hb]
    simp [he, errs, Errs.has, Errs.fl, subE]
    rw [wS_seq, wS_if]
    simp [errs, Errs.has, Errs.fl, subE]
    rw [wS_seq, wS_if]
    simp [errs, Errs.has, Errs.fl, subE]
    rw [wS_if]
    simp [errs, Errs.has, Errs.fl, subE]
abbrev sZ : List Nat := [122]
def expD (R : List (List (List Nat))) : D := match badL R with
  | some j => .tup [.str (tS sLine), .int ((j : Int) + 1)]
  | none => .tup [.str (tS sLists), ordD R]
theorem rows_er {R : List (List (List Nat))} : (rowsO R).er = ordD R := by
  show D.lst (O.ers _) = _
  rw [O.ers_eq, List.map_map]
  congr 1
  refine List.map_congr_left fun r _ => ?_
  show D.lst (O.ers _) = _
  rw [O.ers_eq, List.map_map]
  rfl
theorem exp_er {R : List (List (List Nat))} : (expO R).er = expD R := by
  unfold expO expD
  cases badL R with
  | some j => rfl
  | none =>
    show D.tup [.str (tS sLists), (rowsO R).er] = _
    rw [rows_er]
theorem ord_pl {R : List (List (List Nat))} (h : ∀ r ∈ R, ∀ w ∈ r, txOk w = true) {n : Nat} : (ordD R).pl (n + 2) = true := by
  rw [pl_lst, pls_map]
  exact List.all_eq_true.mpr fun r hr => txs_pl (h r hr)
theorem exp_pl {R : List (List (List Nat))} (h : ∀ r ∈ R, ∀ w ∈ r, txOk w = true) : (expD R).pl 60 = true := by
  unfold expD
  cases badL R with
  | some j =>
    show ((D.str (tS sLine)).pl 59 && (true && true)) = true
    rw [tx_pl (by decide)]
    rfl
  | none =>
    show ((D.str (tS sLists)).pl 59 && ((ordD R).pl 59 && true)) = true
    rw [ord_pl h, tx_pl (by decide)]
    rfl
theorem rows_no {R : List (List (List Nat))} : (rowsO R).no notFz = true := by
  show O.nos notFz _ = true
  rw [O.nos_eq, List.all_map]
  refine List.all_eq_true.mpr fun r _ => ?_
  show O.nos notFz _ = true
  rw [O.nos_eq, List.all_map]
  exact List.all_eq_true.mpr fun _ _ => rfl
theorem lst_lfk_er {k : Kd} (ds : List D) : (O.lst (ds.map (lfk k))).er = .lst ds := by
  show D.lst (O.ers _) = _
  rw [O.ers_eq, List.map_map]
  congr 1
  have : (O.er ∘ lfk k) = id := funext fun d => lfk_er k d
  rw [this, List.map_id]
theorem r_lread {l : List Nat} (hl : l.length ≤ 50000) (ht : txOk l = true) : callM 5 m_law_read [oS l] = .ok (ob true) := by
  have hb := lin_b hl
  have htx : ∀ r ∈ linR l, ∀ w ∈ r, txOk w = true := fun r hr w hw => List.all_eq_true.mpr fun x hx => List.all_eq_true.mp ht x (((hb.2 r hr).2 w hw).2 x hx)
  have e1 := r_expected (o := oS l) (k := .fz) rfl hl
  have e2 := r_ltold (o := oS l) (k := .fz) rfl hl
  have hpl := exp_pl htx
  refine call_ok ?_
  unfold m_law_read
  rw [show startE 5 ([oS l].map toArg) = [some (oS l), none, none, none, none] from rfl]
  refine wS_cut (fun e => e = [some (oS l), some (.lf .fz (expD (linR l))), none, none, none]) ?_ ?_
  · unfold expO at e1
    unfold expD
    cases hB : badL (linR l) <;> rw [hB] at e1 <;> simp [e1]
  rintro _ rfl
  refine wS_cut (fun e => e = [some (oS l), some (.lf .fz (expD (linR l))), some (expO (linR l)), none, none]) ?_ ?_
  · unfold expO at e2 ⊢
    cases hB : badL (linR l) <;> rw [hB] at e2 <;> simp [e2]
  rintro _ rfl
  have hgE : ∀ {o : O}, o.er = expD (linR l) → gEq o (.lf .fz (expD (linR l))) = .ok (ob true) := fun {o} h => gEq_eq h rfl hpl
  have hgN : ∀ {o : O}, o.er = expD (linR l) → gNe o (.lf .fz (expD (linR l))) = .ok (ob false) := fun {o} h => gNe_eq h rfl hpl
  have her := exp_er (R := linR l)
  have hQ : ∀ a b : List Nat, txOk a = true → txOk b = true → gEq (oS a) (oS b) = .ok (ob (decide (a = b))) := fun a b h1 h2 => gEq_txs h1 h2
  cases hB : badL (linR l) with
  | some j =>
    have hO : expO (linR l) = .tup [oS sLine, oi ((j : Int) + 1)] := by unfold expO; rw [hB]
    rw [hO] at her ⊢
    have hE := hgE (o := .lf .fz (.tup [.str (tS sLine), .int ((j : Int) + 1)])) her
    rw [wS_seq, wS_if]
    refine wR_of (a := true) ?_ ?_
    · simp [hQ sLine sLine (by decide) (by decide)]
    · rw [if_pos rfl]
      generalize expD (linR l) = Z at hE
      simp [hE]
  | none =>
    have hO : expO (linR l) = .tup [oS sLists, rowsO (linR l)] := by unfold expO; rw [hB]
    rw [hO] at her ⊢
    have hN := hgN her
    have hNt := hgN (o := .lf .tb (.tup [.str (tS sLists), ordD (linR l)])) (by unfold expD; rw [hB]; rfl)
    have hD : expD (linR l) = .tup [.str (tS sLists), ordD (linR l)] := by unfold expD; rw [hB]
    rw [hD] at hN hNt ⊢
    refine wS_cut (fun e => e = [some (oS l), some (.lf .fz (.tup [.str (tS sLists), ordD (linR l)])), some (.tup [oS sLists, rowsO (linR l)]), none, none]) ?_ ?_
    · rw [wS_if]
      refine wR_of (a := false) ?_ ?_
      · simp [hQ sLists sLine (by decide) (by decide)]
      · rw [if_neg (by simp), wS_next]; rfl
    rintro _ rfl
    refine wS_cut (fun e => e = [some (oS l), some (.lf .fz (.tup [.str (tS sLists), ordD (linR l)])), some (.tup [oS sLists, rowsO (linR l)]), none, none]) ?_ ?_
    · rw [wS_if]
      refine wR_of (a := false) ?_ ?_
      · simp
        show (((gNe (.lf .tb (.tup [.str (tS sLists), ordD (linR l)])) (.lf .fz (.tup [.str (tS sLists), ordD (linR l)]))).bind asB).bind fun b => if b = true then VL.R.ok true else VL.R.ok false) = _
        rw [hNt]
        rfl
      · rw [if_neg (by simp), wS_next]; rfl
    rintro _ rfl
    refine wS_cut (fun e => e = [some (oS l), some (.lf .fz (.tup [.str (tS sLists), ordD (linR l)])), some (.tup [oS sLists, rowsO (linR l)]), none, none]) ?_ ?_
    · have hno : O.no notFz (.tup [oS sLists, rowsO (linR l)]) = true := by
        show O.nos notFz [oS sLists, rowsO (linR l)] = true
        simp only [O.nos, rows_no]
        rfl
      refine wS_lend (o := .tup [oS sLists, rowsO (linR l)]) rfl hno rfl ?_
      rw [show (O.er (.tup [oS sLists, rowsO (linR l)])) = .tup [.str (tS sLists), ordD (linR l)] by show D.tup [.str (tS sLists), (rowsO (linR l)).er] = _; rw [rows_er]]
      simp only [List.set_cons_succ, List.set_cons_zero]
      generalize linR l = R at *
      rw [wS_for]
      simp
      refine wS_forX R (fun r => setA 3 (.lf .bo (rowD r))) rfl (fun v pre e => ∃ z, e = v.set 3 z ∧ (z = none ∨ ∃ r, z = some (.lf .bo (rowD r)))) ⟨none, rfl, .inl rfl⟩ ?_ ?_
      · rintro pre r post _ hx ⟨z, rfl, _⟩
        refine ⟨_, rfl, ?_⟩
        have hr := (hb.2 r (by rw [hx]; simp)).1
        unfold b_law_read_1
        rw [wS_if]
        refine wR_of (a := false) ?_ ?_
        · simp
          rw [gd_pos (by omega)]
          simp
        · rw [if_neg (by simp), wS_next]
          exact ⟨_, rfl, .inr ⟨r, rfl⟩⟩
      · rintro _ ⟨z, rfl, hz⟩
        rcases hz with rfl | ⟨r, rfl⟩ <;> rfl
    rintro _ rfl
    obtain ⟨r0, R', eR⟩ : ∃ r0 R', linR l = r0 :: R' := by
      cases h : linR l with
      | nil =>
        exfalso
        unfold linR at h
        exact spC_ne (List.map_eq_nil_iff.mp h)
      | cons r0 R' => exact ⟨r0, R', rfl⟩
    rw [eR] at hb htx ⊢
    have hr0 := (hb.2 r0 (by simp)).1
    have hRl := hb.1
    rw [List.length_cons] at hRl
    refine wS_cut (fun e => e = [some (oS l), some (.lf .fz (.tup [.str (tS sLists), ordD (r0 :: R')])), some (.tup [oS sLists, rowsO ((r0 ++ [sZ]) :: R')]), none, none]) ?_ ?_
    · rw [wS_drop, wX_appAt (i := 2) (p := [1, 0]) (os := r0.map oS) (pIx_at (oi' := oi 0) (o' := oi 0) (os := (r0 :: R').map fun r => O.lst (r.map oS)) (pIxT_at (oi' := oi 1) (pName_at rfl).1 (pName_at rfl).2 rfl rfl rfl) rfl rfl rfl (by rw [show (0 : Int) = ((0 : Nat) : Int) from rfl, ixN_nat, if_pos (by simp)])) rfl]
      simp
      refine ⟨by omega, ?_⟩
      rw [show r0.map oS ++ [.lf .fz (.str (tS [122]))] = (r0 ++ [sZ]).map oS by simp]
      rfl
    rintro _ rfl
    refine wS_cut (fun e => e = [some (oS l), some (.lf .fz (.tup [.str (tS sLists), ordD (r0 :: R')])), some (.tup [oS sLists, rowsO ((r0 ++ [sZ]) :: R')]), none, none]) ?_ ?_
    · rw [wS_if]
      refine wR_of (a := false) ?_ ?_
      · simp
        rw [cutA_from' (by decide), cutA_from' (by decide)]
        show (gNe (.lst (R'.map rowD |>.map (lfk .tb))) (.lst (R'.map rowD |>.map (lfk .fz)))).bind asB = _
        rw [gNe_eq (d := ordD R') (lst_lfk_er _) (lst_lfk_er _) (ord_pl fun r hr w hw => htx r (List.mem_cons_of_mem _ hr) w hw)]
        rfl
      · rw [if_neg (by simp), wS_next]; rfl
    rintro _ rfl
    rw [wS_seq, wS_drop, wX_appAt (i := 2) (p := [1]) (os := ((r0 ++ [sZ]) :: R').map fun r => O.lst (r.map oS)) (pIxT_at (oi' := oi 1) (pName_at rfl).1 (pName_at rfl).2 rfl rfl rfl) rfl]
    simp
    omega
structure Tx (n : Nat) (l : List Nat) : Prop where
  ln : l.length ≤ n
  tx : txOk l = true
theorem tx_app {a b : List Nat} (h : txOk a = true) (h2 : txOk b = true) : txOk (a ++ b) = true := by
  unfold txOk at h h2 ⊢
  rw [List.all_append, h, h2]
  rfl
theorem tx_mem {l m : List Nat} (h : txOk l = true) (hm : ∀ x ∈ m, x ∈ l) : txOk m = true := List.all_eq_true.mpr fun x hx => List.all_eq_true.mp h x (hm x hx)
theorem sig_get {L : List Nat} (hL : txOk L = true) {x : Int} (h : 0 ≤ x) (h2 : x < L.length) : ∃ c, atI L x = some c ∧ c < 1114112 := by
  obtain ⟨c, hm, e, _⟩ := atI_lt h h2
  exact ⟨c, e, of_decide_eq_true (List.all_eq_true.mp hL c hm)⟩
theorem LT6_tx : txOk LT6 = true := by decide +kernel
theorem tx_sg {c : Nat} (h : c < 1114112) : txOk [c] = true := by unfold txOk; simp [h]
theorem w_free {c : Int} {Q : O → Prop} {E : Exn → Prop} (k : ∀ l : List Nat, Tx 13 l → Q (oS l)) : wR (callM 5 m_law_free_name [oi c]) Q E := by
  refine wR_mono (call_wp (P := fun o => ∃ l, Tx 13 l ∧ o = oS l) ?_) (fun a ⟨l, h, e⟩ => e ▸ k l h)
  unfold m_law_free_name
  walk_at "s"
  walk_at "s"
  refine w_row (by omega) (by omega) (by omega) (by decide) fun R hR hRb => ?_
  simp at hR
  have at_ : ∀ i : Nat, i < 13 → ∃ x, R[i]? = some x ∧ 0 ≤ x ∧ x < 36 := fun i h1 => by
    have e : R[i]? = some R[i] := List.getElem?_eq_getElem (by omega)
    exact ⟨_, e, hRb _ (List.mem_of_getElem? e)⟩
  obtain ⟨r0, e0, b0⟩ := at_ 0 (by omega)
  obtain ⟨r1, e1, b1⟩ := at_ 1 (by omega)
  obtain ⟨c1, ec1, hc1⟩ := sig_get LT6_tx (x := r1 % 26) (by omega) (by simp; omega)
  simp
  refine wS_cut (fun e => e = [some (oi c), some (oS LT6), some (.lf .fz (iL R)), some (oS [c1]), none]) ?_ ?_
  · simp [e1, ec1]
  rintro _ rfl
  rw [wS_seq, wS_for]
  simp [e0]
  refine ⟨by omega, wS_forN (fun j e => ∃ l z, Tx (j + 1) l ∧ e = [some (oi c), some (oS LT6), some (.lf .fz (iL R)), some (oS l), z]) ?_ ?_ ?_⟩
  · exact ⟨[c1], none, ⟨by simp, tx_sg hc1⟩, rfl⟩
  · rintro j _ hj ⟨l, z, hl, rfl⟩
    refine ⟨_, rfl, ?_⟩
    obtain ⟨r2, e2, b2⟩ := at_ (2 + j) (by omega)
    obtain ⟨c2, ec2, hc2⟩ := sig_get LT6_tx (x := r2) (by omega) (by simp; omega)
    unfold b_law_free_name_1
    have := hl.ln
    have e2' : atI R (2 + (j : Int)) = some r2 := by rw [show 2 + (j : Int) = ((2 + j : Nat) : Int) by omega, atI_cast]; exact e2
    simp [e2', ec2]
    exact ⟨by omega, by simp; omega, tx_app hl.tx (tx_sg hc2)⟩
  · rintro _ ⟨l, z, hl, rfl⟩
    rw [seqK_next]
    simp
    exact ⟨by have := hl.ln; omega, hl.tx⟩
theorem w_lists {o1 o2 o3 : O} {k1 k2 k3 : Kd} [KOk k1] [KOk k2] [KOk k3] {S P : List Int} {N : List (List Nat)} {Q : O → Prop} {E : Exn → Prop} (h1 : toArg o1 = .lf k1 (iL S)) (h2 : toArg o2 = .lf k2 (iL P)) (h3 : toArg o3 = .lf k3 (.lst (N.map tD)))
    (hS : S.length ≤ 8) (hSb : ∀ x ∈ S, 1 ≤ x ∧ x ≤ 6) (hP : P.length = 48) (hPb : ∀ x ∈ P, 0 ≤ x ∧ x < 6) (hN : N.length = 6) (hNt : ∀ l ∈ N, Tx 13 l)
    (k : ∀ R : List (List (List Nat)), R.length ≤ 8 → (∀ r ∈ R, r.length ≤ 6 ∧ ∀ l ∈ r, Tx 13 l) → Q (rowsO R)) : wR (callM 7 m_law_lists [o1, o2, o3]) Q E := by
  refine wR_mono (call_wp (P := fun o => ∃ R : List (List (List Nat)), R.length ≤ 8 ∧ (∀ r ∈ R, r.length ≤ 6 ∧ ∀ l ∈ r, Tx 13 l) ∧ o = rowsO R) ?_) (fun a ⟨R, h, h', e⟩ => e ▸ k R h h')
  unfold m_law_lists
  simp only [List.map_cons, List.map_nil, h1, h2, h3]
  rw [show startE 7 [O.lf k1 (iL S), O.lf k2 (iL P), O.lf k3 (.lst (N.map tD))] = [some (.lf k1 (iL S)), some (.lf k2 (iL P)), some (.lf k3 (.lst (N.map tD))), none, none, none, none] from rfl]
  refine wS_cut (fun e => e = [some (.lf k1 (iL S)), some (.lf k2 (iL P)), some (.lf k3 (.lst (N.map tD))), some (.lst []), none, none, none]) ?_ ?_
  · simp
  rintro _ rfl
  refine wS_cut (fun e => e = [some (.lf k1 (iL S)), some (.lf k2 (iL P)), some (.lf k3 (.lst (N.map tD))), some (.lst []), some (oi 0), none, none]) ?_ ?_
  · simp
  rintro _ rfl
  rw [wS_seq, wS_for]
  simp
  refine wS_forX S (fun x => setA 5 (oi x)) rfl (fun v pre e => ∃ R z, R.length = pre.length ∧ (∀ r ∈ R, r.length ≤ 6 ∧ ∀ l ∈ r, Tx 13 l) ∧ e = [some (.lf k1 (iL S)), some (.lf k2 (iL P)), some (.lf k3 (.lst (N.map tD))), some (rowsO R), some (oi pre.sum), z, none]) ⟨[], none, rfl, by simp, rfl⟩ ?_ ?_
  · rintro pre x post _ hx ⟨R, z, hR, hr, rfl⟩
    refine ⟨_, rfl, ?_⟩
    unfold b_law_lists_1
    have hxb := hSb x (by rw [hx]; simp)
    have hpre : pre.length + 1 ≤ 8 := by
      have := congrArg List.length hx
      simp at this
      omega
    have hsum : 0 ≤ pre.sum ∧ pre.sum ≤ 6 * (pre.length : Int) := by
      have : ∀ q : List Int, (∀ y ∈ q, 1 ≤ y ∧ y ≤ 6) → 0 ≤ q.sum ∧ q.sum ≤ 6 * (q.length : Int) := fun q => by
        induction q with
        | nil => intro _; simp
        | cons y q ih =>
          intro h
          have h1 := h y (by simp)
          have h2 := ih fun w hw => h w (List.mem_cons_of_mem _ hw)
          rw [List.sum_cons, List.length_cons]
          omega
      exact this pre fun y hy => hSb y (by rw [hx]; exact List.mem_append_left _ hy)
    have hel : ∀ i : Nat, i < x.toNat → ∃ p l, atI P (pre.sum + (i : Int)) = some p ∧ atI N p = some l ∧ Tx 13 l := fun i hi => by
      obtain ⟨p, hp, e, _⟩ := atI_lt (xs := P) (i := pre.sum + (i : Int)) (by omega) (by rw [hP]; omega)
      have hb := hPb p hp
      obtain ⟨l, hl, e2, _⟩ := atI_lt (xs := N) (i := p) (by omega) (by rw [hN]; omega)
      exact ⟨p, l, e, e2, hNt l hl⟩
    obtain ⟨f, hf⟩ : ∃ f : Nat → List Nat, ∀ i : Nat, i < x.toNat → ∃ p, atI P (pre.sum + (i : Int)) = some p ∧ atI N p = some (f i) ∧ Tx 13 (f i) := by
      refine ⟨fun i => (atI N ((atI P (pre.sum + (i : Int))).getD 0)).getD [], fun i hi => ?_⟩
      obtain ⟨p, l, e1, e2, h⟩ := hel i hi
      refine ⟨p, e1, ?_⟩
      simp only [e1, Option.getD_some, e2]
      exact ⟨trivial, h⟩
    refine wS_cut (fun e => e = [some (.lf k1 (iL S)), some (.lf k2 (iL P)), some (.lf k3 (.lst (N.map tD))), some (rowsO (R ++ [(List.range x.toNat).map f])), some (oi pre.sum), some (oi x), none]) ?_ ?_
    · rw [wS_drop]
      simp
      refine ⟨by omega, by omega, ?_⟩
      rw [lcF_ofM (fun i : Nat => oS (f i)) (fun i hi => ?_) (fun _ _ => rfl)]
      · simp
        omega
      · rw [List.mem_range] at hi
        obtain ⟨p, e1, e2, _⟩ := hf i hi
        simp [e1, e2]
    rintro _ rfl
    simp
    refine ⟨R ++ [(List.range x.toNat).map f], by simp [hR], fun r hr' => ?_, by simp⟩
    rcases List.mem_append.mp hr' with h | h
    · exact hr r h
    · rw [List.mem_singleton] at h
      subst h
      refine ⟨by simp; omega, fun l hl => ?_⟩
      obtain ⟨i, hi, rfl⟩ := List.mem_map.mp hl
      rw [List.mem_range] at hi
      obtain ⟨p, _, _, h⟩ := hf i hi
      exact h
  · rintro _ ⟨R, z, hR, hr, rfl⟩
    rw [seqK_next]
    simp
    exact ⟨R, by omega, hr, rfl⟩
def ordT (R : List (List (List Nat))) : List Nat := jnL [10] (R.map (jnL [32]))
structure OrOk (R : List (List (List Nat))) : Prop where
  ln : R.length ≤ 8
  rs : ∀ r ∈ R, r.length ≤ 6 ∧ ∀ l ∈ r, Tx 13 l
theorem sum_le {n : Nat} : ∀ {ys : List (List Nat)}, (∀ y ∈ ys, y.length ≤ n) → (ys.map List.length).sum ≤ ys.length * n
  | [], _ => by simp
  | y :: ys, h => by
    rw [List.map_cons, List.sum_cons, List.length_cons, Nat.add_mul]
    have := sum_le (fun z hz => h z (List.mem_cons_of_mem _ hz))
    have := h y (by simp)
    omega
theorem OrOk.rl {R : List (List (List Nat))} (h : OrOk R) : ∀ r ∈ R, (r.map List.length).sum + r.length * 1 ≤ 84 ∧ (jnL [32] r).length ≤ 84 := fun r hr => by
  obtain ⟨h1, h2⟩ := h.rs r hr
  have h3 := sum_le (n := 13) (ys := r) (fun y hy => (h2 y hy).ln)
  have h4 := jnL_len (m := [32]) (ys := r)
  have e : ([32] : List Nat).length = 1 := rfl
  rw [e] at h4
  omega
theorem OrOk.tl {R : List (List (List Nat))} (h : OrOk R) : ((R.map (jnL [32])).map List.length).sum + R.length * 1 ≤ 680 ∧ Tx 680 (ordT R) := by
  have h3 := sum_le (n := 84) (ys := R.map (jnL [32])) (fun y hy => by
    obtain ⟨r, hr, rfl⟩ := List.mem_map.mp hy
    exact (h.rl r hr).2)
  have h4 := jnL_len (m := [10]) (ys := R.map (jnL [32]))
  have e : ([10] : List Nat).length = 1 := rfl
  rw [e] at h4
  rw [List.length_map] at h3 h4
  have := h.ln
  refine ⟨by omega, by unfold ordT; omega, List.all_eq_true.mpr fun x hx => ?_⟩
  rcases jnL_mem hx with h1 | ⟨p, hp, h1⟩
  · rw [List.mem_singleton] at h1; subst h1; decide
  · obtain ⟨r, hr, rfl⟩ := List.mem_map.mp hp
    rcases jnL_mem h1 with h1 | ⟨w, hw, h1⟩
    · rw [List.mem_singleton] at h1; subst h1; decide
    · exact List.all_eq_true.mp ((h.rs r hr).2 w hw).tx x h1
theorem j_row {k : Kd} {r : List (List Nat)} (h : (r.map List.length).sum + r.length * 1 ≤ 84) : gJoin (oS [32]) (.lf k (rowD r)) = .ok (oS (jnL [32] r)) := by
  have e : ((O.lf k (rowD r)).er.seq.bind strsOf) = some (r.map tS) := by
    show strsOf (r.map tD) = _
    exact strsOf_map
  rw [show oS [32] = .lf .fz (.str (tS [32])) from rfl, gJoin_S (ys := r) e, gd_pos (by show _ + _ * 1 ≤ _; omega)]
theorem j_all {R : List (List (List Nat))} (h : OrOk R) : gJoin (oS [10]) (.lst (R.map fun r => oS (jnL [32] r))) = .ok (oS (ordT R)) := by
  have e : ((O.lst (R.map fun r => oS (jnL [32] r))).er.seq.bind strsOf) = some ((R.map (jnL [32])).map tS) := by
    show strsOf (O.ers _) = _
    rw [O.ers_eq, List.map_map, List.map_map]
    exact strsOf_map
  have := h.tl.1
  rw [show oS [10] = .lf .fz (.str (tS [10])) from rfl, gJoin_S (ys := R.map (jnL [32])) e, gd_pos (by rw [List.length_map]; show _ + _ * 1 ≤ _; omega)]
  rfl
theorem r_write {o : O} {k : Kd} [KOk k] {R : List (List (List Nat))} (h1 : toArg o = .lf k (ordD R)) (h : OrOk R) : callM 2 m_write_order [o] = .ok (oS (ordT R)) := by
  refine call_ok ?_
  unfold m_write_order
  simp only [List.map_cons, List.map_nil, h1]
  rw [show startE 2 [O.lf k (ordD R)] = [some (.lf k (ordD R)), none] from rfl]
  simp
  refine ⟨by have := h.ln; omega, ?_⟩
  rw [lcF_ofM (fun r => oS (jnL [32] r)) (fun r hr => j_row (h.rl r hr).1) (fun _ _ => rfl), wR_ok, j_all h]
  simp
theorem no_kind {c kd : Int} {m : VEnv → RS} {env : VEnv} {Q : Ct → VEnv → Prop} {E : Exn → VEnv → Prop} (h2 : env[2]? = some (some (oi kd))) (h : kd ≠ c) (k : Q .next env) : wS (sIf (tOfE (e2 gEq (eVar 2) (eC (.int c)))) m sNext env) Q E := by
  rw [wS_if]
  refine wR_of (a := false) ?_ ?_
  · simp [h2, h]
  · rw [if_neg (by simp), wS_next]; exact k
theorem yes_kind {c : Int} {m : VEnv → RS} {env : VEnv} {Q : Ct → VEnv → Prop} {E : Exn → VEnv → Prop} (h2 : env[2]? = some (some (oi c))) (k : wS (m env) Q E) : wS (sIf (tOfE (e2 gEq (eVar 2) (eC (.int c)))) m sNext env) Q E := by
  rw [wS_if]
  refine wR_of (a := true) ?_ ?_
  · simp [h2]
  · rw [if_pos rfl]; exact k
theorem no_kind3 {c kd : Int} {x : DEnv → VL.R Bool} {m : VEnv → RS} {env : VEnv} {Q : Ct → VEnv → Prop} {E : Exn → VEnv → Prop} (h2 : env[2]? = some (some (oi kd))) (h : kd ≠ c) (k : Q .next env) : wS (sIf (tAndM (tOfE (e2 gEq (eVar 2) (eC (.int c)))) x) m sNext env) Q E := by
  rw [wS_if]
  refine wR_of (a := false) ?_ ?_
  · simp [h2, h]
  · rw [if_neg (by simp), wS_next]; exact k
theorem set3 {L : List (List Nat)} {j a : Nat} {x : List Nat} {me : DEnv → VL.R O} {env : VEnv} {Q : Ct → VEnv → Prop} {E : Exn → VEnv → Prop} (h3 : env[3]? = some (some (.lst (L.map oS)))) (h4 : env[j]? = some (some (oi a))) (ha : a < L.length) (hx : me (VL.dl env) = .ok (oS x))
    (k : Q .next (env.set 3 (some (.lst ((L.set a x).map oS))))) : wS (sSetIx me (pName 3) (eVar j) env) Q E := by
  rw [wS_setIxP (i := 3) (p := []) (os := L.map oS) (o := oS x) (k := (a : Int)) (n := a) (oi' := oi a) hx (pName_at h3).1 (pName_at h3).2 (by simp [h4]) rfl (by rw [ixN_nat, if_pos (by simpa using ha)]) rfl]
  have e : setP env 3 [] (.lst ((L.map oS).set a (oS x))) = env.set 3 (some (.lst ((L.set a x).map oS))) := by
    unfold setP
    rw [h3, List.map_set]
    rfl
  rw [e]
  exact k
theorem fin_join {a b c d e f : Option O} {L : List (List Nat)} {P : O → Prop} {E : Exn → VEnv → Prop} (hl : (L.map List.length).sum + L.length ≤ 1000000) (h : P (oS (jnL [10] L))) :
    wS (sRet (pur (eMeth isSO gJoin (eC (.str "\n")) (eVar 3))) [a, b, c, some (.lst (L.map oS)), d, e, f]) (retK P) E := by
  have ej : ∀ o : O, o.er = .lst (L.map tD) → gJoin (.lf .fz (.str (tS [10]))) o = .ok (oS (jnL [10] L)) := fun o ho => by
    rw [gJoin_S (ys := L) (by rw [ho]; exact strsOf_map), gd_pos (by show _ + _ * 1 ≤ _; omega)]
  simp
  rw [ej _ rfl]
  simp [h]
def SpOk (n : Nat) (o : O) : Prop := ∃ l, Tx (3 * n + 20) l ∧ o = oS l
theorem jn_ok {n : Nat} {L : List (List Nat)} (h1 : (L.map List.length).sum + L.length ≤ 3 * n + 20) (h2 : ∀ p ∈ L, txOk p = true) : SpOk n (oS (jnL [10] L)) := by
  refine ⟨_, ⟨?_, List.all_eq_true.mpr fun x hx => ?_⟩, rfl⟩
  · have h4 := jnL_len (m := [10]) (ys := L)
    have e : ([10] : List Nat).length = 1 := rfl
    rw [e] at h4
    omega
  · rcases jnL_mem hx with h | ⟨p, hp, h⟩
    · rw [List.mem_singleton] at h; subst h; decide
    · exact List.all_eq_true.mp (h2 p hp) x h
theorem set_sum {L : List (List Nat)} {i : Nat} {x : List Nat} : ((L.set i x).map List.length).sum ≤ (L.map List.length).sum + x.length := by
  induction L generalizing i with
  | nil => simp
  | cons y L ih =>
    cases i with
    | zero => simp; omega
    | succ i => have := @ih i; simp at this ⊢; omega
theorem set_tx {L : List (List Nat)} {i : Nat} {x : List Nat} (h : ∀ p ∈ L, txOk p = true) (hx : txOk x = true) : ∀ p ∈ L.set i x, txOk p = true := fun p hp => by
  rcases List.mem_or_eq_of_mem_set hp with h1 | h1
  · exact h p h1
  · exact h1 ▸ hx
theorem w_lspoilt {k : Kd} {l : List Nat} {r0 r1 r2 r3 r4 : Int} {Q : O → Prop} {E : Exn → Prop} (hl : l.length ≤ 40000) (ht : txOk l = true) (h0 : 0 ≤ r0) (h1 : 0 ≤ r1) (h2 : 0 ≤ r2) (kk : ∀ o, SpOk l.length o → Q o) :
    wR (callM 7 m_law_lines_spoilt [oS l, .lf .fz (iL [r0, r1, r2, r3, r4])]) Q E := by
  refine wR_mono (call_wp (P := fun o => SpOk l.length o) ?_) (fun a h => kk a h)
  have hL := spC_len (c := 10) (l := l)
  have hs := spC_sum (c := 10) (l := l)
  have hp := spC_pos (c := 10) (l := l)
  have htx : ∀ p ∈ spC 10 l, txOk p = true := fun p h => tx_mem ht (spC_mem h).2
  have hln : ∀ p ∈ spC 10 l, p.length ≤ l.length := fun p h => (spC_mem h).1
  unfold m_law_lines_spoilt
  rw [show startE 7 ([oS l, .lf .fz (iL [r0, r1, r2, r3, r4])].map toArg) = [some (oS l), some (.lf .fz (iL [r0, r1, r2, r3, r4])), none, none, none, none, none] from rfl]
  generalize hLL : spC 10 l = L at *
  refine wS_cut (fun e => e = [some (oS l), some (.lf .fz (iL [r0, r1, r2, r3, r4])), some (oi (r0 % 6)), none, none, none, none]) ?_ ?_
  · simp
  rintro _ rfl
  refine wS_cut (fun e => e = [some (oS l), some (.lf .fz (iL [r0, r1, r2, r3, r4])), some (oi (r0 % 6)), some (.lst (L.map oS)), none, none, none]) ?_ ?_
  · simp [hLL]
    omega
  rintro _ rfl
  obtain ⟨a, ha, hal⟩ : ∃ a : Nat, r1 % (L.length : Int) = (a : Int) ∧ a < L.length := ⟨(r1 % (L.length : Int)).toNat, by have := Int.emod_nonneg r1 (show (L.length : Int) ≠ 0 by omega); omega, by have := Int.emod_lt_of_pos r1 (show (0 : Int) < L.length by omega); have := Int.emod_nonneg r1 (show (L.length : Int) ≠ 0 by omega); omega⟩
  obtain ⟨b, hb, hbl⟩ : ∃ b : Nat, r2 % (L.length : Int) = (b : Int) ∧ b < L.length := ⟨(r2 % (L.length : Int)).toNat, by have := Int.emod_nonneg r2 (show (L.length : Int) ≠ 0 by omega); omega, by have := Int.emod_lt_of_pos r2 (show (0 : Int) < L.length by omega); have := Int.emod_nonneg r2 (show (L.length : Int) ≠ 0 by omega); omega⟩
  refine wS_cut (fun e => e = [some (oS l), some (.lf .fz (iL [r0, r1, r2, r3, r4])), some (oi (r0 % 6)), some (.lst (L.map oS)), some (oi a), none, none]) ?_ ?_
  · simp [ha]
    omega
  rintro _ rfl
  refine wS_cut (fun e => e = [some (oS l), some (.lf .fz (iL [r0, r1, r2, r3, r4])), some (oi (r0 % 6)), some (.lst (L.map oS)), some (oi a), some (oi b), none]) ?_ ?_
  · simp [hb]
    omega
  rintro _ rfl
  obtain ⟨kd, hkd, hkb⟩ : ∃ kd : Int, kd = r0 % 6 ∧ 0 ≤ kd ∧ kd < 6 := ⟨_, rfl, by omega, by omega⟩
  rw [← hkd]
  have hga : L[a]? = some L[a] := List.getElem?_eq_getElem hal
  have hgb : L[b]? = some L[b] := List.getElem?_eq_getElem hbl
  have ma := List.getElem_mem hal
  have mb := List.getElem_mem hbl
  -- 0
  by_cases c0 : kd = 0
  · subst c0
    rw [wS_seq]
    refine yes_kind rfl ?_
    simp
    exact ⟨by omega, l ++ [10], ⟨by simp; omega, tx_app ht (by decide)⟩, rfl⟩
  rw [wS_seq]
  refine no_kind rfl c0 ?_
  rw [seqK_next, wS_seq]
  -- 1
  by_cases c1 : kd = 1
  · subst c1
    refine yes_kind rfl (set3 (x := []) (a := a) rfl rfl hal (by simp) ?_)
    rw [seqK_next, wS_seq]
    refine no_kind rfl (by decide) ?_
    rw [seqK_next, wS_seq]
    refine no_kind3 rfl (by decide) ?_
    rw [seqK_next, wS_seq]
    refine no_kind rfl (by decide) ?_
    rw [seqK_next, wS_seq]
    refine no_kind rfl (by decide) ?_
    rw [seqK_next]
    have q := set_sum (L := L) (i := a) (x := [])
    simp at q
    exact fin_join (by simp; omega) (jn_ok (by simp; omega) (set_tx htx rfl))
  refine no_kind rfl c1 ?_
  rw [seqK_next, wS_seq]
  -- 2
  by_cases c2 : kd = 2
  · subst c2
    refine yes_kind rfl ?_
    refine wS_cut (fun e => e = [some (oS l), some (.lf .fz (iL [r0, r1, r2, r3, r4])), some (oi 2), some (.lst (L.map oS)), some (oi a), some (oi b), some (oS L[a])]) ?_ ?_
    · simp [hga]
    rintro _ rfl
    rw [wS_seq]
    refine set3 (x := L[b]) (a := a) rfl rfl hal (by simp [hgb]) ?_
    rw [seqK_next]
    refine set3 (L := L.set a L[b]) (x := L[a]) (a := b) rfl rfl (by simpa using hbl) (by simp) ?_
    rw [seqK_next, wS_seq]
    refine no_kind3 rfl (by decide) ?_
    rw [seqK_next, wS_seq]
    refine no_kind rfl (by decide) ?_
    rw [seqK_next, wS_seq]
    refine no_kind rfl (by decide) ?_
    rw [seqK_next]
    have q := set_sum (L := L.set a L[b]) (i := b) (x := L[a])
    have q2 := set_sum (L := L) (i := a) (x := L[b])
    have q3 := hln _ ma
    have q4 := hln _ mb
    exact fin_join (by rw [List.length_set, List.length_set]; omega) (jn_ok (by rw [List.length_set, List.length_set]; omega) (set_tx (set_tx htx (htx _ mb)) (htx _ ma)))
  refine no_kind rfl c2 ?_
  rw [seqK_next, wS_seq]
  -- 3
  by_cases c3 : kd = 3
  · subst c3
    rw [wS_if]
    by_cases h9 : r3 < 90
    · refine wR_of (a := true) (by simp [h9]) ?_
      rw [if_pos rfl]
      simp
      exact ⟨[], ⟨by simp, rfl⟩, rfl⟩
    · refine wR_of (a := false) (by simp [h9]) ?_
      rw [if_neg (by simp), wS_next]
      rw [seqK_next, wS_seq]
      refine no_kind rfl (by decide) ?_
      rw [seqK_next, wS_seq]
      refine no_kind rfl (by decide) ?_
      rw [seqK_next]
      exact fin_join (by omega) (jn_ok (by omega) htx)
  refine no_kind3 rfl c3 ?_
  rw [seqK_next, wS_seq]
  -- 4
  by_cases c4 : kd = 4
  · subst c4
    have q3 := hln _ ma
    refine yes_kind rfl (set3 (x := L[a].map tabF) (a := a) rfl rfl hal ?_ ?_)
    · simp [hga]
      rw [gd_pos (by omega)]
    rw [seqK_next, wS_seq]
    refine no_kind rfl (by decide) ?_
    rw [seqK_next]
    have q := set_sum (L := L) (i := a) (x := L[a].map tabF)
    rw [List.length_map] at q
    refine fin_join (by rw [List.length_set]; omega) (jn_ok (by rw [List.length_set]; omega) (set_tx htx ?_))
    refine List.all_eq_true.mpr fun x hx => ?_
    obtain ⟨y, hy, rfl⟩ := List.mem_map.mp hx
    have := List.all_eq_true.mp (htx _ ma) y hy
    unfold tabF
    split
    · decide
    · exact this
  refine no_kind rfl c4 ?_
  rw [seqK_next, wS_seq]
  -- 5
  have c5 : kd = 5 := by omega
  subst c5
  refine yes_kind rfl ?_
  have hg0 : L[0]? = some L[0] := List.getElem?_eq_getElem hp
  have m0 := List.getElem_mem hp
  have q0 := hln _ m0
  rw [wS_drop, wX_insP (i := 3) (p := []) (os := L.map oS) (k := 1 + (b : Int)) (o := oS L[0]) (oi' := oi (1 + (b : Int))) rfl rfl (by simp) rfl (by simp [hg0]) rfl (by simp; omega) (by omega) (by omega)]
  have e : setP [some (oS l), some (.lf .fz (iL [r0, r1, r2, r3, r4])), some (oi 5), some (.lst (L.map oS)), some (oi a), some (oi b), none] 3 [] (.lst ((L.map oS).take (1 + (b : Int)).toNat ++ [oS L[0]] ++ (L.map oS).drop (1 + (b : Int)).toNat)) =
      [some (oS l), some (.lf .fz (iL [r0, r1, r2, r3, r4])), some (oi 5), some (.lst ((L.take (1 + (b : Int)).toNat ++ [L[0]] ++ L.drop (1 + (b : Int)).toNat).map oS)), some (oi a), some (oi b), none] := by
    rw [List.map_append, List.map_append, List.map_take, List.map_drop]
    rfl
  rw [e, seqK_next]
  generalize (1 + (b : Int)).toNat = n
  have hsum : ((L.take n ++ [L[0]] ++ L.drop n).map List.length).sum = (L.map List.length).sum + L[0].length := by
    have := congrArg (fun z => (z.map List.length).sum) (List.take_append_drop n L)
    simp only [List.map_append, List.sum_append, List.map_cons, List.map_nil, List.sum_cons, List.sum_nil] at this ⊢
    omega
  have hlen : (L.take n ++ [L[0]] ++ L.drop n).length = L.length + 1 := by
    have := congrArg List.length (List.take_append_drop n L)
    simp only [List.length_append] at this ⊢
    simp only [List.length_singleton]
    omega
  refine fin_join (by omega) (jn_ok (by omega) fun p hp' => ?_)
  rcases List.mem_append.mp hp' with h | h
  · rcases List.mem_append.mp h with h | h
    · exact htx p (List.mem_of_mem_take h)
    · rw [List.mem_singleton] at h
      exact h ▸ htx _ m0
  · exact htx p (List.mem_of_mem_drop h)
theorem SIG_tx : txOk (BSG ++ LT8) = true := by decide +kernel
theorem w_spoilt {l : List Nat} {r0 r1 r2 r3 r4 : Int} {Q : O → Prop} {E : Exn → Prop} (hl : l.length ≤ 40000) (ht : txOk l = true) (h0 : 0 ≤ r0) (h1 : 0 ≤ r1) (h2 : 0 ≤ r2) (kk : ∀ o, SpOk l.length o → Q o) :
    wR (callM 6 m_law_spoilt [oS l, .lf .fz (iL [r0, r1, r2, r3, r4])]) Q E := by
  refine wR_mono (call_wp (P := fun o => SpOk l.length o) ?_) (fun a h => kk a h)
  unfold m_law_spoilt
  rw [show startE 6 ([oS l, .lf .fz (iL [r0, r1, r2, r3, r4])].map toArg) = [some (oS l), some (.lf .fz (iL [r0, r1, r2, r3, r4])), none, none, none, none] from rfl]
  rw [wS_seq, wS_if]
  by_cases h4 : r4 < 200
  · refine wR_of (a := true) (by simp [h4]) ?_
    rw [if_pos rfl]
    simp
    refine w_lspoilt (k := .fz) hl ht h0 h1 h2 fun o ho => ?_
    obtain ⟨l', hl', rfl⟩ := ho
    simp
    exact ⟨l', hl', rfl⟩
  refine wR_of (a := false) (by simp [h4]) ?_
  rw [if_neg (by simp), wS_next, seqK_next]
  refine wS_cut (fun e => e = [some (oS l), some (.lf .fz (iL [r0, r1, r2, r3, r4])), some (oS BSG), none, none, none]) ?_ ?_
  · simp
  rintro _ rfl
  refine wS_cut (fun e => e = [some (oS l), some (.lf .fz (iL [r0, r1, r2, r3, r4])), some (oS (BSG ++ LT8)), none, none, none]) ?_ ?_
  · simp
  rintro _ rfl
  obtain ⟨c1, ec1, hc1⟩ := sig_get SIG_tx (x := r0 % 96) (by omega) (by simp; omega)
  refine wS_cut (fun e => e = [some (oS l), some (.lf .fz (iL [r0, r1, r2, r3, r4])), some (oS (BSG ++ LT8)), some (oS [c1]), none, none]) ?_ ?_
  · simp [ec1]
  rintro _ rfl
  refine wS_cut (fun e => ∃ m, Tx 12 m ∧ e = [some (oS l), some (.lf .fz (iL [r0, r1, r2, r3, r4])), some (oS (BSG ++ LT8)), some (oS m), none, none]) ?_ ?_
  · rw [wS_if]
    by_cases h5 : r4 < 500
    · refine wR_of (a := true) (by simp [h5]) ?_
      rw [if_pos rfl]
      have hk : r0 % 7 = 0 ∨ r0 % 7 = 1 ∨ r0 % 7 = 2 ∨ r0 % 7 = 3 ∨ r0 % 7 = 4 ∨ r0 % 7 = 5 ∨ r0 % 7 = 6 := by omega
      rcases hk with h | h | h | h | h | h | h
      · simp [h]; exact ⟨by decide, by decide⟩
      · simp [h]; exact ⟨by decide, by decide⟩
      · simp [h]; exact ⟨by decide, by decide⟩
      · simp [h]; exact ⟨by decide, by decide⟩
      · simp [h]; exact ⟨by decide, by decide⟩
      · simp [h]; exact ⟨by decide, by decide⟩
      · simp [h]; exact ⟨by decide, by decide⟩
    · refine wR_of (a := false) (by simp [h5]) ?_
      rw [if_neg (by simp), wS_next]
      exact ⟨[c1], ⟨by simp, tx_sg hc1⟩, rfl⟩
  rintro _ ⟨m, hm, rfl⟩
  obtain ⟨a, ha, hal⟩ : ∃ a : Nat, r1 % ((l.length : Int) + 1) = (a : Int) ∧ a ≤ l.length := ⟨(r1 % ((l.length : Int) + 1)).toNat, by have := Int.emod_nonneg r1 (show (l.length : Int) + 1 ≠ 0 by omega); omega, by have := Int.emod_lt_of_pos r1 (show (0 : Int) < l.length + 1 by omega); have := Int.emod_nonneg r1 (show (l.length : Int) + 1 ≠ 0 by omega); omega⟩
  refine wS_cut (fun e => e = [some (oS l), some (.lf .fz (iL [r0, r1, r2, r3, r4])), some (oS (BSG ++ LT8)), some (oS m), some (oi a), none]) ?_ ?_
  · simp [ha]
    omega
  rintro _ rfl
  refine wS_cut (fun e => e = [some (oS l), some (.lf .fz (iL [r0, r1, r2, r3, r4])), some (oS (BSG ++ LT8)), some (oS m), some (oi a), some (oi (r2 % 4))]) ?_ ?_
  · simp
  rintro _ rfl
  have ok1 : ∀ n : Nat, SpOk l.length (oS (l.take a ++ m ++ l.drop n)) := fun n => by
    have := hm.ln
    refine ⟨_, ⟨?_, tx_app (tx_app (tx_mem ht fun x hx => List.mem_of_mem_take hx) hm.tx) (tx_mem ht fun x hx => List.mem_of_mem_drop hx)⟩, rfl⟩
    rw [List.length_append, List.length_append, List.length_take, List.length_drop]
    omega
  obtain ⟨kd, hkd, hkb⟩ : ∃ kd : Int, kd = r2 % 4 ∧ 0 ≤ kd ∧ kd < 4 := ⟨_, rfl, by omega, by omega⟩
  rw [← hkd]
  have hm2 := hm.ln
  rw [wS_seq, wS_if]
  by_cases c0 : kd = 0 ∨ kd = 1
  · refine wR_of (a := true) ?_ ?_
    · rcases c0 with h | h <;> simp [h]
    · rw [if_pos rfl]
      simp
      rw [cutA_to' (by omega), cutA_from' (by omega), Int.toNat_natCast, ← List.append_assoc]
      have e1 := List.length_take_le a l
      refine ⟨by omega, by omega, by omega, by rw [List.length_drop]; omega, ok1 _⟩
  refine wR_of (a := false) ?_ ?_
  · simp at c0
    simp [c0]
  rw [if_neg (by simp), wS_next, seqK_next, wS_seq, wS_if]
  by_cases c2 : kd = 2
  · refine wR_of (a := true) ?_ ?_
    · simp [c2]
    · rw [if_pos rfl]
      simp
      rw [cutA_to' (by omega), cutA_from' (by omega), Int.toNat_natCast, ← List.append_assoc]
      have e1 := List.length_take_le a l
      refine ⟨by omega, by omega, by omega, by rw [List.length_drop]; omega, ok1 _⟩
  refine wR_of (a := false) ?_ ?_
  · simp [c2]
  rw [if_neg (by simp), wS_next, seqK_next]
  simp
  rw [cutA_to' (by omega), cutA_from' (by omega), Int.toNat_natCast]
  have e1 := List.length_take_le a l
  refine ⟨by omega, by rw [List.length_drop]; omega, _, ⟨?_, tx_app (tx_mem ht fun x hx => List.mem_of_mem_take hx) (tx_mem ht fun x hx => List.mem_of_mem_drop hx)⟩, rfl⟩
  rw [List.length_append, List.length_drop]
  omega
theorem tx_le {n m : Nat} {l : List Nat} (h : Tx n l) (hm : n ≤ m) : Tx m l := ⟨Nat.le_trans h.ln hm, h.tx⟩
theorem name_tx {l : List Nat} (h : nameOk l = true) : Tx 13 l := by
  refine ⟨?_, nameOk_tx h⟩
  unfold nameOk at h
  simp at h
  omega
theorem frz_rows {R : List (List (List Nat))} : frzO (rowsO R) = some (.lf .fz (ordD R)) := by
  show (if (rowsO R).no notFz then some (lfk .fz (rowsO R).er) else none) = _
  rw [if_pos rows_no, rows_er]
  rfl
theorem law_true : RunsTrue N_law.length m_law := by
  refine runs_of fun S hS => ?_
  show wS (m_law (startE 10 [scrD S])) _ _
  rw [show startE 10 [scrD S] = [some (scrD S), none, none, none, none, none, none, none, none, none] from rfl]
  unfold m_law
  refine wS_cut (fun e => ∃ N : List (List Nat), N.length = 4 ∧ (∀ l ∈ N, Tx 13 l) ∧ e = [some (scrD S), some (.lf .fz (.lst (N.map tD))), none, none, none, none, none, none, none, none]) ?_ ?_
  · simp
    refine w_cell (by omega) (by omega) fun c0 => ?_
    try simp
    refine w_names (by omega) (by omega) fun N hN _ hok => ?_
    simp
    exact ⟨N, by simpa using hN, fun l hl => name_tx (hok l hl), rfl⟩
  rintro _ ⟨N, hN, hNt, rfl⟩
  refine wS_cut (fun e => ∃ N : List (List Nat), N.length = 6 ∧ (∀ l ∈ N, Tx 13 l) ∧ e = [some (scrD S), some (.lf .fz (.lst (N.map tD))), none, none, none, none, none, none, none, none]) ?_ ?_
  · simp
    refine w_cell (by omega) (by omega) fun c0 => ?_
    try simp
    refine w_free fun l1 h1 => ?_
    simp
    refine w_cell (by omega) (by omega) fun c1 => ?_
    try simp
    refine w_free fun l2 h2 => ?_
    simp
    refine ⟨by omega, N ++ [l1, l2], by simp [hN], fun l hl => ?_, by simp⟩
    rcases List.mem_append.mp hl with h | h
    · exact hNt l h
    · simp at h
      rcases h with rfl | rfl
      · exact h1
      · exact h2
  rintro _ ⟨N, hN, hNt, rfl⟩
  refine wS_cut (fun e => ∃ Z : List Int, Z.length ≤ 8 ∧ (∀ x ∈ Z, 1 ≤ x ∧ x ≤ 6) ∧ e = [some (scrD S), some (.lf .fz (.lst (N.map tD))), some (.lf .fz (iL Z)), none, none, none, none, none, none, none]) ?_ ?_
  · simp
    refine w_cell (by omega) (by omega) fun c0 => ?_
    try simp
    refine w_cell (by omega) (by omega) fun c1 => ?_
    try simp
    refine w_row (by omega) (by omega) (by omega) (by decide) fun R hR hRb => ?_
    simp
    refine ⟨by omega, R.map (1 + ·), by simp; omega, fun x hx => ?_, ?_⟩
    · obtain ⟨y, hy, rfl⟩ := List.mem_map.mp hx
      have := hRb y hy
      omega
    · rw [List.map_map]
      rfl
  rintro _ ⟨Z, hZ, hZb, rfl⟩
  refine wS_cut (fun e => ∃ R, OrOk R ∧ e = [some (scrD S), some (.lf .fz (.lst (N.map tD))), some (.lf .fz (iL Z)), some (.lf .fz (ordD R)), none, none, none, none, none, none]) ?_ ?_
  · simp
    refine w_cell (by omega) (by omega) fun c0 => ?_
    try simp
    refine w_row (by omega) (by omega) (by omega) (by decide) fun P hP hPb => ?_
    simp at hP
    try simp
    refine w_lists (k1 := .fz) (k2 := .fz) (k3 := .fz) (S := Z) (P := P) (N := N) (by simp) (by simp) (by simp) hZ hZb hP hPb hN hNt fun R h1 h2 => ?_
    have hno : (rowsO R).no notFz = true := rows_no
    exact ⟨by simp, _, frz_rows, R, ⟨h1, h2⟩, rfl⟩
  rintro _ ⟨R, hR, rfl⟩
  have ht := hR.tl.2
  have hln := hR.ln
  refine wS_cut (fun e => e = [some (scrD S), some (.lf .fz (.lst (N.map tD))), some (.lf .fz (iL Z)), some (.lf .fz (ordD R)), some (oS (ordT R)), none, none, none, none, none]) ?_ ?_
  · simp
    refine ⟨by omega, ?_⟩
    rw [lcF_ofM (fun r => oS (jnL [32] r)) (fun r hr => j_row (hR.rl r hr).1) (fun _ _ => rfl), wR_ok, j_all hR]
    simp
  rintro _ rfl
  refine wS_cut (fun e => e = [some (scrD S), some (.lf .fz (.lst (N.map tD))), some (.lf .fz (iL Z)), some (.lf .fz (ordD R)), some (oS (ordT R)), some (.lf .fz (ordD R)), none, none, none, none]) ?_ ?_
  · simp
    omega
  rintro _ rfl
  have hw := r_write (o := .lf .fz (ordD R)) (k := .fz) rfl hR
  refine wS_cut (fun e => e = [some (scrD S), some (.lf .fz (.lst (N.map tD))), some (.lf .fz (iL Z)), some (.lf .fz (ordD R)), some (oS (ordT R)), some (.lf .fz (ordD R)), some (oS (ordT R)), none, none, none]) ?_ ?_
  · simp [hw]
  rintro _ rfl
  have hr := r_lread (l := ordT R) (by have := ht.ln; omega) ht.tx
  generalize ordT R = T at *
  have hor : gNe (.lf .fz (ordD R)) (.lf .fz (ordD R)) = .ok (ob false) := gNe_eq (d := ordD R) rfl rfl (ord_pl fun r h w hw => ((hR.rs r h).2 w hw).tx)
  have hTT : gNe (oS T) (oS T) = .ok (ob false) := gNe_eq (d := .str (tS T)) rfl rfl (tx_pl ht.tx)
  refine wS_cut (fun e => e = [some (scrD S), some (.lf .fz (.lst (N.map tD))), some (.lf .fz (iL Z)), some (.lf .fz (ordD R)), some (oS T), some (.lf .fz (ordD R)), some (oS T), none, none, none]) ?_ ?_
  · rw [wS_if]
    refine wR_of (a := false) ?_ ?_
    · simp [hor, hTT]
    · rw [if_neg (by simp), wS_next]; rfl
  rintro _ rfl
  refine wS_cut (fun e => e = [some (scrD S), some (.lf .fz (.lst (N.map tD))), some (.lf .fz (iL Z)), some (.lf .fz (ordD R)), some (oS T), some (.lf .fz (ordD R)), some (oS T), none, none, none]) ?_ ?_
  · rw [wS_if]
    refine wR_of (a := false) ?_ ?_
    · simp [hr]
    · rw [if_neg (by simp), wS_next]; rfl
  rintro _ rfl
  rw [wS_seq, wS_for]
  simp
  refine w_cell (by omega) (by omega) fun c6 => ?_
  simp
  refine ⟨⟨by omega, by omega⟩, wS_forN (fun j e => ∃ T' z, Tx (680 * 4 ^ j) T' ∧ e = [some (scrD S), some (.lf .fz (.lst (N.map tD))), some (.lf .fz (iL Z)), some (.lf .fz (ordD R)), some (oS T), some (.lf .fz (ordD R)), some (oS T'), z, none, none]) ?_ ?_ ?_⟩
  · exact ⟨T, none, by simpa using ht, rfl⟩
  · rintro j _ hj ⟨T', z, hT', rfl⟩
    refine ⟨_, rfl, ?_⟩
    have hj2 : j = 0 ∨ j = 1 := by omega
    have hb : 680 * 4 ^ j ≤ 2720 := by rcases hj2 with rfl | rfl <;> decide
    have hb2 : 680 ≤ 680 * 4 ^ j := by rcases hj2 with rfl | rfl <;> decide
    have hTl := hT'.ln
    unfold b_law_1
    refine wS_cut (fun e => ∃ T'', Tx (680 * 4 ^ (j + 1)) T'' ∧ e = [some (scrD S), some (.lf .fz (.lst (N.map tD))), some (.lf .fz (iL Z)), some (.lf .fz (ordD R)), some (oS T), some (.lf .fz (ordD R)), some (oS T''), some (oi j), none, none]) ?_ ?_
    · simp
      refine w_cell (by omega) (by omega) fun c7 => ?_
      try simp
      refine w_row (by omega) (by omega) (by omega) (by decide) fun P hP hPb => ?_
      simp at hP
      obtain ⟨r0, r1, r2, r3, r4, rfl⟩ : ∃ r0 r1 r2 r3 r4, P = [r0, r1, r2, r3, r4] := by
        match P, hP with
        | [r0, r1, r2, r3, r4], _ => exact ⟨_, _, _, _, _, rfl⟩
      try simp
      refine w_spoilt (by omega) hT'.tx (hPb r0 (by simp)).1 (hPb r1 (by simp)).1 (hPb r2 (by simp)).1 fun o ho => ?_
      obtain ⟨T'', hT'', rfl⟩ := ho
      simp
      refine tx_le hT'' ?_
      rw [Nat.pow_succ]
      omega
    rintro _ ⟨T'', hT'', rfl⟩
    have hb3 : 680 * 4 ^ (j + 1) ≤ 10880 := by rcases hj2 with rfl | rfl <;> decide
    have hr2 := r_lread (l := T'') (by have := hT''.ln; omega) hT''.tx
    rw [wS_if]
    refine wR_of (a := false) ?_ ?_
    · simp [hr2]
    · rw [if_neg (by simp), wS_next]
      exact ⟨T'', _, hT'', rfl⟩
  · rintro _ ⟨T', z, hT', rfl⟩
    rw [seqK_next]
    simp [hr]
end Kw
open PySem PySem.W PyProof.Rows
set_option maxRecDepth 100000 in
set_option maxHeartbeats 20000000 in
theorem PySem.Challenge.cw_dyevats_k36_texts_of_orders_holds : PySem.Challenge.rw_dyevats_k36_texts_of_orders.Holds := by
  w_on; o_law; k_head; (case hw => w_witness2)
  k_fill
  refine VL.walk_lawT (l := PySem.Challenge.rw_dyevats_k36_texts_of_orders) (k := 6) rfl rfl ⟨rfl, by decide, by decide⟩ (fun w h Y => by first | exact PySem.W.kIn_of Y | exact PySem.W.km_in_of Y) ?F
  case F =>
    intro w mg fa h Y KX G hmg
    refine' Kw.all_mk KX G hmg ?n0 ?n1 ?n2 ?n3 ?n4 ?n5 ?n6 ?n7 ?n8 ?n9 ?n10 ?n11 ?n12 ?n13 ?hE ?hblt ?x13 ?bm_13 ?y13 ?m13 ?ce13 ?hc13 ?e13 ?gs_DIGITS ?gs_LETTERS ?a__valid_name ?l__valid_name ?c__valid_name ?k__valid_name ?a__write_order ?l__write_order ?c__write_order ?k__write_order ?a__read_order ?l__read_order ?c__read_order ?k__read_order ?a__law_cell ?l__law_cell ?c__law_cell ?k__law_cell ?a__law_row ?l__law_row ?c__law_row ?k__law_row ?a__law_is_int ?l__law_is_int ?c__law_is_int ?k__law_is_int ?a__law_names ?l__law_names ?c__law_names ?k__law_names ?a__law_valid ?l__law_valid ?c__law_valid ?k__law_valid ?a__law_free_name ?l__law_free_name ?c__law_free_name ?k__law_free_name ?a__law_lists ?l__law_lists ?c__law_lists ?k__law_lists ?a__law_lines_spoilt ?l__law_lines_spoilt ?c__law_lines_spoilt ?k__law_lines_spoilt ?a__law_spoilt ?l__law_spoilt ?c__law_spoilt ?k__law_spoilt ?a__law_expected ?l__law_expected ?c__law_expected ?k__law_expected ?a__law_told ?l__law_told ?c__law_told ?k__law_told ?a__law_read ?l__law_read ?c__law_read ?k__law_read ?a__law ?l__law ?c__law ?k__law ?nm_mk Kw.law_true
    case n0 => k_is
    case n1 => k_is
    case n2 => k_is
    case n3 => k_is
    case n4 => k_is
    case n5 => k_is
    case n6 => k_is
    case n7 => k_is
    case n8 => k_is
    case n9 => k_is
    case n10 => k_is
    case n11 => k_is
    case n12 => k_is
    case n13 => k_is
    case hE => kernel_rfl
    case hblt => kernel_rfl
    case x13 => k_is
    case bm_13 => kernel_rfl
    case y13 => k_is
    case m13 => k_is
    case ce13 => k_is
    case hc13 => kernel_rfl
    case e13 => kernel_rfl
    case gs_DIGITS => k_is
    case gs_LETTERS => k_is
    case a__valid_name => k_is
    case l__valid_name => k_is
    case c__valid_name => k_is
    case k__valid_name => k_is
    case a__write_order => k_is
    case l__write_order => k_is
    case c__write_order => k_is
    case k__write_order => k_is
    case a__read_order => k_is
    case l__read_order => k_is
    case c__read_order => k_is
    case k__read_order => k_is
    case a__law_cell => k_is
    case l__law_cell => k_is
    case c__law_cell => k_is
    case k__law_cell => k_is
    case a__law_row => k_is
    case l__law_row => k_is
    case c__law_row => k_is
    case k__law_row => k_is
    case a__law_is_int => k_is
    case l__law_is_int => k_is
    case c__law_is_int => k_is
    case k__law_is_int => k_is
    case a__law_names => k_is
    case l__law_names => k_is
    case c__law_names => k_is
    case k__law_names => k_is
    case a__law_valid => k_is
    case l__law_valid => k_is
    case c__law_valid => k_is
    case k__law_valid => k_is
    case a__law_free_name => k_is
    case l__law_free_name => k_is
    case c__law_free_name => k_is
    case k__law_free_name => k_is
    case a__law_lists => k_is
    case l__law_lists => k_is
    case c__law_lists => k_is
    case k__law_lists => k_is
    case a__law_lines_spoilt => k_is
    case l__law_lines_spoilt => k_is
    case c__law_lines_spoilt => k_is
    case k__law_lines_spoilt => k_is
    case a__law_spoilt => k_is
    case l__law_spoilt => k_is
    case c__law_spoilt => k_is
    case k__law_spoilt => k_is
    case a__law_expected => k_is
    case l__law_expected => k_is
    case c__law_expected => k_is
    case k__law_expected => k_is
    case a__law_told => k_is
    case l__law_told => k_is
    case c__law_told => k_is
    case k__law_told => k_is
    case a__law_read => k_is
    case l__law_read => k_is
    case c__law_read => k_is
    case k__law_read => k_is
    case a__law => k_is
    case l__law => k_is
    case c__law => k_is
    case k__law => k_is
    case nm_mk => k_is
