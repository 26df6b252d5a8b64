import PyProof.Rows.All
import Wide.All
import OpenK.AllK
import Wide.FinOn
import HandS.ForMost
import HandS.ForExc
import HandS.Lambda
import KE.KNestM
import HandS.SuiteRaise
import HandS.RaiseFrom
import HandS.ExcInitHot
import HandS.Wide
import HandS.IsInst
import HandS.More
import HandS.TupAny
import KE.DataMinMax
import HandS.SortKw
import HandS.Text
import KE.DataFind
import HandS.ExcIs
import HandS.ExcField
import HandS.ExcOwn
import HandS.ExcInit
import KE.KExcSuper
import HandS.ExcSuper
import KE.KSuper
import HandS.Walk
import HandS.Style
import HandS.SetFor
import HandS.Defaults
import HandS.MakeKwOnly
import HandS.CallSlots
import HandS.OwnIter
import HandS.IterVal
import HandS.Conv
import HandS.Deep
import HandS.Small
import HandS.Iter
import HandS.DictComp
import KE.KDictList
import HandS.SlotsOwn
import PyProof.ExcBaseAll.ValueError
import HandS.Finally
import KE.GoesMore
import PyProof.Draws
import HandS.SortInts
import HandS.ListItems
import HandS.Flow
import HandS.StrMore
import OpenK.KMeth
import HandS.EndTab
import PyProof.WalkInts
import HandS.HotCalls
import KE.GoesComp
import PyProof.ConsumeWalk
import PySem.Challenge.RW_dyevats_k21_two_houses
set_option Elab.async false
set_option linter.all false
set_option maxRecDepth 100000
set_option maxHeartbeats 8000000
namespace VL
open PySem PySem.Spec PyProof.Rows L2
def badE (c : String) : Bool := c == "BadDeed" || c == "BadLine"
def BadC (mg : Str → Option Value) (c : Value) : Prop := ∃ n, badE n = true ∧ mg (Str.ofString n) = some c
def onBad (mg : Str → Option Value) (W : WX) : WX := fun cls d σ H => BadC mg cls ∧ W cls d σ H
structure Takes (X : Cx) (W : WX) : Prop where
  n : L2N.Takes X W
  b : L2.Takes X (onBad X.mg W)
def CXv (mg : Str → Option Value) (P : Program) (w : World) : CXT := fun outer H s E u s' => L2N.CX P w outer H s E u s' ∨ L2.CX P w outer H s (fun c d H => BadC mg c ∧ E c d H) u s'
theorem sky_zc {B h : Heap} {l : List Env} {a L : Addr} {cls : Value} {d : Option Addr} (x : Sky B l a (L2N.Zn cls d) L h) : Sky B l a (Zc cls d) L h := by
  rcases x with ⟨k1, k2, k3, ob, vs, k4, z, k5⟩ | f | ⟨k1, k2, k3, t⟩
  · exact .inl ⟨k1, k2, k3, ob, vs, k4, z.zc, k5⟩
  · exact .inr (.inl (L2H.flyingZ_imp (fun _ z => z.zc) f))
  · exact .inr (.inr ⟨k1, k2, k3, L2H.tracedZ_imp (fun _ z => z.zc) t⟩)
section
variable {X : Cx} {W W' : WX} {u : Value} {s' : Shared} {E : XK}
theorem xe_zc : L2N.XE X W u s' → L2.XE X W u s' := fun ⟨a, B, sI, pins, σ, H, cls, d, k1, k2, k3, k4, sky, r⟩ => ⟨a, B, sI, pins, σ, H, cls, d, k1, k2, k3, k4, sky_zc sky, r⟩
theorem Takes.of (t : L2.Takes X W) : Takes X W := ⟨fun u s' x => t u s' (xe_zc x), t.imp fun _ _ _ _ h => h.2⟩
theorem Takes.imp (t : Takes X W) (h : ∀ c d σ H, W' c d σ H → W c d σ H) : Takes X W' := ⟨t.n.imp h, t.b.imp fun c d σ H z => ⟨z.1, h c d σ H z.2⟩⟩
theorem passAt (tk : Takes X W) (σ : L2.St) : PassesAt (CXv X.mg X.prog X.w) X σ (WE W σ) := fun pins H s e s' I c => c.elim (fun c => L2N.passAt tk.n σ pins H s e s' I c) fun c => L2.passAt (W := onBad X.mg W) tk.b σ pins H s e s' I c
theorem takes_of (hs : X.stack = X.env :: X.outer) (hf : X.env.frame = some X.env.locals) (hex : X.ex = []) {E₁ : Value → Shared → Prop}
    (hx : X.xe = fun e s' => wpAny (model X.prog X.w) X.A (leaving X.env e) (fun _ s'' => CXv X.mg X.prog X.w X.outer X.H_0 X.s_0 E e s'') E₁ s') : Takes X (fun cls d _ H => E cls d H) :=
  ⟨fun u s' x => by
    rw [hx]
    exact wpAny_mono (L2N.XE.leave (E := E) (E₁ := E₁) hs hf hex (fun _ _ _ _ h => h) x) (fun _ _ c => .inl c) fun _ _ h => h,
  fun u s' x => by
    rw [hx]
    exact wpAny_mono (L2.XE.leave (E := fun c d H => BadC X.mg c ∧ E c d H) (E₁ := E₁) hs hf hex (fun _ _ _ _ h => h) x) (fun _ _ c => .inr c) fun _ _ h => h⟩
theorem cxv_false {mg : Str → Option Value} {P : Program} {w : World} {outer : List Env} {H : Hp} {s : Shared} {e : Value} {s' : Shared} (h : CXv mg P w outer H s (fun _ _ _ => False) e s') : False := by
  rcases h with ⟨_, _, _, _, _, _, _, _, _, _, _, _, z⟩ | ⟨_, _, _, _, _, _, _, _, _, _, _, _, z⟩
  · exact z
  · exact z.2
theorem pmk_oexN {CX : CXT} {x : Str} {e : Expr} {es : List Expr} {ta : TA} {p pos : Pos} {C fI : Addr} {k : Nat} {fd : FuncData} {ps : List Str} {sp : Sp} {ds : List Value} {dvs : List V} (T : OexC X.K C) (iC : PySem.W.findIn X.K (.ref C) "__init__" = some (some (.ref fI))) (tI : PySem.W.typeIn X.K (.ref fI) = some (.type "function"))
    (F1 : FnOk X.prog X.w X.K X.mg X.base CX k fI fd ps sp) (hr : Room (k + 1) X.A) (hb : Binds X.K fd ps ds) (hd : Vals dvs ds) (hx : Passes CX X (fun _ _ _ => False)) (hg : Gl X x) (hm : X.mg x = some (.ref C)) (ha : PA X (e :: es) ta)
    (hdb : (x == ("__debug__" : Str)) = false := by decide) (hs : starEach (e :: es) X.env = (false, eval e X.env) :: starEach es X.env := by rfl) (hpl : (backTo pos (starEach es X.env)).any (·.1) = false := by rfl) : L2N.PMk X (.Call (.Name x p) (e :: es) [] pos) (tMkO C sp dvs ta) := fun pins s σ H Q I h => by
  obtain ⟨nC, qC, NC, bC, mC, snC, subC, abC, colC, ddC, c0, c1, c2, c3, c5, objC, refC⟩ := T.cls
  refine wpAny_Call_Name_kw (ld_glob I hg hm (PySem.W.callWith_K (h₀ := X.base) I.ok.mod.kin T.kC (thn (ha.run pos pins s σ H _ I h) fun us t ⟨vs, G, J, rv, _, q⟩ => ⟨J.kIn, ?_⟩) hs hpl) hdb)
  show wpAny _ _ (call (.ref C) us) _ _ _
  obtain ⟨g0, gens, dw, tt, oo⟩ := t
  obtain ⟨at_, eat⟩ : ∃ a : Addr, a = g0.objs.size + 1 := ⟨_, rfl⟩
  have le1 : g0.objs.size ≤ g0.objs.size + 1 := by omega
  have free1 : G (g0.objs.size + 1) = none := J.hok.fresh le1
  have keep2 : ∀ b o, g0.get? b = some o → ((g0.push (PySem.W.kdv_tup us)).push (PySem.HandSPX.excO C g0.objs.size)).get? b = some o := fun b o z => Heap.get?_push_of_some _ (Heap.get?_push_of_some _ z)
  have got : ((g0.push (PySem.W.kdv_tup us)).push (PySem.HandSPX.excO C g0.objs.size)).get? (g0.objs.size + 1) = some (PySem.HandSPX.excO C g0.objs.size) := by heap_get
  have J2 : Inv X pins σ (upd G (g0.objs.size + 1) (exo (g0.objs.size + 1) C none)) ⟨(g0.push (PySem.W.kdv_tup us)).push (PySem.HandSPX.excO C g0.objs.size), gens, dw, tt, oo⟩ :=
    J.laid (t' := tt) (a := g0.objs.size + 1) (o := exo (g0.objs.size + 1) C none) (h' := (g0.push (PySem.W.kdv_tup us)).push (PySem.HandSPX.excO C g0.objs.size)) keep2 le1 (exo_ok got)
  have rv2 : Vals (V.ref (g0.objs.size + 1) :: (vs ++ dvs)) (Value.ref (g0.objs.size + 1) :: (us ++ ds)) := .cons rfl (rv.append hd)
  have q1 := q (g0.objs.size + 1) free1
  have len2 : (Value.ref (g0.objs.size + 1) :: us ++ ds).length = ps.length := by
    rw [← F1.len _ _ _ _ q1]
    exact rv2.length.symm
  have few : us.length ≤ sizeLine := by
    have z := Paired.length rv
    rw [sizeLine_eq]
    omega
  have isb := fun Y => PySem.HandSPX.refsVE_contains Y mC refC
  have run := F1.run _ X.stack _ _ ⟨Value.ref (g0.objs.size + 1) :: us, []⟩ (Value.ref (g0.objs.size + 1) :: (us ++ ds)) _ _ (fun _ _ _ => False) (hr.make C us []) (J2.env0.make C us []) (hb _ (Value.ref (g0.objs.size + 1) :: us) J2.kIn len2) rv2 q1
  refine wpAny_call (PySem.HandSPX.call_own F.excBase_ValueError isb (J.kIn _ _ objC) (PySem.W.looks_findIn J.kIn iC) (fun self => PySem.W.bind_fn J.kIn self tI) few (codeAny_mono run fun r s' qq => ?_))
  cases r with
  | error er => exact hx pins σ _ _ er s' J2 qq
  | ok fl =>
    cases fl with
    | ret u =>
      obtain ⟨v, G2, o2, b2, un2, ok2, rr, rfl, d, fs, ea, ed, nd, q2⟩ := qq
      obtain ⟨h2, gn2, d2, t2, os'⟩ := s'
      obtain ⟨t0, G3, J3, k3, e3, he3, na⟩ := mk_end0 (d2 := d2) (t2 := t2) J le1 keep2 un2 ok2 o2 b2 ea ed nd
      exact ⟨rr, g0.objs.size + 1, _, _, ⟨G3, gn2, d2, t2, os'⟩, _, .ref C, some d, rfl, J3, k3, e3, he3, ⟨rfl, rfl, fun vs hv => by cases hv; rfl⟩, rfl, rfl, na, rfl, b2, raises_own T.exC T.tyC, q2⟩
    | next => exact qq.elim
    | brk => exact qq.elim
    | cont => exact qq.elim
end
end VL
namespace VL
open PySem PySem.Spec PyProof.Rows L2
def mkrN : Str := "stretch_of"
def lamN : Str := mkrN ++ ".<locals>." ++ "<lambda>"
def TabL (H : Hp) (ps : Array Value) (q : Str) : Prop := q = lamN ∧ TriplesOk ps.toList ∧ ∀ (pos : Pos) (cv : Value), codeAmong pos ps.toList = some cv → ∃ c, cv = .ref c ∧ H c = some (LamX.CodeO c q)
def TabAt (H : Hp) (P : Addr) (q : Str) : Prop := ∃ ps, H P = some (.tbl ps) ∧ TabL H ps q
def nTb : HO → Prop
  | .tbl _ => False
  | _ => True
def Kp (H H' : Hp) (b : Addr) : HO → Prop
  | .tbl ps => ∃ ps', H' b = some (.tbl ps') ∧ ∀ q, TabL H ps q → TabL H' ps' q
  | o => H' b = some o
def Same (H H' : Hp) : Prop := ∀ b o, H b = some o → Kp H H' b o
section
variable {H H1 H2 H' : Hp}
theorem Kp.nt {b : Addr} {o : HO} (n : nTb o) (h : Kp H H' b o) : H' b = some o := by
  cases o <;> first | exact h | exact n.elim
theorem Kp.of {b : Addr} {o : HO} (n : nTb o) (h : H' b = some o) : Kp H H' b o := by
  cases o <;> first | exact h | exact n.elim
theorem TabL.to {ps : Array Value} {q : Str} (h : TabL H ps q) (k : ∀ c, H c = some (LamX.CodeO c q) → H' c = some (LamX.CodeO c q)) : TabL H' ps q := ⟨h.1, h.2.1, fun pos cv e => let ⟨c, e1, e2⟩ := h.2.2 pos cv e; ⟨c, e1, k c e2⟩⟩
theorem Kp.all {b : Addr} {o : HO} (k : ∀ c q, H c = some (LamX.CodeO c q) → H' c = some (LamX.CodeO c q)) (h : H' b = some o) : Kp H H' b o := by
  cases o <;> first | exact h | exact ⟨_, h, fun q t => t.to fun c => k c q⟩
theorem Same.of (k : ∀ b o, H b = some o → H' b = some o) : Same H H' := fun b o e => Kp.all (fun c q => k c _) (k b o e)
theorem Same.refl (H : Hp) : Same H H := Same.of fun _ _ e => e
theorem Same.nt (s : Same H H') {b : Addr} {o : HO} (n : nTb o) (e : H b = some o) : H' b = some o := (s b o e).nt n
theorem Kp.trans {b : Addr} {o : HO} (h : Kp H H1 b o) (s : Same H1 H2) : Kp H H2 b o := by
  cases o
  case tbl ps =>
    obtain ⟨p1, e1, t1⟩ := h
    obtain ⟨p2, e2, t2⟩ := s b _ e1
    exact ⟨p2, e2, fun q t => t2 q (t1 q t)⟩
  all_goals exact s b _ h
theorem Same.trans (s : Same H H1) (s' : Same H1 H2) : Same H H2 := fun b o e => (s b o e).trans s'
theorem Kp.ne {b : Addr} {o : HO} (h : Kp H H' b o) : H' b ≠ none := by
  cases o
  case tbl ps =>
    obtain ⟨p1, e1, _⟩ := h
    rw [e1]; exact fun z => nomatch z
  all_goals exact fun z => by rw [show H' b = _ from h] at z; cases z
theorem Kp.ex {b : Addr} {o : HO} (h : Kp H H' b o) : ∃ u, H' b = some u := Option.ne_none_iff_exists'.mp h.ne
theorem Same.free (s : Same H H') {l : Addr} (h : H' l = none) : H l = none := by
  cases e : H l with
  | none => rfl
  | some o => exact absurd h (s l o e).ne
theorem Same.tab (s : Same H H') {P : Addr} {q : Str} (h : TabAt H P q) : TabAt H' P q := by
  obtain ⟨ps, e, t⟩ := h
  obtain ⟨p1, e1, t1⟩ := s P _ e
  exact ⟨p1, e1, t1 q t⟩
theorem Same.seq {K : PySem.W.Frag} {a : Addr} {xs : List V} (e : Same H H') (h : SqL K H a xs) : SqL K H' a xs := by
  rcases h with (h | ⟨o, h⟩) | h
  · exact .inl (.inl (e.nt True.intro h))
  · exact .inl (.inr ⟨o, e.nt True.intro h⟩)
  · exact .inr h
end
inductive D where
  | non | bl (b : Bool) | int (i : Int) | str (x : Str)
  | lst (xs : List D) | tup (xs : List D)
  | dct (ks : List Key) (xs : List D) | dcT (ks : List (List Key)) (xs : List D)
  | obj (C : String) (fs : List String) (xs : List D)
  /-- the script: a list that is locked from the outside -/
  | scr (xs : List D)
  /-- the empty tuple of the written part (a default) -/
  | kt
  /-- anything; nothing is said of it -/
  | opq
inductive Kd where
  | fz | bo | tb
  deriving DecidableEq
inductive O where
  | lf (k : Kd) (d : D)
  | lst (xs : List O) | tup (xs : List O)
  | dct (ks : List Key) (xs : List O) | dcT (ks : List (List Key)) (xs : List O)
  | obj (C : String) (fs : List String) (xs : List O)
  /-- the error that an except suite holds -/
  | xn (C : String) (fs : List String) (ds : List D)
  /-- the same, what it holds is owned -/
  | xo (C : String) (fs : List String) (xs : List O)
structure Cb where
  at_ : String → Option Addr
  kl : Addr → List V → Prop
  kt : Addr → Prop
  /-- the tables of code objects that the program's lambdas use -/
  tb : Addr → Str → Prop
structure Cl where
  b : Cb
  ex : Addr → Addr → Option Addr → Prop
structure Wd where
  cl : Cl
  Z : Addr → Prop
  B : Addr → Prop
  T : Addr → Prop
def Wd.S (w : Wd) : Kd → Addr → Prop
  | .fz => w.Z
  | .bo => w.B
  | .tb => w.T
section
variable (cl : Cl) (H : Hp) (S : Addr → Prop)
mutual
def Rep : D → V → Prop
  | .non, v => v = .non
  | .bl b, v => v = .bl b
  | .int i, v => v = .int i
  | .str x, v => v = .str x
  | .lst xs, v => ∃ a vs, v = .ref a ∧ S a ∧ H a = some (.lst vs) ∧ Reps xs vs
  | .scr xs, v => ∃ a vs, v = .ref a ∧ ((S a ∧ Rd H a (.lst vs)) ∨ cl.b.kl a vs) ∧ Reps xs vs
  | .tup xs, v => ∃ a vs, v = .ref a ∧ H a = some (.tup vs) ∧ Reps xs vs
  | .dct ks xs, v => ∃ a kvs, v = .ref a ∧ S a ∧ Rd H a (.dK kvs) ∧ kvs.map (·.1) = ks ∧ Reps xs (kvs.map (·.2))
  | .dcT ks xs, v => ∃ a kvs, v = .ref a ∧ S a ∧ Rd H a (.dT kvs) ∧ kvs.map (·.1) = ks ∧ Reps xs (kvs.map (·.2))
  | .obj C fs xs, v => ∃ a Ca dx kvs, v = .ref a ∧ S a ∧ cl.b.at_ C = some Ca ∧ H a = some (.ins Ca dx kvs) ∧ kvs.map (·.1) = fs.map Str.ofString ∧ Reps xs (kvs.map (·.2))
  | .kt, v => ∃ a, v = .ref a ∧ cl.b.kt a
  | .opq, _ => True
def Reps : List D → List V → Prop
  | [], vs => vs = []
  | d :: ds, vs => ∃ v r, vs = v :: r ∧ Rep d v ∧ Reps ds r
end
end
mutual
/-- data all of tuples and atoms: nobody can write them -/
def D.imm : D → Bool
  | .non => true | .bl _ => true | .int _ => true | .str _ => true
  | .tup xs => D.imms xs
  | _ => false
def D.imms : List D → Bool
  | [] => true
  | d :: ds => d.imm && D.imms ds
end
section
variable (w : Wd) (H : Hp)
def RepXn (C : String) (fs : List String) (ds : List D) (v : V) : Prop := ∃ a Ca d, v = .ref a ∧ w.cl.ex a Ca d ∧ w.cl.b.at_ C = some Ca ∧ ((fs = [] ∧ ds = [] ∧ d = none) ∨ (∃ dd kvs, d = some dd ∧ w.Z dd ∧ H dd = some (.xd kvs) ∧ kvs.map (·.1) = fs.map Str.ofString ∧ Reps w.cl H w.Z ds (kvs.map (·.2))) ∨ (fs = [] ∧ ds = [] ∧ ∃ dd kvs, d = some dd ∧ w.T dd ∧ H dd = some (.xd kvs)))
def Disj (F G : Addr → Prop) : Prop := ∀ a, F a → ¬ G a
def Sub (F G : Addr → Prop) : Prop := ∀ a, F a → G a
mutual
def RepO : O → V → (Addr → Prop) → Prop
  | .lf k d, v, _ => Rep w.cl H (w.S k) d v
  | .lst xs, v, F => ∃ a vs G, v = .ref a ∧ H a = some (.lst vs) ∧ F a ∧ ¬ G a ∧ Sub G F ∧ RepOs xs vs G
  | .tup xs, v, F => ∃ a vs, v = .ref a ∧ H a = some (.tup vs) ∧ RepOs xs vs F
  | .dct ks xs, v, F => ∃ a kvs G, v = .ref a ∧ H a = some (.dK kvs) ∧ kvs.map (·.1) = ks ∧ F a ∧ ¬ G a ∧ Sub G F ∧ RepOs xs (kvs.map (·.2)) G
  | .dcT ks xs, v, F => ∃ a kvs G, v = .ref a ∧ H a = some (.dT kvs) ∧ kvs.map (·.1) = ks ∧ F a ∧ ¬ G a ∧ Sub G F ∧ RepOs xs (kvs.map (·.2)) G
  | .obj C fs xs, v, F => ∃ a Ca dx kvs G, v = .ref a ∧ w.cl.b.at_ C = some Ca ∧ H a = some (.ins Ca dx kvs) ∧ kvs.map (·.1) = fs.map Str.ofString ∧ F a ∧ ¬ G a ∧ Sub G F ∧ RepOs xs (kvs.map (·.2)) G
  | .xn C fs ds, v, _ => RepXn w H C fs ds v
  | .xo C fs xs, v, F => ∃ a Ca dd kvs G, v = .ref a ∧ w.cl.ex a Ca (some dd) ∧ w.cl.b.at_ C = some Ca ∧ H dd = some (.xd kvs) ∧ kvs.map (·.1) = fs.map Str.ofString ∧ F dd ∧ ¬ G dd ∧ Sub G F ∧ RepOs xs (kvs.map (·.2)) G
def RepOs : List O → List V → (Addr → Prop) → Prop
  | [], vs, _ => vs = []
  | o :: os, vs, F => ∃ v r F1 F2, vs = v :: r ∧ Sub F1 F ∧ Sub F2 F ∧ Disj F1 F2 ∧ RepO o v F1 ∧ RepOs os r F2
end
end
mutual
/-- the data, without who owns it -/
def O.er : O → D
  | .lf _ d => d
  | .lst xs => .lst (O.ers xs)
  | .tup xs => .tup (O.ers xs)
  | .dct ks xs => .dct ks (O.ers xs)
  | .dcT ks xs => .dcT ks (O.ers xs)
  | .obj C fs xs => .obj C fs (O.ers xs)
  | .xn _ _ _ => .opq
  | .xo _ _ _ => .opq
def O.ers : List O → List D
  | [] => []
  | o :: os => o.er :: O.ers os
end
mutual
/-- no leaf of the kinds that p names -/
def O.no (p : Kd → Bool) : O → Bool
  | .lf k _ => !p k
  | .lst xs => O.nos p xs
  | .tup xs => O.nos p xs
  | .dct _ xs => O.nos p xs
  | .dcT _ xs => O.nos p xs
  | .obj _ _ xs => O.nos p xs
  | .xn _ _ _ => !p .tb && !p .fz
  | .xo _ _ xs => !p .tb && !p .fz && O.nos p xs
def O.nos (p : Kd → Bool) : List O → Bool
  | [] => true
  | o :: os => o.no p && O.nos p os
end
def lfk (k : Kd) (d : D) : O := if d.imm then .lf .fz d else .lf k d
theorem O.ers_eq (xs : List O) : O.ers xs = xs.map O.er := by
  induction xs with
  | nil => rfl
  | cons x r ih => rw [O.ers, ih]; rfl
theorem O.nos_eq (p : Kd → Bool) (xs : List O) : O.nos p xs = xs.all (O.no p) := by
  induction xs with
  | nil => rfl
  | cons x r ih => rw [O.nos, ih]; rfl
theorem D.imms_eq (xs : List D) : D.imms xs = xs.all D.imm := by
  induction xs with
  | nil => rfl
  | cons x r ih => rw [D.imms, ih]; rfl
section
variable {cl : Cl} {H H' : Hp} {S S' : Addr → Prop}
theorem Reps.length : ∀ {ds : List D} {vs : List V}, Reps cl H S ds vs → vs.length = ds.length
  | [], vs, h => by simp only [Reps] at h; subst h; rfl
  | d :: ds, vs, h => by
    simp only [Reps] at h
    obtain ⟨v, r, rfl, _, h2⟩ := h
    simp [Reps.length h2]
def KeepS (H H' : Hp) (S S' : Addr → Prop) : Prop := (∀ a u, S a → Rd H a u → nTb u → S' a ∧ Rd H' a u) ∧ (∀ a C dx fs, S a → H a = some (.ins C dx fs) → H' a = some (.ins C dx fs)) ∧ (∀ a xs, H a = some (.tup xs) → H' a = some (.tup xs)) ∧ (∀ a xs, S a → H a = some (.lst xs) → H' a = some (.lst xs)) ∧ ∀ a xs, S a → H a = some (.xd xs) → H' a = some (.xd xs)
mutual
theorem Rep.keep (k : KeepS H H' S S') : ∀ {d : D} {v : V}, Rep cl H S d v → Rep cl H' S' d v
  | .non, v, h => h
  | .bl _, v, h => h
  | .int _, v, h => h
  | .str _, v, h => h
  | .lst xs, v, h => by
    simp only [Rep] at h ⊢
    obtain ⟨a, vs, e, s, r, q⟩ := h
    exact ⟨a, vs, e, (k.1 a _ s (.inl r) True.intro).1, k.2.2.2.1 a _ s r, Reps.keep k q⟩
  | .scr xs, v, h => by
    simp only [Rep] at h ⊢
    obtain ⟨a, vs, e, r, q⟩ := h
    exact ⟨a, vs, e, r.imp (fun z => k.1 a _ z.1 z.2 True.intro) id, Reps.keep k q⟩
  | .tup xs, v, h => by
    simp only [Rep] at h ⊢
    obtain ⟨a, vs, e, r, q⟩ := h
    exact ⟨a, vs, e, k.2.2.1 a _ r, Reps.keep k q⟩
  | .dct ks xs, v, h => by
    simp only [Rep] at h ⊢
    obtain ⟨a, vs, e, s, r, z, q⟩ := h
    exact ⟨a, vs, e, (k.1 a _ s r True.intro).1, (k.1 a _ s r True.intro).2, z, Reps.keep k q⟩
  | .dcT ks xs, v, h => by
    simp only [Rep] at h ⊢
    obtain ⟨a, vs, e, s, r, z, q⟩ := h
    exact ⟨a, vs, e, (k.1 a _ s r True.intro).1, (k.1 a _ s r True.intro).2, z, Reps.keep k q⟩
  | .obj C fs xs, v, h => by
    simp only [Rep] at h ⊢
    obtain ⟨a, Ca, dx, vs, e, s, c, r, z, q⟩ := h
    exact ⟨a, Ca, dx, vs, e, (k.1 a _ s (.inl r) True.intro).1, c, k.2.1 a _ _ _ s r, z, Reps.keep k q⟩
  | .kt, v, h => h
  | .opq, v, h => by simp only [Rep]
theorem Reps.keep (k : KeepS H H' S S') : ∀ {ds : List D} {vs : List V}, Reps cl H S ds vs → Reps cl H' S' ds vs
  | [], vs, h => h
  | d :: ds, vs, h => by
    simp only [Reps] at h ⊢
    obtain ⟨v, r, e, h1, h2⟩ := h
    exact ⟨v, r, e, Rep.keep k h1, Reps.keep k h2⟩
end
mutual
theorem Rep.imm (k : ∀ a xs, H a = some (.tup xs) → H' a = some (.tup xs)) : ∀ {d : D} {v : V}, d.imm = true → Rep cl H S d v → Rep cl H' S' d v
  | .non, v, _, h => h
  | .bl _, v, _, h => h
  | .int _, v, _, h => h
  | .str _, v, _, h => h
  | .lst xs, v, i, h => by simp [D.imm] at i
  | .scr xs, v, i, h => by simp [D.imm] at i
  | .tup xs, v, i, h => by
    simp only [Rep] at h ⊢
    obtain ⟨a, vs, e, r, q⟩ := h
    exact ⟨a, vs, e, k a _ r, Reps.imm k (by simpa [D.imm] using i) q⟩
  | .dct ks xs, v, i, h => by simp [D.imm] at i
  | .dcT ks xs, v, i, h => by simp [D.imm] at i
  | .obj C fs xs, v, i, h => by simp [D.imm] at i
  | .kt, v, i, h => by simp [D.imm] at i
  | .opq, v, i, h => by simp [D.imm] at i
theorem Reps.imm (k : ∀ a xs, H a = some (.tup xs) → H' a = some (.tup xs)) : ∀ {ds : List D} {vs : List V}, D.imms ds = true → Reps cl H S ds vs → Reps cl H' S' ds vs
  | [], vs, _, h => h
  | d :: ds, vs, i, h => by
    simp only [Reps] at h ⊢
    simp only [D.imms, Bool.and_eq_true] at i
    obtain ⟨v, r, e, h1, h2⟩ := h
    exact ⟨v, r, e, Rep.imm k i.1 h1, Reps.imm k i.2 h2⟩
end
end
section
variable {w w' : Wd} {H H' : Hp}
theorem Rd.same {H H' : Hp} {a : Addr} {u : HO} (s : Same H H') (n : nTb u) (r : Rd H a u) : Rd H' a u := r.elim (fun e => .inl (s.nt n e)) fun ⟨o, e⟩ => .inr ⟨o, s _ _ e⟩
theorem KeepS.same {S S' : Addr → Prop} (s : Same H H') (h : Sub S S') : KeepS H H' S S' := ⟨fun a u z r n => ⟨h a z, Rd.same s n r⟩, fun _ _ _ _ _ e => s _ _ e, fun _ _ e => s _ _ e, fun _ _ _ e => s _ _ e, fun _ _ _ e => s _ _ e⟩
theorem RepOs.length : ∀ {os : List O} {vs : List V} {F : Addr → Prop}, RepOs w H os vs F → vs.length = os.length
  | [], vs, F, h => by simp only [RepOs] at h; subst h; rfl
  | o :: os, vs, F, h => by
    simp only [RepOs] at h
    obtain ⟨v, r, F1, F2, rfl, _, _, _, _, h2⟩ := h
    simp [RepOs.length h2]
theorem RepXn.keep {C : String} {fs : List String} {ds : List D} {v : V} (hc : w'.cl = w.cl) (k : KeepS H H' w.Z w'.Z) (kt : KeepS H H' w.T w'.T) (h : RepXn w H C fs ds v) : RepXn w' H' C fs ds v := by
  obtain ⟨a, Ca, d, e, x, c, h⟩ := h
  refine ⟨a, Ca, d, e, by rw [hc]; exact x, by rw [hc]; exact c, ?_⟩
  rcases h with h | ⟨dd, kvs, e1, z, r, e2, q⟩ | ⟨e1, e2, dd, kvs, e3, z, r⟩
  · exact .inl h
  · exact .inr (.inl ⟨dd, kvs, e1, (k.1 dd _ z (.inl r) True.intro).1, k.2.2.2.2 dd _ z r, e2, by rw [hc]; exact Reps.keep k q⟩)
  · exact .inr (.inr ⟨e1, e2, dd, kvs, e3, (kt.1 dd _ z (.inl r) True.intro).1, kt.2.2.2.2 dd _ z r⟩)
mutual
/-- p: the kinds of leaves that occur not -/
theorem RepO.keep {p : Kd → Bool} (hc : w'.cl = w.cl) (k : ∀ x, p x = false → KeepS H H' (w.S x) (w'.S x)) (t : ∀ a xs, H a = some (.tup xs) → H' a = some (.tup xs)) :
    ∀ {o : O} {v : V} {F : Addr → Prop}, o.no p = true → (∀ a u, F a → H a = some u → nTb u → H' a = some u) → RepO w H o v F → RepO w' H' o v F
  | .lf x d, v, F, n, f, h => by
    simp only [RepO] at h ⊢
    rw [hc]
    exact Rep.keep (k x (by simpa [O.no] using n)) h
  | .lst xs, v, F, n, f, h => by
    simp only [RepO] at h ⊢
    obtain ⟨a, vs, G, e, r, fa, ga, sg, q⟩ := h
    exact ⟨a, vs, G, e, f a _ fa r True.intro, fa, ga, sg, RepOs.keep hc k t (by simpa [O.no] using n) (fun b u z => f b u (sg b z)) q⟩
  | .tup xs, v, F, n, f, h => by
    simp only [RepO] at h ⊢
    obtain ⟨a, vs, e, r, q⟩ := h
    exact ⟨a, vs, e, t a _ r, RepOs.keep hc k t (by simpa [O.no] using n) f q⟩
  | .dct ks xs, v, F, n, f, h => by
    simp only [RepO] at h ⊢
    obtain ⟨a, vs, G, e, r, z, fa, ga, sg, q⟩ := h
    exact ⟨a, vs, G, e, f a _ fa r True.intro, z, fa, ga, sg, RepOs.keep hc k t (by simpa [O.no] using n) (fun b u z => f b u (sg b z)) q⟩
  | .dcT ks xs, v, F, n, f, h => by
    simp only [RepO] at h ⊢
    obtain ⟨a, vs, G, e, r, z, fa, ga, sg, q⟩ := h
    exact ⟨a, vs, G, e, f a _ fa r True.intro, z, fa, ga, sg, RepOs.keep hc k t (by simpa [O.no] using n) (fun b u z => f b u (sg b z)) q⟩
  | .obj C fs xs, v, F, n, f, h => by
    simp only [RepO] at h ⊢
    obtain ⟨a, Ca, dx, vs, G, e, c, r, z, fa, ga, sg, q⟩ := h
    exact ⟨a, Ca, dx, vs, G, e, by rw [hc]; exact c, f a _ fa r True.intro, z, fa, ga, sg, RepOs.keep hc k t (by simpa [O.no] using n) (fun b u z => f b u (sg b z)) q⟩
  | .xn C fs ds, v, F, n, f, h => by
    simp only [RepO] at h ⊢
    simp only [O.no, Bool.and_eq_true, Bool.not_eq_true'] at n
    exact RepXn.keep hc (k .fz n.2) (k .tb n.1) h
  | .xo C fs xs, v, F, n, f, h => by
    simp only [RepO] at h ⊢
    simp only [O.no, Bool.and_eq_true] at n
    obtain ⟨a, Ca, dd, vs, G, e, x, c, r, z, fa, ga, sg, q⟩ := h
    exact ⟨a, Ca, dd, vs, G, e, by rw [hc]; exact x, by rw [hc]; exact c, f dd _ fa r True.intro, z, fa, ga, sg, RepOs.keep hc k t n.2 (fun b u z => f b u (sg b z)) q⟩
theorem RepOs.keep {p : Kd → Bool} (hc : w'.cl = w.cl) (k : ∀ x, p x = false → KeepS H H' (w.S x) (w'.S x)) (t : ∀ a xs, H a = some (.tup xs) → H' a = some (.tup xs)) :
    ∀ {os : List O} {vs : List V} {F : Addr → Prop}, O.nos p os = true → (∀ a u, F a → H a = some u → nTb u → H' a = some u) → RepOs w H os vs F → RepOs w' H' os vs F
  | [], vs, F, _, _, h => h
  | o :: os, vs, F, n, f, h => by
    simp only [RepOs] at h ⊢
    simp only [O.nos, Bool.and_eq_true] at n
    obtain ⟨v, r, F1, F2, e, s1, s2, d, h1, h2⟩ := h
    exact ⟨v, r, F1, F2, e, s1, s2, d, RepO.keep hc k t n.1 (fun a u z => f a u (s1 a z)) h1, RepOs.keep hc k t n.2 (fun a u z => f a u (s2 a z)) h2⟩
end
mutual
theorem RepO.mono : ∀ {o : O} {v : V} {F G : Addr → Prop}, Sub F G → RepO w H o v F → RepO w H o v G
  | .lf x d, v, F, G, s, h => h
  | .lst xs, v, F, G, s, h => by
    simp only [RepO] at h ⊢
    obtain ⟨a, vs, E, e, r, fa, ga, sg, q⟩ := h
    exact ⟨a, vs, E, e, r, s a fa, ga, fun b z => s b (sg b z), q⟩
  | .tup xs, v, F, G, s, h => by
    simp only [RepO] at h ⊢
    obtain ⟨a, vs, e, r, q⟩ := h
    exact ⟨a, vs, e, r, RepOs.mono s q⟩
  | .dct ks xs, v, F, G, s, h => by
    simp only [RepO] at h ⊢
    obtain ⟨a, vs, E, e, r, z, fa, ga, sg, q⟩ := h
    exact ⟨a, vs, E, e, r, z, s a fa, ga, fun b z => s b (sg b z), q⟩
  | .dcT ks xs, v, F, G, s, h => by
    simp only [RepO] at h ⊢
    obtain ⟨a, vs, E, e, r, z, fa, ga, sg, q⟩ := h
    exact ⟨a, vs, E, e, r, z, s a fa, ga, fun b z => s b (sg b z), q⟩
  | .obj C fs xs, v, F, G, s, h => by
    simp only [RepO] at h ⊢
    obtain ⟨a, Ca, dx, vs, E, e, c, r, z, fa, ga, sg, q⟩ := h
    exact ⟨a, Ca, dx, vs, E, e, c, r, z, s a fa, ga, fun b z => s b (sg b z), q⟩
  | .xn C fs ds, v, F, G, s, h => h
  | .xo C fs xs, v, F, G, s, h => by
    simp only [RepO] at h ⊢
    obtain ⟨a, Ca, dd, vs, E, e, x, c, r, z, fa, ga, sg, q⟩ := h
    exact ⟨a, Ca, dd, vs, E, e, x, c, r, z, s dd fa, ga, fun b z => s b (sg b z), q⟩
theorem RepOs.mono : ∀ {os : List O} {vs : List V} {F G : Addr → Prop}, Sub F G → RepOs w H os vs F → RepOs w H os vs G
  | [], vs, F, G, _, h => h
  | o :: os, vs, F, G, s, h => by
    simp only [RepOs] at h ⊢
    obtain ⟨v, r, F1, F2, e, s1, s2, d, h1, h2⟩ := h
    exact ⟨v, r, F1, F2, e, fun a z => s a (s1 a z), fun a z => s a (s2 a z), d, h1, h2⟩
end
mutual
/-- an owned tree as data: S holds what it owns and what its leaves hold -/
theorem RepO.toRep {S : Addr → Prop} {p : Kd → Bool} (k : ∀ x, p x = false → Sub (w.S x) S) : ∀ {o : O} {v : V} {F : Addr → Prop}, o.no p = true → Sub F S → RepO w H o v F → Rep w.cl H S o.er v
  | .lf x d, v, F, n, s, h => by
    simp only [RepO] at h
    exact Rep.keep (KeepS.same (Same.refl _) (k x (by simpa [O.no] using n))) h
  | .lst xs, v, F, n, s, h => by
    simp only [RepO] at h
    simp only [O.er, Rep]
    obtain ⟨a, vs, E, e, r, fa, ga, sg, q⟩ := h
    exact ⟨a, vs, e, s a fa, r, RepOs.toRep k (by simpa [O.no] using n) (fun b z => s b (sg b z)) q⟩
  | .tup xs, v, F, n, s, h => by
    simp only [RepO] at h
    simp only [O.er, Rep]
    obtain ⟨a, vs, e, r, q⟩ := h
    exact ⟨a, vs, e, r, RepOs.toRep k (by simpa [O.no] using n) s q⟩
  | .dct ks xs, v, F, n, s, h => by
    simp only [RepO] at h
    simp only [O.er, Rep]
    obtain ⟨a, vs, E, e, r, z, fa, ga, sg, q⟩ := h
    exact ⟨a, vs, e, s a fa, .inl r, z, RepOs.toRep k (by simpa [O.no] using n) (fun b z => s b (sg b z)) q⟩
  | .dcT ks xs, v, F, n, s, h => by
    simp only [RepO] at h
    simp only [O.er, Rep]
    obtain ⟨a, vs, E, e, r, z, fa, ga, sg, q⟩ := h
    exact ⟨a, vs, e, s a fa, .inl r, z, RepOs.toRep k (by simpa [O.no] using n) (fun b z => s b (sg b z)) q⟩
  | .obj C fs xs, v, F, n, s, h => by
    simp only [RepO] at h
    simp only [O.er, Rep]
    obtain ⟨a, Ca, dx, vs, E, e, c, r, z, fa, ga, sg, q⟩ := h
    exact ⟨a, Ca, dx, vs, e, s a fa, c, r, z, RepOs.toRep k (by simpa [O.no] using n) (fun b z => s b (sg b z)) q⟩
  | .xn C fs ds, v, F, n, s, h => by simp only [O.er, Rep]
  | .xo C fs ds, v, F, n, s, h => by simp only [O.er, Rep]
theorem RepOs.toRep {S : Addr → Prop} {p : Kd → Bool} (k : ∀ x, p x = false → Sub (w.S x) S) : ∀ {os : List O} {vs : List V} {F : Addr → Prop}, O.nos p os = true → Sub F S → RepOs w H os vs F → Reps w.cl H S (O.ers os) vs
  | [], vs, F, _, _, h => by simpa [RepOs, O.ers, Reps] using h
  | o :: os, vs, F, n, s, h => by
    simp only [RepOs] at h
    simp only [O.ers, Reps]
    simp only [O.nos, Bool.and_eq_true] at n
    obtain ⟨v, r, F1, F2, e, s1, s2, d, h1, h2⟩ := h
    exact ⟨v, r, e, RepO.toRep k n.1 (fun a z => s a (s1 a z)) h1, RepOs.toRep k n.2 (fun a z => s a (s2 a z)) h2⟩
end
theorem O.no_none : ∀ (o : O), o.no (fun _ => false) = true := by
  intro o
  induction o using O.rec (motive_2 := fun os => O.nos (fun _ => false) os = true) with
  | lf k d => rfl
  | lst xs ih => simpa [O.no] using ih
  | tup xs ih => simpa [O.no] using ih
  | dct ks xs ih => simpa [O.no] using ih
  | dcT ks xs ih => simpa [O.no] using ih
  | obj C fs xs ih => simpa [O.no] using ih
  | xn C fs ds => rfl
  | xo C fs xs ih => simpa [O.no] using ih
  | nil => rfl
  | cons o os h1 h2 => simp [O.nos, h1, h2]
end
end VL
namespace VL
open PySem PySem.Spec PyProof.Rows L2
structure Exn where
  cls : String
  fs : List String
  xs : List O
inductive R (α : Type) where
  | ok (a : α) | ex (x : Exn) | no
def R.bind {α β : Type} (r : R α) (f : α → R β) : R β := match r with
  | .ok a => f a
  | .ex x => .ex x
  | .no => .no
abbrev DEnv := List (Option O)
def clM (mg : Str → Option Value) (C : String) : Option Addr := match mg (Str.ofString C) with
  | some (.ref a) => some a
  | _ => none
def KL (K : PySem.W.Frag) (a : Addr) (xs : List V) : Prop := ∃ (o : Obj) (its : Array Value) (n : Nat), K.lookup a = some o ∧ o.cls = .type "list" ∧ o.dict = none ∧ o.data = .seq its n ∧ its.size ≤ sizeLine ∧ Vals xs its.toList
def KT (K : PySem.W.Frag) (a : Addr) : Prop := ∃ (o : Obj) (n : Nat), K.lookup a = some o ∧ o.cls = .type "tuple" ∧ o.data = .seq #[] n
def KTb (K : PySem.W.Frag) (mg : Str → Option Value) (P : Addr) (q : Str) : Prop := q = lamN ∧ ∃ f o fd c, mg mkrN = some (.ref f) ∧ K.lookup f = some o ∧ o.data = .func fd ∧ fd.code = .ref c ∧ PySem.W.codeHdIn K c P = true
def CbOk (K : PySem.W.Frag) (mg : Str → Option Value) (b : Cb) : Prop := (b.at_ = clM mg ∧ (∀ a, b.kt a ↔ KT K a) ∧ ∀ P q, KTb K mg P q → b.tb P q) ∧ ∀ a xs, b.kl a xs → KL K a xs
def ClOk (X : Cx) (c : Cl) : Prop := CbOk X.K X.mg c.b ∧ ∀ a Ca d, c.ex a Ca d → X.calm = false ∧ ∃ oe pn, X.pn = (a, oe) :: pn ∧ Zc (.ref Ca) d oe ∧ ∃ vs, oe.data = .fields vs
section
variable (w : Wd) (H : Hp)
def RepX (x : Exn) (cls : Value) (d : Option Addr) (F : Addr → Prop) : Prop :=
  ∃ Ca, w.cl.b.at_ x.cls = some Ca ∧ cls = .ref Ca ∧ ((x.fs = [] ∧ x.xs = [] ∧ d = none) ∨ ∃ a kvs G, d = some a ∧ H a = some (.xd kvs) ∧ kvs.map (·.1) = x.fs.map Str.ofString ∧ F a ∧ ¬ G a ∧ Sub G F ∧ RepOs w H x.xs (kvs.map (·.2)) G)
end
def ntO : HO → Prop
  | .tup _ => False
  | .tbl _ => False
  | .ext _ => False
  | _ => True
def NT (o : Option HO) : Prop := ∃ u, o = some u ∧ ntO u
theorem ntO.nTb {u : HO} (n : ntO u) : nTb u := by
  cases u <;> first | exact True.intro | exact n
theorem NT.ne {o : Option HO} (h : NT o) : o ≠ none := fun e => by
  obtain ⟨u, e', _⟩ := h
  rw [e] at e'; cases e'
theorem NT.same {H H' : Hp} {a : Addr} (s : Same H H') (h : NT (H a)) : NT (H' a) := by
  obtain ⟨u, e, n⟩ := h
  exact ⟨u, s.nt n.nTb e, n⟩
theorem NT.ntup {o : Option HO} {xs : List V} (h : NT o) (e : o = some (.tup xs)) : False := by
  obtain ⟨u, e', n⟩ := h
  rw [e] at e'; cases e'; exact n
theorem NT.ntbl {o : Option HO} {xs : Array Value} (h : NT o) (e : o = some (.tbl xs)) : False := by
  obtain ⟨u, e', n⟩ := h
  rw [e] at e'; cases e'; exact n
theorem NT.next {o : Option HO} {x : Heap → Prop} (h : NT o) (e : o = some (.ext x)) : False := by
  obtain ⟨u, e', n⟩ := h
  rw [e] at e'; cases e'; exact n
theorem TabL.but {H H' : Hp} {x : Addr} {ps : Array Value} {q : Str} (h : TabL H ps q) (nx : NT (H x) ∨ H x = none) (k : ∀ b o, b ≠ x → H b = some o → H' b = some o) : TabL H' ps q := h.to fun c e => k c _ (fun z => by
  rw [z] at e
  exact nx.elim (fun n => n.next e) fun n => by rw [n] at e; cases e) e
theorem Kp.but {H0 H H' : Hp} {a x : Addr} {u : HO} (h : Kp H0 H a u) (nx : NT (H x) ∨ H x = none) (k : ∀ b o, b ≠ x → H b = some o → H' b = some o) (na : nTb u → a ≠ x) : Kp H0 H' a u := by
  cases u
  case tbl ps =>
    obtain ⟨ps', e, t⟩ := h
    exact ⟨ps', k a _ (fun z => by
      rw [z] at e
      exact nx.elim (fun n => n.ntbl e) fun n => by rw [n] at e; cases e) e, fun q z => (t q z).but nx k⟩
  all_goals exact k a _ (na True.intro) h
theorem TabL.butF {H H' : Hp} {F : Addr → Prop} {ps : Array Value} {q : Str} (h : TabL H ps q) (nx : ∀ b, F b → NT (H b)) (k : ∀ b o, H b = some o → ¬ F b → H' b = some o) : TabL H' ps q := h.to fun c e => k c _ e fun z => (nx c z).next e
theorem TabAt.butF {H H' : Hp} {F : Addr → Prop} {P : Addr} {q : Str} (h : TabAt H P q) (nx : ∀ b, F b → NT (H b)) (k : ∀ b o, H b = some o → ¬ F b → H' b = some o) : TabAt H' P q := by
  obtain ⟨ps, e, t⟩ := h
  exact ⟨ps, k P _ e fun z => (nx P z).ntbl e, t.butF nx k⟩
theorem Kp.butF {H0 H H' : Hp} {a : Addr} {u : HO} {F : Addr → Prop} (h : Kp H0 H a u) (nx : ∀ b, F b → NT (H b)) (k : ∀ b o, H b = some o → ¬ F b → H' b = some o) (na : nTb u → ¬ F a) : Kp H0 H' a u := by
  cases u
  case tbl ps =>
    obtain ⟨ps', e, t⟩ := h
    exact ⟨ps', k a _ e fun z => (nx a z).ntbl e, fun q z => (t q z).butF nx k⟩
  all_goals exact k a _ h (na True.intro)
theorem TabL.upd {H : Hp} {a : Addr} {u : HO} {ps : Array Value} {q : Str} (h : TabL H ps q) (n : NT (H a) ∨ H a = none) : TabL (upd H a u) ps q := h.but n fun b o n e => by rw [upd_ne n]; exact e
theorem TabAt.upd {H : Hp} {a : Addr} {u : HO} {P : Addr} {q : Str} (h : TabAt H P q) (n : NT (H a) ∨ H a = none) : TabAt (upd H a u) P q := by
  obtain ⟨ps, e, t⟩ := h
  refine ⟨ps, ?_, t.upd n⟩
  rw [upd_ne fun z => ?_]
  · exact e
  · rw [z] at e
    exact n.elim (fun n => n.ntbl e) fun n => by rw [n] at e; cases e
theorem Same.updN {H0 H : Hp} {x : Addr} {u : HO} (s : Same H0 H) (hx : H0 x = none) (nx : NT (H x) ∨ H x = none) : Same H0 (upd H x u) := fun b o e => (s b o e).but nx (fun c v n e => by rw [upd_ne n]; exact e) (fun _ z => by rw [z, hx] at e; cases e)
theorem Kp.thn {H0 H H' : Hp} {a : Addr} {u : HO} (h : Kp H0 H a u) (k : ∀ o, H a = some o → Kp H H' a o) : Kp H0 H' a u := by
  cases u
  case tbl ps =>
    obtain ⟨ps', e, t⟩ := h
    obtain ⟨ps2, e2, t2⟩ := k _ e
    exact ⟨ps2, e2, fun q z => t2 q (t q z)⟩
  all_goals exact k _ h
theorem NT.lst {o : Option HO} {xs : List V} (h : o = some (.lst xs)) : NT o := ⟨_, h, True.intro⟩
def Fresh (H0 H' : Hp) (F : Addr → Prop) : Prop := ∀ a, F a → H0 a = none ∧ NT (H' a)
def OutE {α : Type} (w : Wd) (W : WX) (σ : L2.St) (H0 H : Hp) (rep : Hp → α → V → (Addr → Prop) → Prop) (r : R α) (Q : VK) : Prop := match r with
  | .ok o => ∀ v H' F, Same H H' → rep H' o v F → Fresh H0 H' F → Q v H'
  | .ex x => ∀ cls d H' F, Same H H' → RepX w H' x cls d F → Fresh H0 H' F → W cls d σ H'
  | .no => False
def AlT (w : Wd) (H : Hp) : Prop := (∀ a, w.T a → H a ≠ none) ∧ ∀ P q, w.cl.b.tb P q → TabAt H P q
theorem AlT.same {w : Wd} {H H' : Hp} (s : Same H H') (h : AlT w H) : AlT w H' := ⟨fun a t z => h.1 a t (s.free z), fun P q t => s.tab (h.2 P q t)⟩
structure GoodE (w : Wd) (env : DEnv) (σ : L2.St) (H : Hp) : Prop where
  at_ : ∀ (i : Nat) (o : O), env[i]? = some (some o) → ∃ v, σ[i]? = some (some v) ∧ RepO w H o v (fun _ => False)
  zt : Sub w.Z w.T
  bt : Sub w.B w.T
  al : AlT w H
  len : σ.length = env.length
theorem RepO.same {w : Wd} {H H' : Hp} {o : O} {v : V} {F : Addr → Prop} (s : Same H H') (h : RepO w H o v F) : RepO w H' o v F :=
  RepO.keep (w' := w) (p := fun _ => false) rfl (fun x _ => KeepS.same s fun _ z => z) (fun _ _ e => s _ _ e) (O.no_none o) (fun _ _ _ e n => s.nt n e) h
theorem GoodE.same {w : Wd} {env : DEnv} {σ : L2.St} {H H' : Hp} (s : Same H H') (G : GoodE w env σ H) : GoodE w env σ H' :=
  ⟨fun i o e => let ⟨v, e1, r⟩ := G.at_ i o e; ⟨v, e1, RepO.same s r⟩, G.zt, G.bt, G.al.same s, G.len⟩
def rE (w : Wd) (W : WX) (m : DEnv → R O) : TE := fun σ H Q => ∃ env, GoodE w env σ H ∧ OutE w W σ H H (RepO w) (m env) Q
def rT (w : Wd) (W : WX) (m : DEnv → R Bool) : TT := fun σ H Q => ∃ env, GoodE w env σ H ∧ match m env with
  | .ok b => ∀ H', Same H H' → Q b H'
  | .ex x => ∀ cls d H' F, Same H H' → RepX w H' x cls d F → Fresh H H' F → W cls d σ H'
  | .no => False
def rA (w : Wd) (W : WX) (m : DEnv → R (List O)) : TA := fun σ H Q => ∃ env, GoodE w env σ H ∧ match m env with
  | .ok os => ∀ vs H' F, Same H H' → RepOs w H' os vs F → Fresh H H' F → Q vs H'
  | .ex x => ∀ cls d H' F, Same H H' → RepX w H' x cls d F → Fresh H H' F → W cls d σ H'
  | .no => False
theorem Fresh.base {H0 H1 H' : Hp} {F : Addr → Prop} (s : Same H0 H1) (f : Fresh H1 H' F) : Fresh H0 H' F := fun a z => ⟨s.free (f a z).1, (f a z).2⟩
theorem Fresh.up {H0 H1 H' : Hp} {F : Addr → Prop} (s : Same H1 H') (f : Fresh H0 H1 F) : Fresh H0 H' F := fun a z => ⟨(f a z).1, (f a z).2.same s⟩
theorem RepX.same {w : Wd} {H H' : Hp} {x : Exn} {cls : Value} {d : Option Addr} {F : Addr → Prop} (s : Same H H') (h : RepX w H x cls d F) : RepX w H' x cls d F := by
  obtain ⟨Ca, c, e, h⟩ := h
  refine ⟨Ca, c, e, ?_⟩
  rcases h with h | ⟨a, kvs, G, e1, e2, e3, f, g, sg, r⟩
  · exact .inl h
  · exact .inr ⟨a, kvs, G, e1, s _ _ e2, e3, f, g, sg, RepOs.keep (w' := w) (p := fun _ => false) rfl (fun x _ => KeepS.same s fun _ z => z) (fun _ _ e => s _ _ e) (by rw [O.nos_eq]; exact List.all_eq_true.mpr fun o _ => O.no_none o) (fun _ _ _ e n => s.nt n e) r⟩
theorem O.nos_none (os : List O) : O.nos (fun _ => false) os = true := by
  rw [O.nos_eq]; exact List.all_eq_true.mpr fun o _ => O.no_none o
theorem RepOs.same {w : Wd} {H H' : Hp} {o : List O} {v : List V} {F : Addr → Prop} (s : Same H H') (h : RepOs w H o v F) : RepOs w H' o v F :=
  RepOs.keep (w' := w) (p := fun _ => false) rfl (fun x _ => KeepS.same s fun _ z => z) (fun _ _ e => s _ _ e) (O.nos_none o) (fun _ _ _ e n => s.nt n e) h
theorem RepO.at {w : Wd} {H : Hp} {o : O} {v : V} {F : Addr → Prop} (h : RepO w H o v F) : Rep w.cl H (fun _ => True) o.er v :=
  RepO.toRep (p := fun _ => false) (fun _ _ _ _ => True.intro) (O.no_none o) (fun _ _ => True.intro) h
theorem RepOs.at {w : Wd} {H : Hp} {o : List O} {v : List V} {F : Addr → Prop} (h : RepOs w H o v F) : Reps w.cl H (fun _ => True) (O.ers o) v :=
  RepOs.toRep (p := fun _ => false) (fun _ _ _ _ => True.intro) (O.nos_none o) (fun _ _ => True.intro) h
def Out {α β : Type} (w : Wd) (W : WX) (σ : L2.St) (H0 H : Hp) (P : Hp → α → β → (Addr → Prop) → Prop) (r : R α) (Q : β → Hp → Prop) : Prop := match r with
  | .ok o => ∀ v H' F, Same H H' → P H' o v F → Fresh H0 H' F → Q v H'
  | .ex x => ∀ cls d H' F, Same H H' → RepX w H' x cls d F → Fresh H0 H' F → W cls d σ H'
  | .no => False
abbrev PB : Hp → Bool → Bool → (Addr → Prop) → Prop := fun _ b c _ => c = b
theorem Out.step {α β : Type} {w : Wd} {W : WX} {σ : L2.St} {H0 H H1 : Hp} {P : Hp → α → β → (Addr → Prop) → Prop} {r : R α} {Q : β → Hp → Prop} (s : Same H H1) (h : Out w W σ H0 H P r Q) : Out w W σ H0 H1 P r Q := by
  cases r with
  | ok o => exact fun v H' F s' => h v H' F (s.trans s')
  | ex x => exact fun cls d H' F s' => h cls d H' F (s.trans s')
  | no => exact h
theorem Out.bind {α β γ δ : Type} {w : Wd} {W : WX} {σ : L2.St} {H0 H : Hp} {P : Hp → α → β → (Addr → Prop) → Prop} {P' : Hp → γ → δ → (Addr → Prop) → Prop} {r : R α} {f : α → R γ} {Q : δ → Hp → Prop} {Q1 : β → Hp → Prop}
    (s0 : Same H0 H) (h : Out w W σ H0 H P' (r.bind f) Q) (k : ∀ o v H1 F1, r = .ok o → Same H H1 → P H1 o v F1 → Fresh H H1 F1 → Out w W σ H0 H1 P' (f o) Q → Q1 v H1) : Out w W σ H H P r Q1 := by
  cases r with
  | ok o => exact fun v H1 F1 s p fr => k o v H1 F1 rfl s p fr (Out.step s h)
  | ex x => exact fun cls d H' F s p fr => h cls d H' F s p (fr.base s0)
  | no => exact h
theorem rE_of {w : Wd} {W : WX} {m : DEnv → R O} {env : DEnv} {σ : L2.St} {H : Hp} {Q : VK} (G : GoodE w env σ H) (h : Out w W σ H H (RepO w) (m env) Q) : rE w W m σ H Q := by
  refine ⟨env, G, ?_⟩
  cases e : m env <;> rw [e] at h <;> exact h
theorem rE_to {w : Wd} {W : WX} {m : DEnv → R O} {σ : L2.St} {H : Hp} {Q : VK} (h : rE w W m σ H Q) : ∃ env, GoodE w env σ H ∧ Out w W σ H H (RepO w) (m env) Q := by
  obtain ⟨env, G, h⟩ := h
  refine ⟨env, G, ?_⟩
  cases e : m env <;> rw [e] at h <;> exact h
theorem rT_of {w : Wd} {W : WX} {m : DEnv → R Bool} {env : DEnv} {σ : L2.St} {H : Hp} {Q : Bool → Hp → Prop} (G : GoodE w env σ H) (h : Out w W σ H H PB (m env) Q) : rT w W m σ H Q := by
  refine ⟨env, G, ?_⟩
  cases e : m env with
  | ok b => rw [e] at h; exact fun H' s => h b H' (fun _ => False) s rfl fun _ z => z.elim
  | ex x => rw [e] at h; exact h
  | no => rw [e] at h; exact h
theorem rT_to {w : Wd} {W : WX} {m : DEnv → R Bool} {σ : L2.St} {H : Hp} {Q : Bool → Hp → Prop} (h : rT w W m σ H Q) : ∃ env, GoodE w env σ H ∧ Out w W σ H H PB (m env) Q := by
  obtain ⟨env, G, h⟩ := h
  refine ⟨env, G, ?_⟩
  cases e : m env with
  | ok b =>
    rw [e] at h
    intro c H' F s ec _
    rw [ec]
    exact h H' s
  | ex x => rw [e] at h; exact h
  | no => rw [e] at h; exact h
theorem rA_of {w : Wd} {W : WX} {m : DEnv → R (List O)} {env : DEnv} {σ : L2.St} {H : Hp} {Q : List V → Hp → Prop} (G : GoodE w env σ H) (h : Out w W σ H H (RepOs w) (m env) Q) : rA w W m σ H Q := by
  refine ⟨env, G, ?_⟩
  cases e : m env <;> rw [e] at h <;> exact h
theorem rA_to {w : Wd} {W : WX} {m : DEnv → R (List O)} {σ : L2.St} {H : Hp} {Q : List V → Hp → Prop} (h : rA w W m σ H Q) : ∃ env, GoodE w env σ H ∧ Out w W σ H H (RepOs w) (m env) Q := by
  obtain ⟨env, G, h⟩ := h
  refine ⟨env, G, ?_⟩
  cases e : m env <;> rw [e] at h <;> exact h
def VE (X : Cx) (e : Expr) (m : DEnv → R O) : Prop := ∀ (W : WX), Takes X W → ∀ w : Wd, ClOk X w.cl → PE X e (rE w W m)
def VT (X : Cx) (e : Expr) (m : DEnv → R Bool) : Prop := ∀ (W : WX), Takes X W → ∀ w : Wd, ClOk X w.cl → PT X e (rT w W m)
def VW (X : Cx) (e : Expr) (m : DEnv → R Bool) : Prop := ∀ (W : WX), Takes X W → ∀ w : Wd, ClOk X w.cl → PW X e (rT w W m)
def VA (X : Cx) (es : List Expr) (m : DEnv → R (List O)) : Prop := ∀ (W : WX), Takes X W → ∀ w : Wd, ClOk X w.cl → PA X es (rA w W m)
theorem _root_.L2.PE.imp {X : Cx} {e : Expr} {t t' : TE} (h : PE X e t) (k : ∀ σ H Q, t' σ H Q → t σ H Q) : PE X e t' := ⟨fun pins s σ H Q I q => h.run pins s σ H Q I (k σ H Q q)⟩
theorem _root_.L2.PT.imp {X : Cx} {e : Expr} {t t' : TT} (h : PT X e t) (k : ∀ σ H Q, t' σ H Q → t σ H Q) : PT X e t' := ⟨fun pins s σ H Q I q => h.run pins s σ H Q I (k σ H Q q)⟩
theorem _root_.L2.PW.imp {X : Cx} {e : Expr} {t t' : TT} (h : PW X e t) (k : ∀ σ H Q, t' σ H Q → t σ H Q) : PW X e t' := ⟨fun whole pins s σ H Q I q => h.run whole pins s σ H Q I (k σ H Q q)⟩
theorem _root_.L2.PA.imp {X : Cx} {es : List Expr} {t t' : TA} (h : PA X es t) (k : ∀ σ H Q, t' σ H Q → t σ H Q) : PA X es t' := ⟨fun pos pins s σ H Q I q => h.run pos pins s σ H Q I (k σ H Q q)⟩
theorem _root_.L2.PS.imp {X : Cx} {st : Stmt} {t t' : TS} (h : PS X st t) (k : ∀ D σ H, t' D σ H → t D σ H) : PS X st t' := ⟨fun pins s σ H D I q => h.run pins s σ H D I (k D σ H q)⟩
theorem _root_.L2.PSs.imp {X : Cx} {st : List Stmt} {t t' : TS} (h : PSs X st t) (k : ∀ D σ H, t' D σ H → t D σ H) : PSs X st t' := ⟨fun pins s σ H D I q => h.run pins s σ H D I (k D σ H q)⟩
section
variable {X : Cx} {a b : Expr} {ma mb : DEnv → R O} {pos : Pos}
def eVar (i : Nat) : DEnv → R O := fun env => match env[i]? with
  | some (some (.lf k d)) => .ok (lfk k d)
  | some (some (.xn C fs ds)) => .ok (.xn C fs ds)
  | _ => .no
def eC (d : D) : DEnv → R O := fun _ => .ok (.lf .fz d)
theorem lfk_rep {w : Wd} {H : Hp} {k : Kd} {d : D} {v : V} {F : Addr → Prop} (h : Rep w.cl H (w.S k) d v) : RepO w H (lfk k d) v F := by
  unfold lfk
  cases e : d.imm with
  | true =>
    rw [if_pos rfl]; simp only [RepO]; exact Rep.imm (fun _ _ q => q) e h
  | false =>
    rw [if_neg Bool.false_ne_true]; simpa only [RepO] using h
theorem lfk_er (k : Kd) (d : D) : (lfk k d).er = d := by
  unfold lfk; split <;> rfl
theorem ve_var (i : Nat) {x : Str} {pos : Pos} (hN : X.N[i]? = some x := by rfl) (hv : Vis X.env.scope x := by first | exact Or.inl rfl | exact Or.inr (Or.inl rfl) | exact Or.inr (Or.inr rfl)) (hd : (x == ("__debug__" : Str)) = false := by decide)
    (hcd : (x == ("__classdict__" : Str)) = false := by decide) : VE X (.Name x pos) (eVar i) := fun W tk w hc => (pe_var hN hv hd hcd).imp fun σ H Q h => by
  obtain ⟨env, G, h⟩ := rE_to h
  unfold eVar at h
  split at h
  · rename_i k d e
    obtain ⟨v, e1, r⟩ := G.at_ i _ e
    simp only [RepO] at r
    exact ⟨v, e1, h v H (fun _ => False) (Same.refl H) (lfk_rep r) fun _ z => z.elim⟩
  · rename_i C fs ds e
    obtain ⟨v, e1, r⟩ := G.at_ i _ e
    exact ⟨v, e1, h v H (fun _ => False) (Same.refl H) r fun _ z => z.elim⟩
  · exact h.elim
theorem ve_const {e : Expr} {d : D} {v : V} (hp : PE X e (tC v)) (hr : ∀ cl H S, Rep cl H S d v) : VE X e (eC d) := fun W tk w hc => hp.imp fun σ H Q h => by
  obtain ⟨env, G, h⟩ := rE_to h
  exact h v H (fun _ => False) (Same.refl H) (by simp only [RepO]; exact hr _ _ _) fun _ z => z.elim
theorem ve_int {i : Int} {j : Nat} {pos : Pos} : VE X (.Constant (.int i) j pos) (eC (.int i)) := ve_const pe_int fun _ _ _ => rfl
theorem ve_bl {i : Bool} {j : Nat} {pos : Pos} : VE X (.Constant (.bool i) j pos) (eC (.bl i)) := ve_const pe_bl fun _ _ _ => rfl
theorem ve_str {i : Str} {j : Nat} {pos : Pos} : VE X (.Constant (.str i) j pos) (eC (.str i)) := ve_const pe_str fun _ _ _ => rfl
def e2 (g : O → O → R O) (ma mb : DEnv → R O) : DEnv → R O := fun env => (ma env).bind fun x => (mb env).bind fun y => g x y
def Op2 (X : Cx) (r : R2) (g : O → O → R O) : Prop := ∀ (w : Wd) (W : WX) (σ : L2.St) (H0 H : Hp) (o1 o2 : O) (x y : V) (F1 F2 : Addr → Prop) (Q : VK), ClOk X w.cl → Same H0 H → RepO w H o1 x F1 → RepO w H o2 y F2 → Disj F1 F2 → Fresh H0 H F1 → Fresh H0 H F2 →
  Out w W σ H0 H (RepO w) (g o1 o2) Q → r x y H Q
theorem seq2 {w : Wd} {W : WX} {σ : L2.St} {H : Hp} {env : DEnv} {r : R2} {g : O → O → R O} (hr : Op2 X r g) (hc : ClOk X w.cl) {Q : VK} (G : GoodE w env σ H) (h : Out w W σ H H (RepO w) (e2 g ma mb env) Q) :
    rE w W ma σ H fun x H1 => rE w W mb σ H1 fun y H2 => r x y H2 Q :=
  rE_of G (Out.bind (Same.refl H) h fun o1 x H1 F1 _ s1 p1 f1 h1 => rE_of (G.same s1) (Out.bind s1 h1 fun o2 y H2 F2 _ s2 p2 f2 h2 =>
    hr w W σ H H2 o1 o2 x y F1 F2 Q hc (s1.trans s2) (RepO.same s2 p1) p2 (fun a z z2 => (f1 a z).2.ne (f2 a z2).1) (f1.up s2) (f2.base s1) h2))
theorem ve_op {op : Operator} {r : R2} {g : O → O → R O} (ho : OpR X (binaryOp op) r) (hr : Op2 X r g) (ha : VE X a ma) (hb : VE X b mb) : VE X (.BinOp a op b pos) (e2 g ma mb) := fun W tk w hc =>
  (pe_op ho (ha W tk w hc) (hb W tk w hc)).imp fun σ H Q h => let ⟨env, G, h⟩ := rE_to h; seq2 hr hc G h
theorem ve_cmp {op : CmpOp} {r : R2} {g : O → O → R O} (ho : OpR X (compareOp op) r) (hr : Op2 X r g) (ha : VE X a ma) (hb : VE X b mb) (hm : behindInMarks op b = false) : VE X (.Compare a [op] [b] pos) (e2 g ma mb) := fun W tk w hc =>
  (pe_cmpR ho (ha W tk w hc) (hb W tk w hc) hm).imp fun σ H Q h => let ⟨env, G, h⟩ := rE_to h; seq2 hr hc G h
def asB (o : O) : R Bool := match o.er with
  | .bl b => .ok b
  | _ => .no
def tOfE (m : DEnv → R O) : DEnv → R Bool := fun env => (m env).bind asB
theorem vt_cmp {op : CmpOp} {r : R2} {g : O → O → R O} (ho : OpR X (compareOp op) r) (hr : Op2 X r g) (ha : VE X a ma) (hb : VE X b mb) (hm : behindInMarks op b = false) : VT X (.Compare a [op] [b] pos) (tOfE (e2 g ma mb)) := fun W tk w hc =>
  (pt_cmpR ho (ha W tk w hc) (hb W tk w hc) hm).imp fun σ H Q h => by
    obtain ⟨env, G, h⟩ := rT_to h
    refine seq2 (W := W) hr hc G ?_
    refine Out.bind (Same.refl H) h fun o v H1 F1 _ s1 p1 f1 h1 => ?_
    have z := RepO.at p1
    unfold asB at h1
    cases e : o.er with
    | bl b =>
      rw [e] at h1 z
      exact ⟨b, z, h1 b H1 (fun _ => False) (Same.refl H1) rfl fun _ z => z.elim⟩
    | _ => rw [e] at h1; exact h1.elim
def opI (f : Int → Int → D) (c : Int → Int → Bool) (x y : O) : R O := match x.er, y.er with
  | .int i, .int j => if c i j then .ok (.lf .fz (f i j)) else .no
  | _, _ => .no
theorem op2_I {r : R2} {f : Int → Int → D} {c : Int → Int → Bool} {fv : Int → Int → V} (hf : ∀ cl H S i j, Rep cl H S (f i j) (fv i j)) (hr : ∀ i j H Q, c i j = true → Q (fv i j) H → r (.int i) (.int j) H Q) : Op2 X r (opI f c) := by
  intro w W σ H0 H o1 o2 x y F1 F2 Q hc s p1 p2 dj f1 f2 h
  have z1 := RepO.at p1
  have z2 := RepO.at p2
  unfold opI at h
  split at h
  · rename_i i j e1 e2
    rw [e1] at z1
    rw [e2] at z2
    simp only [Rep] at z1 z2
    subst z1
    subst z2
    by_cases hcd : c i j = true
    · rw [if_pos hcd] at h
      exact hr i j H Q hcd (h _ H (fun _ => False) (Same.refl H) (by simp only [RepO]; exact hf _ _ _ i j) fun _ z => z.elim)
    · rw [if_neg hcd] at h
      exact h.elim
  · exact h.elim
def cT (_ _ : Int) : Bool := true
def gSub := opI (fun i j => .int (i - j)) cT
def gLt := opI (fun i j => .bl (decide (i < j))) cT
def gLe := opI (fun i j => .bl (decide (i ≤ j))) cT
def gGt := opI (fun i j => .bl (decide (j < i))) cT
def gGe := opI (fun i j => .bl (decide (j ≤ i))) cT
theorem o_sub : Op2 X (rI0 fun i j => .int (i - j)) gSub := op2_I (fun _ _ _ _ _ => rfl) fun i j H Q _ q => ⟨i, j, rfl, rfl, q⟩
theorem o_lt : Op2 X (rI0 fun i j => .bl (decide (i < j))) gLt := op2_I (fun _ _ _ _ _ => rfl) fun i j H Q _ q => ⟨i, j, rfl, rfl, q⟩
theorem o_le : Op2 X (rI0 fun i j => .bl (decide (i ≤ j))) gLe := op2_I (fun _ _ _ _ _ => rfl) fun i j H Q _ q => ⟨i, j, rfl, rfl, q⟩
theorem o_gt : Op2 X (rI0 fun i j => .bl (decide (j < i))) gGt := op2_I (fun _ _ _ _ _ => rfl) fun i j H Q _ q => ⟨i, j, rfl, rfl, q⟩
theorem vt_lt (ha : VE X a ma) (hb : VE X b mb) : VT X (.Compare a [.Lt] [b] pos) (tOfE (e2 gLt ma mb)) := vt_cmp op_lt o_lt ha hb (nomark _)
end
end VL
namespace VL
open PySem PySem.Spec PyProof.Rows L2
def D.isL : D → Bool
  | .lst _ => true
  | _ => false
def D.isTp : D → Bool
  | .tup _ => true
  | _ => false
def elems : O → Option (List O)
  | .lf k (.lst ds) => some (ds.map (lfk k))
  | .lf k (.tup ds) => some (ds.map (lfk k))
  | .lst os => some os
  | .tup os => some os
  | _ => none
section
variable {w : Wd} {H : Hp}
theorem RepOs.leafs {k : Kd} : ∀ {ds : List D} {vs : List V} {F : Addr → Prop}, Reps w.cl H (w.S k) ds vs → RepOs w H (ds.map (lfk k)) vs F
  | [], vs, F, h => by simpa [RepOs, Reps] using h
  | d :: ds, vs, F, h => by
    simp only [Reps] at h
    obtain ⟨v, r, e, h1, h2⟩ := h
    simp only [List.map_cons, RepOs]
    exact ⟨v, r, fun _ => False, F, e, fun _ z => z.elim, fun _ z => z, fun _ z => z.elim, lfk_rep h1, RepOs.leafs h2⟩
theorem RepOs.get : ∀ {os : List O} {vs : List V} {F : Addr → Prop} {i : Nat} {o : O}, RepOs w H os vs F → os[i]? = some o → ∃ v F', vs[i]? = some v ∧ RepO w H o v F' ∧ Sub F' F
  | [], vs, F, i, o, h, e => by simp at e
  | x :: os, vs, F, 0, o, h, e => by
    simp only [RepOs] at h
    obtain ⟨v, r, F1, F2, rfl, s1, s2, d, h1, h2⟩ := h
    simp at e; subst e
    exact ⟨v, F1, rfl, h1, s1⟩
  | x :: os, vs, F, i + 1, o, h, e => by
    simp only [RepOs] at h
    obtain ⟨v, r, F1, F2, rfl, s1, s2, d, h1, h2⟩ := h
    obtain ⟨v', F', e', h', s'⟩ := RepOs.get h2 (show os[i]? = some o by simpa using e)
    exact ⟨v', F', by simpa using e', h', fun a z => s2 a (s' a z)⟩
theorem RepOs.take : ∀ (n : Nat) {os : List O} {vs : List V} {F : Addr → Prop}, RepOs w H os vs F → RepOs w H (os.take n) (vs.take n) F
  | 0, os, vs, F, h => by simp [RepOs]
  | n + 1, [], vs, F, h => by
    simp only [RepOs] at h; subst h; simp [RepOs]
  | n + 1, x :: os, vs, F, h => by
    simp only [RepOs] at h
    obtain ⟨v, r, F1, F2, rfl, s1, s2, d, h1, h2⟩ := h
    simp only [List.take_succ_cons, RepOs]
    exact ⟨v, r.take n, F1, F2, rfl, s1, s2, d, h1, RepOs.take n h2⟩
theorem RepOs.drop : ∀ (n : Nat) {os : List O} {vs : List V} {F : Addr → Prop}, RepOs w H os vs F → RepOs w H (os.drop n) (vs.drop n) F
  | 0, os, vs, F, h => by simpa using h
  | n + 1, [], vs, F, h => by
    simp only [RepOs] at h; subst h; simp [RepOs]
  | n + 1, x :: os, vs, F, h => by
    simp only [RepOs] at h
    obtain ⟨v, r, F1, F2, rfl, s1, s2, d, h1, h2⟩ := h
    simp only [List.drop_succ_cons]
    exact RepOs.mono s2 (RepOs.drop n h2)
theorem RepOs.append : ∀ {os ps : List O} {vs us : List V} {F G : Addr → Prop}, Disj F G → RepOs w H os vs F → RepOs w H ps us G → RepOs w H (os ++ ps) (vs ++ us) (fun a => F a ∨ G a)
  | [], ps, vs, us, F, G, d, h, h' => by
    simp only [RepOs] at h; subst h
    exact RepOs.mono (fun _ z => .inr z) h'
  | x :: os, ps, vs, us, F, G, d, h, h' => by
    simp only [RepOs] at h
    obtain ⟨v, r, F1, F2, rfl, s1, s2, d2, h1, h2⟩ := h
    simp only [List.cons_append, RepOs]
    exact ⟨v, r ++ us, F1, fun a => F2 a ∨ G a, rfl, fun a z => .inl (s1 a z), fun a z => z.elim (fun q => .inl (s2 a q)) .inr, fun a z q => q.elim (d2 a z) (d a (s1 a z)), h1, RepOs.append (fun a z => d a (s2 a z)) h2 h'⟩
def allLf : List O → Bool
  | [] => true
  | .lf _ _ :: r => allLf r
  | _ => false
theorem RepOs.free : ∀ {os : List O} {vs : List V} {F : Addr → Prop} (G : Addr → Prop), allLf os = true → RepOs w H os vs F → RepOs w H os vs G
  | [], vs, F, G, _, h => h
  | .lf k d :: os, vs, F, G, a, h => by
    simp only [RepOs] at h ⊢
    obtain ⟨v, r, F1, F2, rfl, s1, s2, d2, h1, h2⟩ := h
    exact ⟨v, r, fun _ => False, G, rfl, fun _ z => z.elim, fun _ z => z, fun _ z => z.elim, by simpa only [RepO] using h1, RepOs.free G (by simpa [allLf] using a) h2⟩
theorem RepOs.rep {os : List O} {vs : List V} {F : Addr → Prop} (a : allLf os = true) (h : RepOs w H os vs F) : ∀ n : Nat, RepOs w H (List.replicate n os).flatten (List.replicate n vs).flatten (fun _ => False)
  | 0 => by simp [RepOs]
  | n + 1 => by
    rw [List.replicate_succ, List.replicate_succ, List.flatten_cons, List.flatten_cons]
    exact RepOs.mono (fun _ z => z.elim id id) (RepOs.append (fun _ z => z.elim) (RepOs.free (fun _ => False) a h) (RepOs.rep a h n))
theorem elems_rep {o : O} {os : List O} {v : V} {F : Addr → Prop} (e : elems o = some os) (h : RepO w H o v F) : ∃ a vs, v = .ref a ∧ ((o.er.isL = true ∧ H a = some (.lst vs)) ∨ (o.er.isL = false ∧ o.er.isTp = true ∧ H a = some (.tup vs))) ∧ RepOs w H os vs F := by
  unfold elems at e
  split at e
  · cases e
    simp only [RepO, Rep] at h
    obtain ⟨a, vs, e, _, r, q⟩ := h
    exact ⟨a, vs, e, .inl ⟨rfl, r⟩, RepOs.leafs q⟩
  · cases e
    simp only [RepO, Rep] at h
    obtain ⟨a, vs, e, r, q⟩ := h
    exact ⟨a, vs, e, .inr ⟨rfl, rfl, r⟩, RepOs.leafs q⟩
  · cases e
    simp only [RepO] at h
    obtain ⟨a, vs, G, e, r, _, _, s, q⟩ := h
    exact ⟨a, vs, e, .inl ⟨rfl, r⟩, RepOs.mono s q⟩
  · cases e
    simp only [RepO] at h
    obtain ⟨a, vs, e, r, q⟩ := h
    exact ⟨a, vs, e, .inr ⟨rfl, rfl, r⟩, q⟩
  · cases e
end
def szOk (n : Nat) : Bool := decide (n ≤ 16777216)
theorem szOk_le {n : Nat} (h : szOk n = true) : n ≤ sizeLine := by
  rw [sizeLine_eq]; exact of_decide_eq_true h
section
variable {X : Cx} {a b c : Expr} {es : List Expr} {ma mb mc : DEnv → R O} {mA : DEnv → R (List O)} {pos p : Pos} {x : Str}
def aNil : DEnv → R (List O) := fun _ => .ok []
def aCons (m : DEnv → R O) (r : DEnv → R (List O)) : DEnv → R (List O) := fun env => (m env).bind fun o => (r env).bind fun os => .ok (o :: os)
theorem va_nil : VA X [] aNil := fun W tk w hc => pa_nil.imp fun σ H Q h => by
  obtain ⟨env, G, h⟩ := rA_to h
  exact h [] H (fun _ => False) (Same.refl H) (by simp [RepOs]) fun _ z => z.elim
theorem va_cons (ha : VE X a ma) (hr : VA X es mA) (hs : starEach (a :: es) X.env = (false, eval a X.env) :: starEach es X.env := by rfl) : VA X (a :: es) (aCons ma mA) := fun W tk w hc => (pa_cons (ha W tk w hc) (hr W tk w hc) hs).imp fun σ H Q h => by
  obtain ⟨env, G, h⟩ := rA_to h
  refine rE_of G (Out.bind (Same.refl H) h fun o v H1 F1 _ s1 p1 f1 h1 => rA_of (G.same s1) (Out.bind s1 h1 fun os vs H2 F2 _ s2 p2 f2 h2 => ?_))
  refine h2 (v :: vs) H2 (fun a => F1 a ∨ F2 a) (Same.refl H2) ?_ fun a z => z.elim (fun q => (f1.up s2) a q) fun q => (f2.base s1) a q
  simp only [RepOs]
  exact ⟨v, vs, F1, F2, rfl, fun _ z => .inl z, fun _ z => .inr z, fun a z z2 => (f1 a z).2.ne (f2 a z2).1, RepO.same s2 p1, p2⟩
def eN (g : List O → R O) (m : DEnv → R (List O)) : DEnv → R O := fun env => (m env).bind g
def OpN (X : Cx) (r : List V → Hp → VK → Prop) (g : List O → R O) : Prop := ∀ (w : Wd) (W : WX) (σ : L2.St) (H0 H : Hp) (os : List O) (vs : List V) (F : Addr → Prop) (Q : VK), ClOk X w.cl → Same H0 H → RepOs w H os vs F → Fresh H0 H F → Out w W σ H0 H (RepO w) (g os) Q → r vs H Q
theorem ve_callB {id : String} {r : List V → Hp → VK → Prop} {g : List O → R O} (hc : CallR X (.builtin id) r) (hr : OpN X r g) (hm : X.mg x = none) (hv : bootBuiltins x = some (.builtin id)) (ha : VA X (a :: es) mA) (hg : Gl X x := by rfl) (hn : x ≠ "__name__" := by decide) (hdb : (x == ("__debug__" : Str)) = false := by decide)
    (he : starEach (a :: es) X.env = (false, eval a X.env) :: starEach es X.env := by rfl) (hpl : (backTo pos (starEach es X.env)).any (·.1) = false := by rfl) : VE X (.Call (.Name x p) (a :: es) [] pos) (eN g mA) := fun W tk w hcl =>
  (pe_callB hc hg hm hv (ha W tk w hcl) hn hdb he hpl).imp fun σ H Q h => by
    obtain ⟨env, G, h⟩ := rE_to h
    exact rA_of G (Out.bind (Same.refl H) h fun os vs H1 F1 _ s1 p1 f1 h1 => hr w W σ H H1 os vs F1 Q hcl s1 p1 f1 h1)
theorem ve_callTy {T : String} {r : List V → Hp → VK → Prop} {g : List O → R O} (hc : CallR X (.type T) r) (hr : OpN X r g) (hm : X.mg x = none) (hv : bootBuiltins x = some (.type T)) (ha : VA X (a :: es) mA) (hg : Gl X x := by rfl) (hn : x ≠ "__name__" := by decide) (hdb : (x == ("__debug__" : Str)) = false := by decide)
    (he : starEach (a :: es) X.env = (false, eval a X.env) :: starEach es X.env := by rfl) (hpl : (backTo pos (starEach es X.env)).any (·.1) = false := by rfl) : VE X (.Call (.Name x p) (a :: es) [] pos) (eN g mA) := fun W tk w hcl =>
  (pe_callTy hc hg hm hv (ha W tk w hcl) hn hdb he hpl).imp fun σ H Q h => by
    obtain ⟨env, G, h⟩ := rE_to h
    exact rA_of G (Out.bind (Same.refl H) h fun os vs H1 F1 _ s1 p1 f1 h1 => hr w W σ H H1 os vs F1 Q hcl s1 p1 f1 h1)
theorem out_at {w : Wd} {W : WX} {σ : L2.St} {H0 H : Hp} {d : D} {v : V} {Q : VK} (hr : ∀ cl H S, Rep cl H S d v) (h : Out w W σ H0 H (RepO w) (.ok (.lf .fz d)) Q) : Q v H :=
  h v H (fun _ => False) (Same.refl H) (by simp only [RepO]; exact hr _ _ _) fun _ z => z.elim
theorem out_int {w : Wd} {W : WX} {σ : L2.St} {H0 H : Hp} {i : Int} {Q : VK} (h : Out w W σ H0 H (RepO w) (.ok (.lf .fz (.int i))) Q) : Q (.int i) H := out_at (d := .int i) (fun _ _ _ => rfl) h
theorem out_bl {w : Wd} {W : WX} {σ : L2.St} {H0 H : Hp} {i : Bool} {Q : VK} (h : Out w W σ H0 H (RepO w) (.ok (.lf .fz (.bl i))) Q) : Q (.bl i) H := out_at (d := .bl i) (fun _ _ _ => rfl) h
theorem out_str {w : Wd} {W : WX} {σ : L2.St} {H0 H : Hp} {i : Str} {Q : VK} (h : Out w W σ H0 H (RepO w) (.ok (.lf .fz (.str i))) Q) : Q (.str i) H := out_at (d := .str i) (fun _ _ _ => rfl) h
instance (i j : Int) : Decidable (CMul i j) := by unfold CMul; infer_instance
instance (i j : Int) : Decidable (CMulW i j) := by unfold CMulW; infer_instance
instance (i j : Int) : Decidable (CDiv i j) := by unfold CDiv; infer_instance
instance (i j : Int) : Decidable (CDivW i j) := by unfold CDivW; infer_instance
instance (i j : Int) : Decidable (CPow i j) := by unfold CPow; infer_instance
def cMulB (i j : Int) : Bool := decide (CMul i j) || decide (CMulW i j)
def cDivB (i j : Int) : Bool := decide (CDivW i j)
def cModB (_ j : Int) : Bool := decide (0 < j)
def cPowB (i j : Int) : Bool := decide (CPow i j)
def gMul := opI (fun i j => .int (i * j)) cMulB
def gDiv := opI (fun i j => .int (i / j)) cDivB
def gMod := opI (fun i j => .int (i % j)) cModB
def gPow := opI (fun i j => .int (i ^ j.toNat)) cPowB
theorem ve_sub (ha : VE X a ma) (hb : VE X b mb) : VE X (.BinOp a .Sub b pos) (e2 gSub ma mb) := ve_op op_sub o_sub ha hb
theorem ve_div (ha : VE X a ma) (hb : VE X b mb) : VE X (.BinOp a .FloorDiv b pos) (e2 gDiv ma mb) := ve_op op_fdivW (op2_I (fv := fun i j => .int (i / j)) (fun _ _ _ _ _ => rfl) fun i j H Q h q => ⟨i, j, rfl, rfl, of_decide_eq_true h, q⟩) ha hb
theorem ve_mod (ha : VE X a ma) (hb : VE X b mb) : VE X (.BinOp a .Mod b pos) (e2 gMod ma mb) := ve_op op_mod (op2_I (fv := fun i j => .int (i % j)) (fun _ _ _ _ _ => rfl) fun i j H Q h q => ⟨i, j, rfl, rfl, of_decide_eq_true h, q⟩) ha hb
theorem ve_pow (ha : VE X a ma) (hb : VE X b mb) : VE X (.BinOp a .Pow b pos) (e2 gPow ma mb) := ve_op op_pow (op2_I (fv := fun i j => .int (i ^ j.toNat)) (fun _ _ _ _ _ => rfl) fun i j H Q h q => ⟨i, j, rfl, rfl, of_decide_eq_true h, q⟩) ha hb
def e1 (g : O → R O) (ma : DEnv → R O) : DEnv → R O := fun env => (ma env).bind g
def gNeg (o : O) : R O := match o.er with
  | .int i => .ok (.lf .fz (.int (-i)))
  | _ => .no
theorem ve_neg (ha : VE X a ma) : VE X (.UnaryOp .USub a pos) (e1 gNeg ma) := fun W tk w hc => (pe_un un_neg (ha W tk w hc)).imp fun σ H Q h => by
  obtain ⟨env, G, h⟩ := rE_to h
  refine rE_of G (Out.bind (Same.refl H) h fun o v H1 F1 _ s1 p1 f1 h1 => ?_)
  have z := RepO.at p1
  unfold gNeg at h1
  cases e : o.er with
  | int i => rw [e] at h1 z; exact ⟨i, z, out_int h1⟩
  | _ => rw [e] at h1; exact h1.elim
theorem vt_gt (ha : VE X a ma) (hb : VE X b mb) : VT X (.Compare a [.Gt] [b] pos) (tOfE (e2 gGt ma mb)) := vt_cmp op_gt o_gt ha hb (nomark _)
theorem vt_le (ha : VE X a ma) (hb : VE X b mb) : VT X (.Compare a [.LtE] [b] pos) (tOfE (e2 gLe ma mb)) := vt_cmp op_le o_le ha hb (nomark _)
def tNotM (m : DEnv → R Bool) : DEnv → R Bool := fun env => (m env).bind fun b => .ok (!b)
def tAndM (m m' : DEnv → R Bool) : DEnv → R Bool := fun env => (m env).bind fun b => if b then m' env else .ok false
def tOrM (m m' : DEnv → R Bool) : DEnv → R Bool := fun env => (m env).bind fun b => if b then .ok true else m' env
variable {tA tB' tC' : DEnv → R Bool} {rest : List Expr}
theorem vt_not (ha : VT X a tA) : VT X (.UnaryOp .Not a pos) (tNotM tA) := fun W tk w hc => (pt_not (ha W tk w hc)).imp fun σ H Q h => by
  obtain ⟨env, G, h⟩ := rT_to h
  exact rT_of G (Out.bind (Same.refl H) h fun b c H1 F1 _ s1 e f1 h1 => h1 (!c) H1 (fun _ => False) (Same.refl H1) (by rw [e]) fun _ z => z.elim)
theorem VW.vt (h : VW X a tA) : VT X a tA := fun W tk w hc => (h W tk w hc).pt
theorem vw_and1 (ha : VT X a tA) : VW X (.BoolOp .And [a] pos) tA := fun W tk w hc => pw_and1 (ha W tk w hc)
theorem vw_or1 (ha : VT X a tA) : VW X (.BoolOp .Or [a] pos) tA := fun W tk w hc => pw_or1 (ha W tk w hc)
theorem vw_and (ha : VT X a tA) (hb : VW X (.BoolOp .And (b :: rest) pos) tB') : VW X (.BoolOp .And (a :: b :: rest) pos) (tAndM tA tB') := fun W tk w hc => (pw_and (ha W tk w hc) (hb W tk w hc)).imp fun σ H Q h => by
  obtain ⟨env, G, h⟩ := rT_to h
  refine rT_of G (Out.bind (Same.refl H) h fun b c H1 F1 _ s1 e f1 h1 => ?_)
  subst e
  cases c with
  | true => rw [if_pos rfl] at h1; rw [if_pos rfl]; exact rT_of (G.same s1) (Out.bind s1 (f := R.ok) (by cases q : tB' env <;> rw [q] at h1 <;> exact h1) fun b' c' H2 F2 _ s2 e2 f2 h2 => by subst e2; exact h2 c' H2 (fun _ => False) (Same.refl H2) rfl fun _ z => z.elim)
  | false => rw [if_neg Bool.false_ne_true] at h1; rw [if_neg Bool.false_ne_true]; exact h1 false H1 (fun _ => False) (Same.refl H1) rfl fun _ z => z.elim
theorem vw_or (ha : VT X a tA) (hb : VW X (.BoolOp .Or (b :: rest) pos) tB') : VW X (.BoolOp .Or (a :: b :: rest) pos) (tOrM tA tB') := fun W tk w hc => (pw_or (ha W tk w hc) (hb W tk w hc)).imp fun σ H Q h => by
  obtain ⟨env, G, h⟩ := rT_to h
  refine rT_of G (Out.bind (Same.refl H) h fun b c H1 F1 _ s1 e f1 h1 => ?_)
  subst e
  cases c with
  | false => rw [if_neg Bool.false_ne_true] at h1; rw [if_neg Bool.false_ne_true]; exact rT_of (G.same s1) (Out.bind s1 (f := R.ok) (by cases q : tB' env <;> rw [q] at h1 <;> exact h1) fun b' c' H2 F2 _ s2 e2 f2 h2 => by subst e2; exact h2 c' H2 (fun _ => False) (Same.refl H2) rfl fun _ z => z.elim)
  | true => rw [if_pos rfl] at h1; rw [if_pos rfl]; exact h1 true H1 (fun _ => False) (Same.refl H1) rfl fun _ z => z.elim
def truD : D → Option Bool
  | .non => some false
  | .bl b => some b
  | .int i => some (i != 0)
  | .str z => if szOk z.length then some ((z.length : Int) != 0) else none
  | .lst xs => some (!xs.isEmpty)
  | .tup xs => some (!xs.isEmpty)
  | _ => none
def asT (o : O) : R Bool := match truD o.er with
  | some b => .ok b
  | none => .no
def tTru (m : DEnv → R O) : DEnv → R Bool := fun env => (m env).bind asT
theorem Reps.isEmpty {cl : Cl} {H : Hp} {S : Addr → Prop} {ds : List D} {vs : List V} (h : Reps cl H S ds vs) : vs.isEmpty = ds.isEmpty := by
  cases ds with
  | nil => simp only [Reps] at h; subst h; rfl
  | cons d ds => simp only [Reps] at h; obtain ⟨v, r, rfl, _⟩ := h; rfl
theorem tru_rep {cl : Cl} {K : PySem.W.Frag} {H : Hp} {S : Addr → Prop} {d : D} {v : V} {b : Bool} (h : Rep cl H S d v) (e : truD d = some b) : TruV K v H b := by
  unfold truD at e
  split at e
  · cases e; simp only [Rep] at h; subst h; exact rfl
  · cases e; simp only [Rep] at h; subst h; exact rfl
  · cases e; simp only [Rep] at h; subst h; exact rfl
  · simp only [Rep] at h; subst h
    split at e
    · rename_i z hz
      cases e
      exact ⟨szOk_le hz, rfl⟩
    · cases e
  · cases e; simp only [Rep] at h
    obtain ⟨a, vs, rfl, _, r, q⟩ := h
    exact .inl ⟨vs, SqL.of r, by rw [q.isEmpty]⟩
  · cases e; simp only [Rep] at h
    obtain ⟨a, vs, rfl, r, q⟩ := h
    exact .inr (.inl ⟨vs, SqT.of r, by rw [q.isEmpty]⟩)
  · cases e
theorem vt_tru (ha : VE X a ma) (he : ∀ whole, isTrue a X.env whole = (do let v ← whole; standAt a.pos; holding [v] (truthy v)) := by intro _; rfl) : VT X a (tTru ma) := fun W tk w hc => (pt_truth (ha W tk w hc) he).imp fun σ H Q h => by
  obtain ⟨env, G, h⟩ := rT_to h
  refine rE_of (W := W) G (Out.bind (Same.refl H) h fun o v H1 F1 _ s1 p1 f1 h1 => ?_)
  unfold asT at h1
  cases e : truD o.er with
  | some b => rw [e] at h1; exact ⟨b, tru_rep (RepO.at p1) e, h1 b H1 (fun _ => False) (Same.refl H1) rfl fun _ z => z.elim⟩
  | none => rw [e] at h1; exact h1.elim
def bAnd (m m' : DEnv → R O) : DEnv → R O := fun env => ((m env).bind asB).bind fun b => if b then m' env else .ok (.lf .fz (.bl false))
def bOr (m m' : DEnv → R O) : DEnv → R O := fun env => ((m env).bind asB).bind fun b => if b then .ok (.lf .fz (.bl true)) else m' env
def bNot (o : O) : R O := match o.er with
  | .bl b => .ok (.lf .fz (.bl !b))
  | _ => .no
theorem ve_not (ha : VE X a ma) : VE X (.UnaryOp .Not a pos) (e1 bNot ma) := fun W tk w hc => (pe_not (ha W tk w hc)).imp fun σ H Q h => by
  obtain ⟨env, G, h⟩ := rE_to h
  refine rE_of G (Out.bind (Same.refl H) h fun o v H1 F1 _ s1 p1 f1 h1 => ?_)
  have z := RepO.at p1
  unfold bNot at h1
  cases e : o.er with
  | bl i => rw [e] at h1 z; exact ⟨i, z, out_bl h1⟩
  | _ => rw [e] at h1; exact h1.elim
theorem ve_one {op : BoolOp} (ha : VE X a ma) : VE X (.BoolOp op [a] pos) ma := fun W tk w hc => pe_one (ha W tk w hc)
theorem R.bind_bind {α β γ : Type} (r : R α) (f : α → R β) (g : β → R γ) : (r.bind f).bind g = r.bind fun x => (f x).bind g := by cases r <;> rfl
theorem Out.ret {α β : Type} {w : Wd} {W : WX} {σ : L2.St} {H0 H : Hp} {P : Hp → α → β → (Addr → Prop) → Prop} {r : R α} {Q : β → Hp → Prop} (s0 : Same H0 H) (h : Out w W σ H0 H P r Q) : Out w W σ H H P r Q := by
  cases r with
  | ok o => exact fun v H1 F1 s p fr => h v H1 F1 s p (fr.base s0)
  | ex x => exact fun cls d H' F s p fr => h cls d H' F s p (fr.base s0)
  | no => exact h
theorem ve_and (ha : VE X a ma) (hb : VE X (.BoolOp .And (b :: rest) pos) mb) : VE X (.BoolOp .And (a :: b :: rest) pos) (bAnd ma mb) := fun W tk w hc => (pe_and (ha W tk w hc) (hb W tk w hc)).imp fun σ H Q h => by
  obtain ⟨env, G, h⟩ := rE_to h
  unfold bAnd at h
  rw [R.bind_bind] at h
  refine rE_of G (Out.bind (Same.refl H) h fun o v H1 F1 _ s1 p1 f1 h1 => ?_)
  have z := RepO.at p1
  unfold asB at h1
  cases e : o.er with
  | bl i =>
    rw [e] at h1 z
    refine ⟨i, z, ?_⟩
    cases i with
    | true => rw [if_pos rfl]; exact rE_of (G.same s1) (Out.ret s1 (by exact h1))
    | false => rw [if_neg Bool.false_ne_true]; exact out_bl (by exact h1)
  | _ => rw [e] at h1; exact h1.elim
def eIf (t : DEnv → R Bool) (m m' : DEnv → R O) : DEnv → R O := fun env => (t env).bind fun b => if b then m env else m' env
def D.isNon : D → Option Bool
  | .non => some true
  | .opq => none
  | _ => some false
def gIsN (ma : DEnv → R O) : DEnv → R O := e1 (fun o => match o.er.isNon with
  | some b => .ok (.lf .fz (.bl b))
  | none => .no) ma
def gNotN (ma : DEnv → R O) : DEnv → R O := e1 (fun o => match o.er.isNon with
  | some b => .ok (.lf .fz (.bl (!b)))
  | none => .no) ma
end
end VL
namespace VL
open PySem PySem.Spec PyProof.Rows L2
section
variable {X : Cx} {a b c : Expr} {es : List Expr} {ma mb mc : DEnv → R O} {mA : DEnv → R (List O)} {pos p : Pos} {x : Str}
def gLst (os : List O) : R O := if szOk os.length then .ok (.lst os) else .no
def gTup (os : List O) : R O := if szOk os.length then .ok (.tup os) else .no
theorem new_lst {w : Wd} {W : WX} {σ : L2.St} {H0 H : Hp} {os : List O} {vs : List V} {F : Addr → Prop} {Q : VK} (s : Same H0 H) (p1 : RepOs w H os vs F) (f1 : Fresh H0 H F) (h : Out w W σ H0 H (RepO w) (.ok (.lst os)) Q) {q : Addr} (nq : H q = none) :
    Q (.ref q) (upd H q (.lst vs)) := by
  have sm : Same H (upd H q (.lst vs)) := Same.of fun b o e => by rw [upd_ne (ne_of_none e nq)]; exact e
  refine h (.ref q) _ (fun a => a = q ∨ F a) sm ?_ fun a z => ?_
  · simp only [RepO]
    exact ⟨q, vs, F, rfl, upd_same, .inl rfl, fun z => (f1 q z).2.ne nq, fun _ z => .inr z, RepOs.same sm p1⟩
  · rcases z with rfl | z
    · exact ⟨s.free nq, NT.lst upd_same⟩
    · exact ⟨(f1 a z).1, (f1 a z).2.same sm⟩
theorem new_tup {w : Wd} {W : WX} {σ : L2.St} {H0 H : Hp} {os : List O} {vs : List V} {F : Addr → Prop} {Q : VK} (s : Same H0 H) (p1 : RepOs w H os vs F) (f1 : Fresh H0 H F) (h : Out w W σ H0 H (RepO w) (.ok (.tup os)) Q) {q : Addr} (nq : H q = none) :
    Q (.ref q) (upd H q (.tup vs)) := by
  have sm : Same H (upd H q (.tup vs)) := Same.of fun b o e => by rw [upd_ne (ne_of_none e nq)]; exact e
  refine h (.ref q) _ F sm ?_ fun a z => ⟨(f1 a z).1, (f1 a z).2.same sm⟩
  simp only [RepO]
  exact ⟨q, vs, rfl, upd_same, RepOs.same sm p1⟩
theorem ve_lst (ha : VA X es mA) : VE X (.List es pos) (eN gLst mA) := fun W tk w hc => (pe_lst (ha W tk w hc)).imp fun σ H Q h => by
  obtain ⟨env, G, h⟩ := rE_to h
  refine rA_of G (Out.bind (Same.refl H) h fun os vs H1 F1 _ s1 p1 f1 h1 => ?_)
  unfold gLst at h1
  split at h1
  · rename_i z
    exact ⟨by rw [RepOs.length p1]; exact szOk_le z, fun q nq => new_lst s1 p1 f1 h1 nq⟩
  · exact h1.elim
theorem ve_tup {k : Nat} (ha : VA X es mA) : VE X (.Tuple es k pos) (eN gTup mA) := fun W tk w hc => (pe_tup (ha W tk w hc)).imp fun σ H Q h => by
  obtain ⟨env, G, h⟩ := rE_to h
  refine rA_of G (Out.bind (Same.refl H) h fun os vs H1 F1 _ s1 p1 f1 h1 => ?_)
  unfold gTup at h1
  split at h1
  · rename_i z
    exact ⟨by rw [RepOs.length p1]; exact szOk_le z, fun q nq => new_tup s1 p1 f1 h1 nq⟩
  · exact h1.elim
theorem atI_zip {w : Wd} {H : Hp} {os : List O} {vs : List V} {F : Addr → Prop} {i : Int} {o : O} (h : RepOs w H os vs F) (e : atI os i = some o) : ∃ v F', atI vs i = some v ∧ RepO w H o v F' ∧ Sub F' F := by
  unfold atI at e ⊢
  rw [RepOs.length h]
  cases q : ixN os.length i with
  | none => rw [q] at e; cases e
  | some j =>
    rw [q] at e
    exact RepOs.get h e
def gIx (o1 o2 : O) : R O := match elems o1, o2.er with
  | some os, .int i => (match atI os i with
    | some o => .ok o
    | none => .no)
  | none, .int i => (match o1.er with
    | .scr ds => (match atI ds i with
      | some d => if d.imm then .ok (.lf .fz d) else .no
      | none => .no)
    | .str z => if szOk z.length then (match atI z.cps.toList i with
      | some c => .ok (.lf .fz (.str ⟨#[c]⟩))
      | none => .no) else .no
    | _ => .no)
  | _, _ => .no
theorem Reps.get {cl : Cl} {H : Hp} {S : Addr → Prop} : ∀ {ds : List D} {vs : List V} {i : Nat} {d : D}, Reps cl H S ds vs → ds[i]? = some d → ∃ v, vs[i]? = some v ∧ Rep cl H S d v
  | [], vs, i, d, h, e => by simp at e
  | x :: ds, vs, 0, d, h, e => by
    simp only [Reps] at h
    obtain ⟨v, r, rfl, h1, h2⟩ := h
    simp at e; subst e
    exact ⟨v, rfl, h1⟩
  | x :: ds, vs, i + 1, d, h, e => by
    simp only [Reps] at h
    obtain ⟨v, r, rfl, h1, h2⟩ := h
    obtain ⟨v', e', h'⟩ := Reps.get h2 (show ds[i]? = some d by simpa using e)
    exact ⟨v', by simpa using e', h'⟩
theorem ix_op : Op2 X (rIx X.K) gIx := by
  intro w W σ H0 H o1 o2 x y F1 F2 Q hc s p1 p2 dj f1 f2 h
  have z2 := RepO.at p2
  unfold gIx at h
  split at h
  · rename_i os i e1 e2
    rw [e2] at z2
    obtain ⟨a, vs, rfl, hk, q⟩ := elems_rep e1 p1
    split at h
    · rename_i o e3
      obtain ⟨v, F', e4, q', sb⟩ := atI_zip q e3
      have fin := h v H F' (Same.refl H) q' fun a z => f1 a (sb a z)
      rcases hk with ⟨_, hk⟩ | ⟨_, _, hk⟩
      · exact .inl ⟨a, vs, i, v, rfl, z2, SqL.of hk, e4, fin⟩
      · exact .inr (.inl ⟨a, vs, i, v, rfl, z2, SqT.of hk, e4, fin⟩)
    · exact h.elim
  · rename_i i e1 e2
    rw [e2] at z2
    have z1 := RepO.at p1
    split at h
    · rename_i ds e3
      rw [e3] at z1
      simp only [Rep] at z1
      obtain ⟨a, vs, rfl, r, q⟩ := z1
      split at h
      · rename_i d e4
        split at h
        · rename_i im
          have : ∃ v, atI vs i = some v ∧ Rep w.cl H (fun _ => True) d v := by
            unfold atI at e4 ⊢
            rw [Reps.length q]
            cases qq : ixN ds.length i with
            | none => rw [qq] at e4; cases e4
            | some j => rw [qq] at e4; exact Reps.get q e4
          obtain ⟨v, e5, q5⟩ := this
          exact .inl ⟨a, vs, i, v, rfl, z2, r.imp (fun z => z.2) (hc.1.2 a vs), e5, h v H (fun _ => False) (Same.refl H) (by simp only [RepO]; exact Rep.imm (fun _ _ q => q) im q5) fun _ z => z.elim⟩
        · exact h.elim
      · exact h.elim
    · rename_i z e3
      rw [e3] at z1
      split at h
      · rename_i hz
        split at h
        · rename_i cc e4
          exact .inr (.inr ⟨z, i, cc, z1, z2, szOk_le hz, e4, out_str h⟩)
        · exact h.elim
      · exact h.elim
    · exact h.elim
  · exact h.elim
theorem ve_ix (ha : VE X a ma) (hb : VE X b mb) (hs : PlainIx b := by exact fun _ _ => rfl) : VE X (.Subscript a b pos) (e2 gIx ma mb) := fun W tk w hc =>
  (pe_ix ix_seq (ha W tk w hc) (hb W tk w hc) hs).imp fun σ H Q h => let ⟨env, G, h⟩ := rE_to h; seq2 ix_op hc G h
def VO (X : Cx) (e : Option Expr) (m : DEnv → R (Option Int)) : Prop := ∀ (W : WX), Takes X W → ∀ w : Wd, ClOk X w.cl → PO X e (fun σ H Q => ∃ env, GoodE w env σ H ∧ Out w W σ H H (fun _ o v _ => v = o) (m env) Q)
def oNo : DEnv → R (Option Int) := fun _ => .ok none
def oYes (m : DEnv → R O) : DEnv → R (Option Int) := fun env => (m env).bind fun o => match o.er with
  | .int i => .ok (some i)
  | _ => .no
theorem _root_.L2.PO.imp {X : Cx} {e : Option Expr} {t t' : TO} (h : PO X e t) (k : ∀ σ H Q, t' σ H Q → t σ H Q) : PO X e t' := ⟨fun pins s σ H Q I q => h.run pins s σ H Q I (k σ H Q q)⟩
theorem vo_none : VO X none oNo := fun W tk w hc => po_none.imp fun σ H Q h => by
  obtain ⟨env, G, h⟩ := h
  exact h none H (fun _ => False) (Same.refl H) rfl fun _ z => z.elim
theorem vo_some (ha : VE X a ma) : VO X (some a) (oYes ma) := fun W tk w hc => (po_some (ha W tk w hc)).imp fun σ H Q h => by
  obtain ⟨env, G, h⟩ := h
  refine rE_of G (Out.bind (Same.refl H) h fun o v H1 F1 _ s1 p1 f1 h1 => ?_)
  have z := RepO.at p1
  cases e : o.er with
  | int i => rw [e] at h1 z; exact ⟨i, z, h1 (some i) H1 (fun _ => False) (Same.refl H1) rfl fun _ z => z.elim⟩
  | _ => rw [e] at h1; exact h1.elim
def cutA {α : Type} (xs : List α) (lo hi : Option Int) : List α := (xs.drop (HT.sIx xs.length 0 lo)).take (HT.sIx xs.length xs.length hi - HT.sIx xs.length 0 lo)
def gSl (o : O) (lo hi : Option Int) : R O := match elems o with
  | some os => if o.er.isL then .ok (.lst (cutA os lo hi)) else .ok (.tup (cutA os lo hi))
  | none => (match o.er with
    | .str z => if szOk z.length then .ok (.lf .fz (.str (cutS z lo hi))) else .no
    | .scr ds => if D.imms ds then .ok (.lst (cutA (ds.map (O.lf .fz)) lo hi)) else .no
    | _ => .no)
theorem RepOs.ofImms {w : Wd} {H : Hp} {S : Addr → Prop} : ∀ {ds : List D} {vs : List V}, Reps w.cl H S ds vs → D.imms ds = true → RepOs w H (ds.map (O.lf .fz)) vs (fun _ => False)
  | [], vs, h, _ => by simp only [Reps] at h; subst h; rfl
  | d :: ds, vs, h, im => by
    simp only [Reps] at h
    obtain ⟨v, r, rfl, h1, h2⟩ := h
    simp only [D.imms, Bool.and_eq_true] at im
    refine ⟨v, r, fun _ => False, fun _ => False, rfl, fun _ z => z, fun _ z => z, fun _ z => z.elim, ?_, RepOs.ofImms h2 im.2⟩
    simp only [RepO]
    exact Rep.imm (fun _ _ q => q) im.1 h1
def eSl (m : DEnv → R O) (l u : DEnv → R (Option Int)) : DEnv → R O := fun env => (m env).bind fun o => (l env).bind fun lo => (u env).bind fun hi => gSl o lo hi
theorem ve_slice {lo hi : Option Expr} {ml mh : DEnv → R (Option Int)} {p2 : Pos} (ha : VE X a ma) (hl : VO X lo ml) (hh : VO X hi mh) : VE X (.Subscript a (.Slice lo hi none p2) pos) (eSl ma ml mh) := fun W tk w hc =>
  (pe_slice (SlR.or sl_list (SlR.or sl_tupA sl_str)) (ha W tk w hc) (hl W tk w hc) (hh W tk w hc)).imp fun σ H Q h => by
    obtain ⟨env, G, h⟩ := rE_to h
    refine rE_of G (Out.bind (Same.refl H) h fun o v H1 F1 _ s1 p1 f1 h1 => ⟨env, G.same s1, Out.bind s1 h1 fun lo' lo'' H2 F2 _ s2 e2 f2 h2 => ⟨env, G.same (s1.trans s2), Out.bind (s1.trans s2) h2 fun hi' hi'' H3 F3 _ s3 e3 f3 h3 => ?_⟩⟩)
    subst e2
    subst e3
    have s12 := s2.trans s3
    have p1 := RepO.same s12 p1
    have f1 := f1.up s12
    unfold gSl at h3
    split at h3
    · rename_i os e
      obtain ⟨a, vs, rfl, hk, q⟩ := elems_rep e p1
      have q' : RepOs w H3 (cutA os lo'' hi'') (cutV vs lo'' hi'') F1 := by
        unfold cutA cutV
        rw [RepOs.length q]
        exact RepOs.take _ (RepOs.drop _ q)
      rcases hk with ⟨hi, hk⟩ | ⟨hi, _, hk⟩
      · rw [if_pos hi] at h3
        exact .inl ⟨a, vs, rfl, SqL.of hk, fun p np => new_lst (s1.trans s12) q' f1 h3 np⟩
      · rw [if_neg (by rw [hi]; exact Bool.false_ne_true)] at h3
        refine .inr (.inl ⟨a, vs, rfl, SqT.of hk, fun hw => ?_, fun _ p np => new_tup (s1.trans s12) q' f1 h3 np⟩)
        refine h3 (.ref a) H3 F1 (Same.refl H3) ?_ f1
        simp only [RepO]
        have e : cutV vs lo'' hi'' = vs := by
          unfold cutV
          rw [hw.1, hw.2, List.drop_zero, Nat.sub_zero, List.take_length]
        rw [e] at q'
        exact ⟨a, vs, rfl, hk, q'⟩
    · split at h3
      · rename_i z ez
        split at h3
        · rename_i hz
          have q1 := RepO.at p1
          rw [ez] at q1
          exact .inr (.inr ⟨z, q1, szOk_le hz, out_str h3⟩)
        · exact h3.elim
      · rename_i ds ez
        split at h3
        · rename_i im
          have q1 := RepO.at p1
          rw [ez] at q1
          simp only [Rep] at q1
          obtain ⟨a, vs, rfl, r, q⟩ := q1
          have qs := RepOs.ofImms (w := w) q im
          have q' : RepOs w H3 (cutA (ds.map (O.lf .fz)) lo'' hi'') (cutV vs lo'' hi'') (fun _ => False) := by
            unfold cutA cutV
            rw [RepOs.length qs]
            exact RepOs.take _ (RepOs.drop _ qs)
          exact .inl ⟨a, vs, rfl, r.imp (fun z => z.2) (hc.1.2 a vs), fun p np => new_lst (s1.trans s12) q' (fun _ z => z.elim) h3 np⟩
        · exact h3.elim
      · exact h3.elim
def gPlus (o1 o2 : O) : R O := match elems o1, elems o2 with
  | some os, some ps => if szOk (os.length + ps.length) then (if o1.er.isL && o2.er.isL then .ok (.lst (os ++ ps)) else if o1.er.isTp && o2.er.isTp then .ok (.tup (os ++ ps)) else .no) else .no
  | _, _ => (match o1.er, o2.er with
    | .int i, .int j => .ok (.lf .fz (.int (i + j)))
    | .str z, .str y => if szOk (z.length + y.length) then .ok (.lf .fz (.str (z ++ y))) else .no
    | _, _ => .no)
theorem D.not_both {d : D} (h : d.isL = true) (h' : d.isTp = true) : False := by cases d <;> simp [D.isL, D.isTp] at h h'
theorem plus_op : Op2 X (fun x y H Q => (rI0 fun i j => .int (i + j)) x y H Q ∨ rCat x y H Q ∨ rCatA X.K x y H Q ∨ (∃ i j, x = .str i ∧ y = .str j ∧ i.length + j.length ≤ sizeLine ∧ Q (.str (i ++ j)) H)) gPlus := by
  intro w W σ H0 H o1 o2 x y F1 F2 Q hc s p1 p2 dj f1 f2 h
  unfold gPlus at h
  split at h
  · rename_i os ps e1 e2
    obtain ⟨a, vs, rfl, hk, q⟩ := elems_rep e1 p1
    obtain ⟨b, us, rfl, hk2, q2⟩ := elems_rep e2 p2
    have qq := RepOs.append dj q q2
    have ff : Fresh H0 H (fun a => F1 a ∨ F2 a) := fun a z => z.elim (f1 a) (f2 a)
    split at h
    · rename_i hz
      have hz' : vs.length + us.length ≤ sizeLine := by rw [RepOs.length q, RepOs.length q2]; exact szOk_le hz
      split at h
      · rename_i hl
        rw [Bool.and_eq_true] at hl
        rcases hk with ⟨_, hk⟩ | ⟨hn, _, _⟩
        · rcases hk2 with ⟨_, hk2⟩ | ⟨hn, _, _⟩
          · exact .inr (.inl ⟨a, b, vs, us, rfl, rfl, hk, hk2, hz', fun p np => new_lst s qq ff h np⟩)
          · rw [hn] at hl; exact Bool.noConfusion hl.2
        · rw [hn] at hl; exact Bool.noConfusion hl.1
      · split at h
        · rename_i hl
          rw [Bool.and_eq_true] at hl
          rcases hk with ⟨hn, hk⟩ | ⟨_, _, hk⟩
          · exact (D.not_both hn hl.1).elim
          · rcases hk2 with ⟨hn, hk2⟩ | ⟨_, _, hk2⟩
            · exact (D.not_both hn hl.2).elim
            · refine .inr (.inr (.inl ⟨a, b, vs, us, rfl, rfl, SqT.of hk, SqT.of hk2, hz', fun e => ?_, fun e e' => ?_, fun _ _ p np => new_tup s qq ff h np⟩))
              · subst e
                refine h (.ref b) H (fun a => F1 a ∨ F2 a) (Same.refl H) ?_ ff
                simp only [RepO]
                exact ⟨b, us, rfl, hk2, qq⟩
              · subst e'
                refine h (.ref a) H (fun a => F1 a ∨ F2 a) (Same.refl H) ?_ ff
                simp only [RepO]
                rw [List.append_nil] at qq
                exact ⟨a, vs, rfl, hk, qq⟩
        · exact h.elim
    · exact h.elim
  · have z1 := RepO.at p1
    have z2 := RepO.at p2
    split at h
    · rename_i i j e1 e2
      rw [e1] at z1
      rw [e2] at z2
      exact .inl ⟨i, j, z1, z2, out_int h⟩
    · rename_i i j e1 e2
      rw [e1] at z1
      rw [e2] at z2
      split at h
      · rename_i hz
        exact .inr (.inr (.inr ⟨i, j, z1, z2, szOk_le hz, out_str h⟩))
      · exact h.elim
    · exact h.elim
theorem ve_plus (ha : VE X a ma) (hb : VE X b mb) : VE X (.BinOp a .Add b pos) (e2 gPlus ma mb) := ve_op (OpR.or op_add (OpR.or op_cat (OpR.or op_catA op_add_str))) plus_op ha hb
def repS (z : Str) (n : Nat) : Str := ⟨(List.replicate n z.cps.toList).flatten.toArray⟩
theorem foldl_rep (c : Array Nat) : ∀ (n : Nat) (acc : Array Nat), ((List.replicate n c).foldl (· ++ ·) acc).toList = acc.toList ++ (List.replicate n c.toList).flatten
  | 0, acc => by simp
  | n + 1, acc => by rw [List.replicate_succ, List.foldl_cons, foldl_rep c n, List.replicate_succ, List.flatten_cons, Array.toList_append, List.append_assoc]
theorem repS_fold {z : Str} {n : Nat} : (⟨(List.replicate n z.cps).foldl (· ++ ·) #[]⟩ : Str) = repS z n := by
  unfold repS
  congr 1
  apply Array.toList_inj.mp
  rw [foldl_rep]
  simp
theorem repS_len {z : Str} {n : Nat} : (repS z n).length = z.length * n := by
  show ((List.replicate n z.cps.toList).flatten.toArray).size = z.cps.size * n
  simp [Nat.mul_comm]
theorem op_mulS : OpR X (binaryOp .Mult) (fun x y H Q => ∃ (z : Str) (k : Int), x = .str z ∧ y = .int k ∧ -(2 ^ 63) ≤ k ∧ k < 2 ^ 63 ∧ z.length * k.toNat ≤ sizeLine ∧ Q (.str (repS z k.toNat)) H) := by
  intro pins s σ H x y v u Q I rx ry h
  obtain ⟨z, k, rfl, rfl, h1, h2, h3, q⟩ := h
  obtain ⟨t, rfl⟩ := rx
  obtain ⟨t', rfl⟩ := ry
  have hs : sizeLine < 2 ^ 63 - 1 := by rw [sizeLine_eq]; decide
  refine PySem.P.mul_str (by rw [decide_eq_false (by omega), decide_eq_false (by omega)]; rfl) (fun k1 _ hb => ?_) (fun _ _ => ?_) ?_
  · have hk : (k.toNat : Int) = k := by omega
    have h4 : (z.length : Int) * k ≤ 2 ^ 63 - 1 := by
      have : ((z.length * k.toNat : Nat) : Int) ≤ 2 ^ 63 - 1 := by omega
      rw [Int.natCast_mul, hk] at this
      exact this
    have := (Int.le_ediv_iff_mul_le (show (0 : Int) < k by omega)).mpr h4
    omega
  · unfold Builtin.Str.tooLong
    exact decide_eq_false (by omega)
  · have len : (repS z k.toNat).length ≤ sizeLine := by rw [repS_len]; exact h3
    split
    · rename_i k0
      have e : repS z k.toNat = Str.empty := by
        rw [show k.toNat = 0 by omega]; rfl
      rw [e] at q
      exact ⟨by decide, ⟨V.str Str.empty, H, I.tok _, ⟨_, rfl⟩, q⟩⟩
    · split
      · rename_i hk
        have e : repS z k.toNat = z := by
          simp only [Bool.or_eq_true, beq_iff_eq] at hk
          rcases hk with hk | hk
          · rw [hk]
            unfold repS
            simp
          · unfold repS
            have h0 : z.cps.toList = [] := by
              apply List.eq_nil_of_length_eq_zero
              rw [Array.length_toList]; exact hk
            have : z = ⟨#[]⟩ := by
              cases z; congr 1; exact Array.toList_inj.mp (by simpa using h0)
            rw [h0, this]
            simp
        rw [e] at q
        exact ⟨V.str z, H, I, ⟨t, rfl⟩, q⟩
      · rw [repS_fold]
        exact ⟨len, ⟨V.str (repS z k.toNat), H, I.tok _, ⟨_, rfl⟩, q⟩⟩
def gTimes (o1 o2 : O) : R O := match elems o1, o2.er with
  | some os, .int k => if o1.er.isL && allLf os && decide (-(2 ^ 63) ≤ k) && decide (k < 2 ^ 63) && szOk (os.length * k.toNat) then .ok (.lst (List.replicate k.toNat os).flatten) else .no
  | _, _ => (match o1.er, o2.er with
    | .str z, .int k => if decide (-(2 ^ 63) ≤ k) && decide (k < 2 ^ 63) && szOk (z.length * k.toNat) then .ok (.lf .fz (.str (repS z k.toNat))) else .no
    | _, _ => gMul o1 o2)
theorem times_op : Op2 X (fun x y H Q => rRep x y H Q ∨ (rI CMul fun i j => .int (i * j)) x y H Q ∨ (rI CMulW fun i j => .int (i * j)) x y H Q ∨ ∃ (z : Str) (k : Int), x = .str z ∧ y = .int k ∧ -(2 ^ 63) ≤ k ∧ k < 2 ^ 63 ∧ z.length * k.toNat ≤ sizeLine ∧ Q (.str (repS z k.toNat)) H) gTimes := by
  intro w W σ H0 H o1 o2 x y F1 F2 Q hc s p1 p2 dj f1 f2 h
  unfold gTimes at h
  split at h
  · rename_i os k e1 e2
    have z2 := RepO.at p2
    rw [e2] at z2
    obtain ⟨a, vs, rfl, hk, q⟩ := elems_rep e1 p1
    split at h
    · rename_i hl
      simp only [Bool.and_eq_true, decide_eq_true_eq] at hl
      obtain ⟨⟨⟨⟨l1, l2⟩, l3⟩, l4⟩, l5⟩ := hl
      rcases hk with ⟨_, hk⟩ | ⟨hn, _, _⟩
      · exact .inl ⟨a, k, vs, rfl, z2, hk, l3, l4, by rw [RepOs.length q]; exact szOk_le l5, fun p np => new_lst s (RepOs.rep l2 q _) (fun _ z => z.elim) h np⟩
      · rw [hn] at l1; exact Bool.noConfusion l1
    · exact h.elim
  · split at h
    · rename_i z k e1 e2
      have z1 := RepO.at p1
      have z2 := RepO.at p2
      rw [e1] at z1
      rw [e2] at z2
      split at h
      · rename_i hb
        simp only [Bool.and_eq_true, decide_eq_true_eq] at hb
        exact .inr (.inr (.inr ⟨z, k, z1, z2, hb.1.1, hb.1.2, szOk_le hb.2, out_str h⟩))
      · exact h.elim
    have : Op2 X (fun x y H Q => (rI CMul fun i j => .int (i * j)) x y H Q ∨ (rI CMulW fun i j => .int (i * j)) x y H Q) gMul := op2_I (fv := fun i j => .int (i * j)) (fun _ _ _ _ _ => rfl) fun i j H Q h q => by
      unfold cMulB at h
      rw [Bool.or_eq_true] at h
      exact h.elim (fun h => .inl ⟨i, j, rfl, rfl, of_decide_eq_true h, q⟩) fun h => .inr ⟨i, j, rfl, rfl, of_decide_eq_true h, q⟩
    exact .inr ((this w W σ H0 H o1 o2 x y F1 F2 Q hc s p1 p2 dj f1 f2 h).imp id .inl)
theorem ve_times (ha : VE X a ma) (hb : VE X b mb) : VE X (.BinOp a .Mult b pos) (e2 gTimes ma mb) := ve_op (OpR.or op_rep (OpR.or op_mul (OpR.or op_mulW op_mulS))) times_op ha hb
theorem opN_1 {r : List V → Hp → VK → Prop} {g : O → R O} (hr : ∀ (w : Wd) (W : WX) (σ : L2.St) (H0 H : Hp) (o : O) (v : V) (F : Addr → Prop) (Q : VK), ClOk X w.cl → Same H0 H → RepO w H o v F → Fresh H0 H F → Out w W σ H0 H (RepO w) (g o) Q → r [v] H Q) :
    OpN X r (fun os => match os with | [o] => g o | _ => .no) := by
  intro w W σ H0 H os vs F Q hc s p f h
  match os, h with
  | [o], h =>
    simp only [RepOs] at p
    obtain ⟨v, r, F1, F2, rfl, s1, s2, d, p1, rfl⟩ := p
    exact hr w W σ H0 H o v F1 Q hc s p1 (fun a z => f a (s1 a z)) h
  | [], h => exact h.elim
  | _ :: _ :: _, h => exact h.elim
def f1 (g : O → R O) : List O → R O := fun os => match os with | [o] => g o | _ => .no
def f2 (g : O → O → R O) : List O → R O := fun os => match os with | [o, o'] => g o o' | _ => .no
def lenD : D → Option Nat
  | .lst xs => some xs.length
  | .tup xs => some xs.length
  | .scr xs => some xs.length
  | .dct ks xs => some ks.length
  | .str z => if szOk z.length then some z.length else none
  | _ => none
def gLen (o : O) : R O := match lenD o.er with
  | some n => .ok (.lf .fz (.int n))
  | none => .no
theorem len_rep {cl : Cl} {K : PySem.W.Frag} {H : Hp} {S : Addr → Prop} {d : D} {v : V} {n : Nat} (hk : ∀ a xs, cl.b.kl a xs → KL K a xs) (h : Rep cl H S d v) (e : lenD d = some n) : LenV K v H n ∨ ∃ d kvs, v = .ref d ∧ Rd H d (.dK kvs) ∧ n = kvs.length := by
  unfold lenD at e
  split at e
  · cases e; simp only [Rep] at h
    obtain ⟨a, vs, rfl, _, r, q⟩ := h
    exact .inl (.inl ⟨vs, SqL.of r, (Reps.length q).symm⟩)
  · cases e; simp only [Rep] at h
    obtain ⟨a, vs, rfl, r, q⟩ := h
    exact .inl (.inr ⟨vs, SqT.of r, (Reps.length q).symm⟩)
  · cases e; simp only [Rep] at h
    obtain ⟨a, vs, rfl, r, q⟩ := h
    exact .inl (.inl ⟨vs, r.imp (fun z => z.2) (hk a vs), (Reps.length q).symm⟩)
  · cases e; simp only [Rep] at h
    obtain ⟨a, vs, rfl, _, r, e, q⟩ := h
    exact .inr ⟨a, vs, rfl, r, by rw [← e, List.length_map]⟩
  · split at e
    · rename_i hz
      cases e; simp only [Rep] at h
      subst h
      exact .inl ⟨szOk_le hz, rfl⟩
    · cases e
  · cases e
theorem call_lenRd : CallR X (.builtin "len") (fun xs H Q => ∃ a kvs, xs = [V.ref a] ∧ Rd H a (.dK kvs) ∧ Q (.int kvs.length) H) := by
  intro pins s σ H xs us Q I r h
  obtain ⟨a, kvs, rfl, ha, q⟩ := h
  obtain ⟨u, rfl, ru⟩ := vals1 r
  cases ru
  exact d_len I ha fun t s' I' => ⟨.int kvs.length, H, I', ⟨t, rfl⟩, q⟩
theorem ve_len {q : Pos} (hm : X.mg "len" = none) (ha : VE X a ma) (hg : Gl X "len" := by rfl) (hst : starEach [a] X.env = (false, eval a X.env) :: starEach [] X.env := by rfl) : VE X (.Call (.Name "len" q) [a] [] pos) (eN (f1 gLen) (aCons ma aNil)) :=
  ve_callB (CallR.or call_len call_lenRd) (opN_1 fun w W σ H0 H o v F Q hc s p f h => by
    unfold gLen at h
    split at h
    · rename_i n e
      rcases len_rep hc.1.2 (K := X.K) (RepO.at p) e with z | ⟨d, kvs, rfl, z, rfl⟩
      · exact .inl ⟨v, n, rfl, z, out_int h⟩
      · exact .inr ⟨d, kvs, rfl, z, out_int h⟩
    · exact h.elim) hm PySem.boot_len (va_cons ha va_nil hst) hg (by decide) (by decide) hst
end
end VL
namespace VL
open PySem PySem.Spec PyProof.Rows L2
def intsOf : List D → Option (List Int)
  | [] => some []
  | .int i :: r => (intsOf r).map (i :: ·)
  | _ :: _ => none
theorem intsOf_map (ns : List Int) : intsOf (ns.map D.int) = some ns := by
  induction ns with
  | nil => rfl
  | cons n r ih => simp [intsOf, ih]
theorem intsOf_eq : ∀ {ds : List D} {ns : List Int}, intsOf ds = some ns → ds = ns.map D.int
  | [], ns, h => by cases h; rfl
  | .int i :: r, ns, h => by
    simp only [intsOf] at h
    cases e : intsOf r with
    | none => rw [e] at h; cases h
    | some m => rw [e] at h; cases h; rw [intsOf_eq e]; rfl
  | .non :: _, _, h | .bl _ :: _, _, h | .str _ :: _, _, h | .lst _ :: _, _, h | .tup _ :: _, _, h | .dct _ _ :: _, _, h | .dcT _ _ :: _, _, h | .obj _ _ _ :: _, _, h | .scr _ :: _, _, h => by simp [intsOf] at h
section
variable {cl : Cl} {H : Hp} {S : Addr → Prop}
theorem Reps.ints : ∀ {ns : List Int} {vs : List V}, Reps cl H S (ns.map D.int) vs → vs = ns.map V.int
  | [], vs, h => by simpa [Reps] using h
  | n :: r, vs, h => by
    simp only [List.map_cons, Reps, Rep] at h
    obtain ⟨v, r', rfl, rfl, h2⟩ := h
    rw [Reps.ints h2]; rfl
theorem Reps.of {ds : List D} {vs : List V} {ns : List Int} (e : intsOf ds = some ns) (h : Reps cl H S ds vs) : vs = ns.map V.int := by
  rw [intsOf_eq e] at h; exact h.ints
end
def blsOf : List D → Option (List Bool)
  | [] => some []
  | .bl i :: r => (blsOf r).map (i :: ·)
  | _ :: _ => none
theorem blsOf_map (ns : List Bool) : blsOf (ns.map D.bl) = some ns := by
  induction ns with
  | nil => rfl
  | cons n r ih => simp [blsOf, ih]
theorem Reps.bls {cl : Cl} {H : Hp} {S : Addr → Prop} : ∀ {ds : List D} {vs : List V} {ns : List Bool}, blsOf ds = some ns → Reps cl H S ds vs → vs = ns.map V.bl
  | [], vs, ns, e, h => by cases e; simpa [Reps] using h
  | .bl i :: r, vs, ns, e, h => by
    simp only [blsOf] at e
    cases q : blsOf r with
    | none => rw [q] at e; cases e
    | some m =>
      rw [q] at e; cases e
      simp only [Reps, Rep] at h
      obtain ⟨v, r', rfl, rfl, h2⟩ := h
      rw [Reps.bls q h2]; rfl
  | .non :: _, _, _, h, _ | .int _ :: _, _, _, h, _ | .str _ :: _, _, _, h, _ | .lst _ :: _, _, _, h, _ | .tup _ :: _, _, _, h, _ | .dct _ _ :: _, _, _, h, _ | .dcT _ _ :: _, _, _, h, _ | .obj _ _ _ :: _, _, _, h, _ | .scr _ :: _, _, _, h, _ => by simp [blsOf] at h
mutual
def D.py : D → Option PyData
  | .non => some .none
  | .bl b => some (.bool b)
  | .int i => some (.int i)
  | .str x => some (.str x)
  | .lst xs => (D.pys xs).map .list
  | .tup xs => (D.pys xs).map .tuple
  | _ => none
def D.pys : List D → Option (List PyData)
  | [] => some []
  | d :: ds => match d.py, D.pys ds with
    | some p, some ps => some (p :: ps)
    | _, _ => none
end
section
variable {cl : Cl} {K : PySem.W.Frag} {H : Hp} {S : Addr → Prop}
mutual
theorem Rep.dp : ∀ {d : D} {v : V} {p : PyData}, Rep cl H S d v → d.py = some p → Dp K H v p
  | .non, v, p, h, e => by simp only [Rep] at h; simp only [D.py] at e; cases e; subst h; exact .non
  | .bl _, v, p, h, e => by simp only [Rep] at h; simp only [D.py] at e; cases e; subst h; exact .bl _
  | .int _, v, p, h, e => by simp only [Rep] at h; simp only [D.py] at e; cases e; subst h; exact .int _
  | .str _, v, p, h, e => by simp only [Rep] at h; simp only [D.py] at e; cases e; subst h; exact .str _
  | .lst xs, v, p, h, e => by
    simp only [Rep] at h
    simp only [D.py, Option.map_eq_some_iff] at e
    obtain ⟨ps, e, rfl⟩ := e
    obtain ⟨a, vs, rfl, _, r, q⟩ := h
    exact .lst (SqL.of r) (Reps.dp q e)
  | .tup xs, v, p, h, e => by
    simp only [Rep] at h
    simp only [D.py, Option.map_eq_some_iff] at e
    obtain ⟨ps, e, rfl⟩ := e
    obtain ⟨a, vs, rfl, r, q⟩ := h
    exact .tup (SqT.of r) (Reps.dp q e)
  | .dct _ _, v, p, h, e => by simp [D.py] at e
  | .dcT _ _, v, p, h, e => by simp [D.py] at e
  | .obj _ _ _, v, p, h, e => by simp [D.py] at e
  | .scr _, v, p, h, e => by simp [D.py] at e
theorem Reps.dp : ∀ {ds : List D} {vs : List V} {ps : List PyData}, Reps cl H S ds vs → D.pys ds = some ps → DpAll K H vs ps
  | [], vs, ps, h, e => by simp only [Reps] at h; simp only [D.pys] at e; cases e; subst h; exact .nil
  | d :: ds, vs, ps, h, e => by
    simp only [Reps] at h
    obtain ⟨v, r, rfl, h1, h2⟩ := h
    simp only [D.pys] at e
    split at e
    · rename_i p ps' e1 e2
      cases e
      exact .cons (Rep.dp h1 e1) (Reps.dp h2 e2)
    · cases e
end
end
def eqD (x y : D) : Option Bool := match x.py, y.py with
  | some p, some q => if SeqAt.shaped p && SeqAt.shaped q then some (PyData.eqv p q) else none
  | _, _ => none
def gEq (o1 o2 : O) : R O := match eqD o1.er o2.er with
  | some b => .ok (.lf .fz (.bl b))
  | none => .no
def gNe (o1 o2 : O) : R O := match eqD o1.er o2.er with
  | some b => .ok (.lf .fz (.bl (!b)))
  | none => .no
section
variable {X : Cx} {a b c : Expr} {es : List Expr} {ma mb mc : DEnv → R O} {mA : DEnv → R (List O)} {pos p : Pos} {x : Str}
theorem o_eqD : Op2 X (rEqD X.K) gEq := by
  intro w W σ H0 H o1 o2 x y F1 F2 Q hc s p1 p2 dj f1 f2 h
  unfold gEq eqD at h
  split at h
  · rename_i r e
    split at e
    · rename_i p q e1 e2
      split at e
      · rename_i hs
        cases e
        rw [Bool.and_eq_true] at hs
        exact ⟨p, q, Rep.dp (RepO.at p1) e1, Rep.dp (RepO.at p2) e2, hs.1, hs.2, out_bl h⟩
      · cases e
    · cases e
  · exact h.elim
theorem o_neD : Op2 X (rNeD X.K) gNe := by
  intro w W σ H0 H o1 o2 x y F1 F2 Q hc s p1 p2 dj f1 f2 h
  unfold gNe eqD at h
  split at h
  · rename_i r e
    split at e
    · rename_i p q e1 e2
      split at e
      · rename_i hs
        cases e
        rw [Bool.and_eq_true] at hs
        exact ⟨p, q, Rep.dp (RepO.at p1) e1, Rep.dp (RepO.at p2) e2, hs.1, hs.2, out_bl h⟩
      · cases e
    · cases e
  · exact h.elim
abbrev Hu (X : Cx) : Prop := X.A.units + 64 < cLine
theorem ve_eq (hu : Hu X) (ha : VE X a ma) (hb : VE X b mb) : VE X (.Compare a [.Eq] [b] pos) (e2 gEq ma mb) := ve_cmp (op_eqD hu) o_eqD ha hb (nomark _)
theorem vt_eq (hu : Hu X) (ha : VE X a ma) (hb : VE X b mb) : VT X (.Compare a [.Eq] [b] pos) (tOfE (e2 gEq ma mb)) := vt_cmp (op_eqD hu) o_eqD ha hb (nomark _)
theorem vt_ne (hu : Hu X) (ha : VE X a ma) (hb : VE X b mb) : VT X (.Compare a [.NotEq] [b] pos) (tOfE (e2 gNe ma mb)) := vt_cmp (op_neD hu) o_neD ha hb (nomark _)
def gInt (o : O) : R O := match o.er with
  | .int i => .ok (.lf .fz (.int i))
  | .bl b => .ok (.lf .fz (.int (if b then 1 else 0)))
  | _ => .no
theorem ve_int1 {q : Pos} (hm : X.mg "int" = none) (ha : VE X a ma) (hg : Gl X "int" := by rfl) (hst : starEach [a] X.env = (false, eval a X.env) :: starEach [] X.env := by rfl) : VE X (.Call (.Name "int" q) [a] [] pos) (eN (f1 gInt) (aCons ma aNil)) :=
  ve_callTy call_int1 (opN_1 fun w W σ H0 H o v F Q hc s p f h => by
    have z := RepO.at p
    unfold gInt at h
    split at h
    · rename_i i e; rw [e] at z; exact .inl ⟨i, by rw [show v = _ from z], out_int h⟩
    · rename_i i e; rw [e] at z; exact .inr ⟨i, by rw [show v = _ from z], out_int h⟩
    · exact h.elim) hm (by decide +kernel) (va_cons ha va_nil hst) hg (by decide) (by decide) hst
def gAbs (o : O) : R O := match o.er with
  | .int i => .ok (.lf .fz (.int (if i < 0 then -i else i)))
  | _ => .no
theorem ve_abs {q : Pos} (hm : X.mg "abs" = none) (ha : VE X a ma) (hg : Gl X "abs" := by rfl) (hst : starEach [a] X.env = (false, eval a X.env) :: starEach [] X.env := by rfl) : VE X (.Call (.Name "abs" q) [a] [] pos) (eN (f1 gAbs) (aCons ma aNil)) :=
  ve_callB call_abs (opN_1 fun w W σ H0 H o v F Q hc s p f h => by
    have z := RepO.at p
    unfold gAbs at h
    split at h
    · rename_i i e; rw [e] at z; exact ⟨i, by rw [show v = _ from z], out_int h⟩
    · exact h.elim) hm (by decide +kernel) (va_cons ha va_nil hst) hg (by decide) (by decide) hst
def listInts : D → Option (List Int)
  | .lst ds => intsOf ds
  | _ => none
def gSum (o : O) : R O := match listInts o.er with
  | some ns => .ok (.lf .fz (.int ns.sum))
  | none => .no
def maxI : List Int → Int
  | [] => 0
  | n :: r => r.foldl max n
def minI : List Int → Int
  | [] => 0
  | n :: r => r.foldl min n
def gMax (o : O) : R O := match listInts o.er with
  | some (n :: r) => .ok (.lf .fz (.int (maxI (n :: r))))
  | _ => .no
def gMin (o : O) : R O := match listInts o.er with
  | some (n :: r) => .ok (.lf .fz (.int (minI (n :: r))))
  | _ => .no
def gMax2 (o1 o2 : O) : R O := opI (fun i j => .int (max i j)) cT o1 o2
def gMin2 (o1 o2 : O) : R O := opI (fun i j => .int (min i j)) cT o1 o2
def gMaxD (o d : O) : R O := match listInts o.er, d.er with
  | some ns, .int d => .ok (.lf .fz (.int (if ns.isEmpty then d else maxI ns)))
  | _, _ => .no
def gList (o : O) : R O := match elems o with
  | some os => .ok (.lst os)
  | none => .no
def gTuple (o : O) : R O := match elems o with
  | some os => .ok (.tup os)
  | none => .no
theorem ve_list {q : Pos} (hm : X.mg "list" = none) (ha : VE X a ma) (hg : Gl X "list" := by rfl) (hst : starEach [a] X.env = (false, eval a X.env) :: starEach [] X.env := by rfl) : VE X (.Call (.Name "list" q) [a] [] pos) (eN (f1 gList) (aCons ma aNil)) :=
  ve_callTy call_list_of (opN_1 fun w W σ H0 H o v F Q hc s p f h => by
    unfold gList at h
    split at h
    · rename_i os e
      obtain ⟨a, vs, rfl, hk, q⟩ := elems_rep e p
      refine ⟨a, vs, rfl, hk.elim (fun z => .inl (SqL.of z.2)) (fun z => .inr (SqT.of z.2.2)), fun l nl => new_lst s q f h nl⟩
    · exact h.elim) hm (by decide +kernel) (va_cons ha va_nil hst) hg (by decide) (by decide) hst
theorem ve_tuple {q : Pos} (hm : X.mg "tuple" = none) (ha : VE X a ma) (hg : Gl X "tuple" := by rfl) (hst : starEach [a] X.env = (false, eval a X.env) :: starEach [] X.env := by rfl) : VE X (.Call (.Name "tuple" q) [a] [] pos) (eN (f1 gTuple) (aCons ma aNil)) :=
  ve_callTy call_tuple_of (opN_1 fun w W σ H0 H o v F Q hc s p f h => by
    unfold gTuple at h
    split at h
    · rename_i os e
      obtain ⟨a, vs, rfl, hk, q⟩ := elems_rep e p
      refine ⟨a, vs, rfl, hk.elim (fun z => .inl ⟨SqL.of z.2, fun l nl => new_tup s q f h nl⟩) (fun z => .inr ⟨SqT.of z.2.2, ?_⟩)⟩
      refine h (.ref a) H F (Same.refl H) ?_ f
      simp only [RepO]
      exact ⟨a, vs, rfl, z.2.2, q⟩
    · exact h.elim) hm (by decide +kernel) (va_cons ha va_nil hst) hg (by decide) (by decide) hst
def allB (o : O) : R O := match o.er with
  | .lst ds => (match blsOf ds with
    | some bs => .ok (.lf .fz (.bl (bs.all id)))
    | none => .no)
  | _ => .no
theorem ve_all {q : Pos} (hk : X.calm = true) (hm : X.mg "all" = none) (ha : VE X a ma) (hg : Gl X "all" := by rfl) (hst : starEach [a] X.env = (false, eval a X.env) :: starEach [] X.env := by rfl) : VE X (.Call (.Name "all" q) [a] [] pos) (eN (f1 allB) (aCons ma aNil)) :=
  ve_callB (cr_all hk) (opN_1 fun w W σ H0 H o v F Q hc s p f h => by
    have z := RepO.at p
    unfold allB at h
    split at h
    · rename_i ds e
      rw [e] at z
      simp only [Rep] at z
      obtain ⟨a, vs, rfl, _, r, q⟩ := z
      split at h
      · rename_i bs e2
        rw [Reps.bls e2 q] at r
        exact ⟨a, bs, rfl, SqL.of r, out_bl h⟩
      · exact h.elim
    · exact h.elim) hm (by decide +kernel) (va_cons ha va_nil hst) hg (by decide) (by decide) hst
def tyD : D → Option String
  | .non => some "NoneType"
  | .bl _ => some "bool"
  | .int _ => some "int"
  | .str _ => some "str"
  | .lst _ => some "list"
  | .tup _ => some "tuple"
  | .dct _ _ => some "dict"
  | _ => none
def isTy (t T : String) : Bool := t == T || (t == "bool" && T == "int")
def gIsi (T : String) (o : O) : R O := match tyD o.er with
  | some t => .ok (.lf .fz (.bl (isTy t T)))
  | none => .no
theorem ty_rep {cl : Cl} {K : PySem.W.Frag} {H : Hp} {S : Addr → Prop} {d : D} {v : V} {t : String} (h : Rep cl H S d v) (e : tyD d = some t) : TyX K H v (.type t) := by
  unfold tyD at e
  split at e
  · cases e; simp only [Rep] at h; subst h; exact .base .non
  · cases e; simp only [Rep] at h; subst h; exact .base (.bl _)
  · cases e; simp only [Rep] at h; subst h; exact .base (.int _)
  · cases e; simp only [Rep] at h; subst h; exact .base (.str _)
  · cases e; simp only [Rep] at h; obtain ⟨a, vs, rfl, _, r, q⟩ := h; exact .base (.lst r)
  · cases e; simp only [Rep] at h; obtain ⟨a, vs, rfl, r, q⟩ := h; exact .base (.tup r)
  · cases e; simp only [Rep] at h
    obtain ⟨a, vs, rfl, _, r, _, q⟩ := h
    rcases r with r | ⟨o, r⟩
    · exact .base (.dK r)
    · exact .fDict r
  · cases e
theorem isTy_kit : ∀ t ∈ ["NoneType", "bool", "int", "str", "list", "tuple", "dict"], ∀ T ∈ ["bool", "int", "str", "list", "tuple", "dict"], kitB t T = some (isTy t T) := by
  decide +kernel
theorem tyD_mem {d : D} {t : String} (e : tyD d = some t) : t ∈ ["NoneType", "bool", "int", "str", "list", "tuple", "dict"] := by
  unfold tyD at e
  split at e <;> first | (cases e; decide) | cases e
theorem ve_isi {q q2 : Pos} {x : Str} (T : String) (hm : X.mg "isinstance" = none) (hx : X.mg x = none) (hv : bootBuiltins x = some (.type T)) (ha : VE X a ma) (hT : T ∈ ["bool", "int", "str", "list", "tuple", "dict"] := by decide) (hgx : Gl X x := by rfl) (hnx : x ≠ "__name__" := by decide) (hdx : (x == ("__debug__" : Str)) = false := by decide) (hg : Gl X "isinstance" := by rfl)
    (hst : starEach [a, .Name x q2] X.env = (false, eval a X.env) :: starEach [.Name x q2] X.env := by rfl) : VE X (.Call (.Name "isinstance" q) [a, .Name x q2] [] pos) (e1 (gIsi T) ma) := fun W tk w hc =>
  (pe_callB call_isi hg hm (by decide +kernel) (pa_cons (ha W tk w hc) (pa_cons (pe_bltn (v := .ty T) hgx hx hv rfl hnx hdx) pa_nil rfl) hst) (by decide) (by decide) hst).imp fun σ H Q h => by
    obtain ⟨env, G, h⟩ := rE_to h
    refine rE_of G (Out.bind (Same.refl H) h fun o1 v H1 F1 _ s1 p1 f1 h1 => ?_)
    unfold gIsi at h1
    split at h1
    · rename_i t e
      exact ⟨v, .ty T, .type t, .type T, _, rfl, .ty T, ty_rep (RepO.at p1) e, kit_ty (isTy_kit t (tyD_mem e) T hT), out_bl h1⟩
    · exact h1.elim
end
end VL
namespace VL
open PySem PySem.Spec PyProof.Rows L2
abbrev VEnv := List (Option O)
structure Fm where
  cl : Cl
  H0 : Hp
  F0 : Addr → Prop
  Z0 : Addr → Prop
  B : Addr → Prop
  pin : List (Nat × V)
def Fm.w (f : Fm) (Z : Addr → Prop) : Wd := ⟨f.cl, Z, f.B, fun _ => False⟩
def ThT (f : Fm) (H : Hp) : Prop := (∀ a, f.H0 a ≠ none → H a ≠ none) ∧ ∀ P q, f.cl.b.tb P q → TabAt H P q
theorem ThT.same {f : Fm} {H H' : Hp} (s : Same H H') (h : ThT f H) : ThT f H' := ⟨fun a n z => h.1 a n (s.free z), fun P q t => s.tab (h.2 P q t)⟩
structure GoodAt (f : Fm) (Z : Addr → Prop) (Fs : Nat → Addr → Prop) (env : VEnv) (σ : L2.St) (H : Hp) : Prop where
  rep : ∀ (i : Nat) (o : O), env[i]? = some (some o) → ∃ v, σ[i]? = some (some v) ∧ RepO (f.w Z) H o v (Fs i)
  dis : ∀ i j a, i ≠ j → Fs i a → ¬ Fs j a
  own : ∀ i a, Fs i a → ¬ Z a ∧ ¬ f.B a ∧ NT (H a)
  zal : ∀ a, Z a → H a ≠ none
  bal : ∀ a, f.B a → H a ≠ none
  keep : ∀ a u, f.H0 a = some u → ¬ f.F0 a → Kp f.H0 H a u
  there : ThT f H
  fnew : ∀ i a, Fs i a → f.F0 a ∨ f.H0 a = none
  znew : ∀ a, Z a → f.Z0 a ∨ f.F0 a ∨ f.H0 a = none
  zold : ∀ a, f.Z0 a → Z a
  pin : ∀ p ∈ f.pin, σ[p.1]? = some (some p.2)
  len : σ.length = env.length
def Good (f : Fm) (env : VEnv) (σ : L2.St) (H : Hp) : Prop := ∃ Z Fs, GoodAt f Z Fs env σ H
def Extra (f : Fm) (Z : Addr → Prop) (Fs : Nat → Addr → Prop) (H : Hp) (F : Addr → Prop) : Prop := ∀ a, F a → ¬ Z a ∧ ¬ f.B a ∧ NT (H a) ∧ (f.F0 a ∨ f.H0 a = none) ∧ ∀ i, ¬ Fs i a
def GoodV (f : Fm) (env : VEnv) (o : O) (v : V) (σ : L2.St) (H : Hp) : Prop := ∃ Z Fs F, GoodAt f Z Fs env σ H ∧ RepO (f.w Z) H o v F ∧ Extra f Z Fs H F
def GoodX (f : Fm) (env : VEnv) (x : Exn) (cls : Value) (d : Option Addr) (σ : L2.St) (H : Hp) : Prop := ∃ Z Fs F, GoodAt f Z Fs env σ H ∧ RepX (f.w Z) H x cls d F ∧ Extra f Z Fs H F
def isTb : Kd → Bool
  | .tb => true
  | _ => false
def notFz : Kd → Bool
  | .fz => false
  | _ => true
def lend : Option O → Option O
  | none => none
  | some (.lf k d) => some (.lf k d)
  | some (.xn C fs ds) => some (.xn C fs ds)
  | some (.xo C _ _) => some (.xn C [] [])
  | some o => some (.lf .tb o.er)
def dl (env : VEnv) : DEnv := env.map lend
def tw (f : Fm) (Z : Addr → Prop) (Fs : Nat → Addr → Prop) : Wd := ⟨f.cl, Z, f.B, fun a => Z a ∨ f.B a ∨ ∃ i, Fs i a⟩
section
variable {f : Fm} {Z : Addr → Prop} {Fs : Nat → Addr → Prop} {env : VEnv} {σ : L2.St} {H H' : Hp}
theorem dl_get {i : Nat} {o' : O} (h : (dl env)[i]? = some (some o')) : ∃ o, env[i]? = some (some o) ∧ ((∃ k d, o = .lf k d ∧ o' = .lf k d) ∨ (∃ C fs ds, o = .xn C fs ds ∧ o' = .xn C fs ds) ∨ (∃ C fs xs, o = .xo C fs xs ∧ o' = .xn C [] []) ∨ o' = .lf .tb o.er) := by
  unfold dl at h
  rw [List.getElem?_map] at h
  cases e : env[i]? with
  | none => rw [e] at h; cases h
  | some q =>
    rw [e] at h
    cases q with
    | none => cases h
    | some o =>
      refine ⟨o, rfl, ?_⟩
      have h' : lend (some o) = some o' := Option.some.inj h
      cases o <;> simp only [lend, Option.some.injEq] at h'
      case lf k d => exact .inl ⟨k, d, rfl, h'.symm⟩
      case xn C fs ds => exact .inr (.inl ⟨C, fs, ds, rfl, h'.symm⟩)
      case xo C fs xs => exact .inr (.inr (.inl ⟨C, fs, xs, rfl, h'.symm⟩))
      all_goals exact .inr (.inr (.inr h'.symm))
theorem GoodAt.goodE (g : GoodAt f Z Fs env σ H) : GoodE (tw f Z Fs) (dl env) σ H := by
  refine ⟨fun i o' e => ?_, fun a z => .inl z, fun a z => .inr (.inl z), ⟨fun a t => ?_, g.there.2⟩, by unfold dl; rw [List.length_map]; exact g.len⟩
  · obtain ⟨o, eo, h⟩ := dl_get e
    obtain ⟨v, ev, r⟩ := g.rep i o eo
    refine ⟨v, ev, ?_⟩
    rcases h with ⟨k, d, rfl, rfl⟩ | ⟨C, fs, ds, rfl, rfl⟩ | ⟨C, fs, xs, rfl, rfl⟩ | rfl
    · simp only [RepO] at r ⊢
      refine Rep.keep (KeepS.same (Same.refl _) ?_) r
      cases k with
      | fz => exact fun _ z => z
      | bo => exact fun _ z => z
      | tb => exact fun _ z => z.elim
    · simp only [RepO] at r ⊢
      obtain ⟨a, Ca, d, e1, x1, c1, h⟩ := r
      rcases h with h | h | ⟨f1, f2, dd, kvs, e3, z, q⟩
      · exact ⟨a, Ca, d, e1, x1, c1, .inl h⟩
      · exact ⟨a, Ca, d, e1, x1, c1, .inr (.inl h)⟩
      · exact z.elim
    · simp only [RepO] at r ⊢
      obtain ⟨a, Ca, dd, kvs, G, e1, x1, c1, q, e2, fa, ga, sg, rr⟩ := r
      exact ⟨a, Ca, some dd, e1, x1, c1, .inr (.inr ⟨rfl, rfl, dd, kvs, rfl, .inr (.inr ⟨i, fa⟩), q⟩)⟩
    · simp only [RepO]
      refine RepO.toRep (w := f.w Z) (p := fun _ => false) (fun x _ => ?_) (O.no_none o) (fun a z => .inr (.inr ⟨i, z⟩)) r
      cases x with
      | fz => exact fun _ z => .inl z
      | bo => exact fun _ z => .inr (.inl z)
      | tb => exact fun _ z => z.elim
  · rcases t with t | t | ⟨i, t⟩
    · exact g.zal a t
    · exact g.bal a t
    · exact (g.own i a t).2.2.ne
theorem keepW (s : Same H H') : ∀ x, isTb x = false → KeepS H H' ((tw f Z Fs).S x) ((f.w Z).S x) := fun x e => by
  cases x with
  | fz => exact KeepS.same s fun _ z => z
  | bo => exact KeepS.same s fun _ z => z
  | tb => cases e
theorem RepO.unlend {o : O} {v : V} {F : Addr → Prop} (n : o.no isTb = true) (h : RepO (tw f Z Fs) H o v F) : RepO (f.w Z) H o v F :=
  RepO.keep (w := tw f Z Fs) (w' := f.w Z) (p := isTb) rfl (keepW (Same.refl H)) (fun _ _ e => e) n (fun _ _ _ e _ => e) h
theorem RepX.unlend {x : Exn} {cls : Value} {d : Option Addr} {F : Addr → Prop} (n : O.nos isTb x.xs = true) (h : RepX (tw f Z Fs) H x cls d F) : RepX (f.w Z) H x cls d F := by
  obtain ⟨Ca, c, e, h⟩ := h
  refine ⟨Ca, c, e, ?_⟩
  rcases h with h | ⟨a, kvs, G, e1, e2, e3, fa, ga, sg, r⟩
  · exact .inl h
  · exact .inr ⟨a, kvs, G, e1, e2, e3, fa, ga, sg, RepOs.keep (w := tw f Z Fs) (w' := f.w Z) (p := isTb) rfl (keepW (Same.refl H)) (fun _ _ e => e) n (fun _ _ _ e _ => e) r⟩
theorem GoodAt.same (s : Same H H') (g : GoodAt f Z Fs env σ H) : GoodAt f Z Fs env σ H' :=
  ⟨fun i o e => let ⟨v, ev, r⟩ := g.rep i o e; ⟨v, ev, RepO.same s r⟩, g.dis, fun i a h => ⟨(g.own i a h).1, (g.own i a h).2.1, (g.own i a h).2.2.same s⟩, fun a z q => g.zal a z (s.free q), fun a z q => g.bal a z (s.free q),
    fun a u e n => (g.keep a u e n).trans s, g.there.same s, g.fnew, g.znew, g.zold, g.pin, g.len⟩
theorem GoodAt.fresh (g : GoodAt f Z Fs env σ H) {F : Addr → Prop} (fr : Fresh H H' F) : Extra f Z Fs H' F := fun a z =>
  ⟨fun q => g.zal a q (fr a z).1, fun q => g.bal a q (fr a z).1, (fr a z).2, .inr (by
    cases e : f.H0 a with
    | none => rfl
    | some u => exact absurd (fr a z).1 (g.there.1 a (by rw [e]; exact fun q => nomatch q))), fun i q => (g.own i a q).2.2.ne (fr a z).1⟩
theorem GoodAt.set {o : O} {v : V} {F : Addr → Prop} {i : Nat} (g : GoodAt f Z Fs env σ H) (r : RepO (f.w Z) H o v F) (x : Extra f Z Fs H F) (hi : i < env.length) (hp : ∀ p ∈ f.pin, p.1 ≠ i) :
    GoodAt f Z (fun j a => if j = i then F a else Fs j a) (env.set i (some o)) (σ.set i (some v)) H := by
  refine ⟨fun j p e => ?_, fun j k a n h h' => ?_, fun j a h => ?_, g.zal, g.bal, g.keep, g.there, fun j a h => ?_, g.znew, g.zold, fun p m => ?_, by simpa using g.len⟩
  · by_cases hj : j = i
    · subst hj
      rw [List.getElem?_set_self'] at e
      cases q : env[j]? with
      | none => rw [q] at e; cases e
      | some q' =>
        rw [q] at e
        cases e
        exact ⟨v, List.getElem?_set_self (by rw [g.len]; exact hi), by simpa using r⟩
    · rw [List.getElem?_set_ne (Ne.symm hj)] at e
      obtain ⟨v', ev, r'⟩ := g.rep j p e
      exact ⟨v', by rw [List.getElem?_set_ne (Ne.symm hj)]; exact ev, by simpa [hj] using r'⟩
  · replace h : if j = i then F a else Fs j a := h
    replace h' : if k = i then F a else Fs k a := h'
    split at h <;> split at h'
    · rename_i e e'; exact n (e.trans e'.symm)
    · exact (x a h).2.2.2.2 k h'
    · exact (x a h').2.2.2.2 j h
    · exact g.dis j k a n h h'
  · replace h : if j = i then F a else Fs j a := h
    split at h
    · exact ⟨(x a h).1, (x a h).2.1, (x a h).2.2.1⟩
    · exact g.own j a h
  · replace h : if j = i then F a else Fs j a := h
    split at h
    · exact (x a h).2.2.2.1
    · exact g.fnew j a h
  · rw [List.getElem?_set_ne (Ne.symm (hp p m))]
    exact g.pin p m
theorem GoodAt.forget {i : Nat} (g : GoodAt f Z Fs env σ H) : GoodAt f Z (fun j a => if j = i then False else Fs j a) (env.set i none) σ H := by
  refine ⟨fun j p e => ?_, fun j k a n h h' => ?_, fun j a h => ?_, g.zal, g.bal, g.keep, g.there, fun j a h => ?_, g.znew, g.zold, g.pin, by simpa using g.len⟩
  · by_cases hj : j = i
    · subst hj
      rw [List.getElem?_set_self'] at e
      cases q : env[j]? with
      | none => rw [q] at e; cases e
      | some q' => rw [q] at e; cases e
    · rw [List.getElem?_set_ne (Ne.symm hj)] at e
      obtain ⟨v', ev, r'⟩ := g.rep j p e
      exact ⟨v', ev, by simpa [hj] using r'⟩
  · replace h : if j = i then False else Fs j a := h
    replace h' : if k = i then False else Fs k a := h'
    split at h
    · exact h
    · split at h'
      · exact h'
      · exact g.dis j k a n h h'
  · replace h : if j = i then False else Fs j a := h
    split at h
    · exact h.elim
    · exact g.own j a h
  · replace h : if j = i then False else Fs j a := h
    split at h
    · exact h.elim
    · exact g.fnew j a h
end
inductive RX (α : Type) where
  | ok (a : α) (env : VEnv) | ex (x : Exn) (env : VEnv) | no
inductive Ct where
  | next | brk | cont | ret (o : O)
abbrev RS := RX Ct
def RX.bind {α β : Type} (r : RX α) (k : α → VEnv → RX β) : RX β := match r with
  | .ok a e => k a e
  | .ex x e => .ex x e
  | .no => .no
def rX (f : Fm) (W : WX) (m : VEnv → RX O) : TE := fun σ H Q => ∃ env, Good f env σ H ∧ match m env with
  | .ok o env' => ∀ v H', GoodV f env' o v σ H' → Q v H'
  | .ex x env' => ∀ cls d H', GoodX f env' x cls d σ H' → W cls d σ H'
  | .no => False
def rS (f : Fm) (W : WX) (m : VEnv → RS) : TS := fun D σ H => ∃ env, Good f env σ H ∧ match m env with
  | .ok .next env' => ∀ σ' H', Good f env' σ' H' → D.nx σ' H'
  | .ok .brk env' => ∀ σ' H', Good f env' σ' H' → D.bk σ' H'
  | .ok .cont env' => ∀ σ' H', Good f env' σ' H' → D.ct σ' H'
  | .ok (.ret o) env' => ∀ v σ' H', GoodV f env' o v σ' H' → D.rt v H'
  | .ex x env' => ∀ cls d σ' H', GoodX f env' x cls d σ' H' → W cls d σ' H'
  | .no => False
def FOk (X : Cx) (P : List Nat) (f : Fm) : Prop := ClOk X f.cl ∧ f.pin.map (·.1) = P
def VX (X : Cx) (P : List Nat) (e : Expr) (m : VEnv → RX O) : Prop := ∀ (W : WX), Takes X W → ∀ f : Fm, FOk X P f → PE X e (rX f W m)
def VS (X : Cx) (P : List Nat) (st : Stmt) (m : VEnv → RS) : Prop := ∀ (W : WX), Takes X W → ∀ f : Fm, FOk X P f → PS X st (rS f W m)
def VB (X : Cx) (P : List Nat) (st : List Stmt) (m : VEnv → RS) : Prop := ∀ (W : WX), Takes X W → ∀ f : Fm, FOk X P f → PSs X st (rS f W m)
section
variable {X : Cx} {P : List Nat} {e : Expr} {st : Stmt} {sts : List Stmt} {m m1 m2 : VEnv → RS} {me : DEnv → R O} {mx : VEnv → RX O} {pos : Pos}
def SOut (f : Fm) (W : WX) (D : Ends) (r : RS) : Prop := match r with
  | .ok .next env' => ∀ σ' H', Good f env' σ' H' → D.nx σ' H'
  | .ok .brk env' => ∀ σ' H', Good f env' σ' H' → D.bk σ' H'
  | .ok .cont env' => ∀ σ' H', Good f env' σ' H' → D.ct σ' H'
  | .ok (.ret o) env' => ∀ v σ' H', GoodV f env' o v σ' H' → D.rt v H'
  | .ex x env' => ∀ cls d σ' H', GoodX f env' x cls d σ' H' → W cls d σ' H'
  | .no => False
theorem rS_of {f : Fm} {W : WX} {env : VEnv} {σ : L2.St} {H : Hp} {D : Ends} (g : Good f env σ H) (h : SOut f W D (m env)) : rS f W m D σ H := ⟨env, g, h⟩
theorem rS_to {f : Fm} {W : WX} {σ : L2.St} {H : Hp} {D : Ends} (h : rS f W m D σ H) : ∃ env, Good f env σ H ∧ SOut f W D (m env) := h
def EOut (f : Fm) (W : WX) (σ : L2.St) (r : RX O) (Q : VK) : Prop := match r with
  | .ok o env' => ∀ v H', GoodV f env' o v σ H' → Q v H'
  | .ex x env' => ∀ cls d H', GoodX f env' x cls d σ H' → W cls d σ H'
  | .no => False
theorem rX_of {f : Fm} {W : WX} {env : VEnv} {σ : L2.St} {H : Hp} {Q : VK} (g : Good f env σ H) (h : EOut f W σ (mx env) Q) : rX f W mx σ H Q := ⟨env, g, h⟩
theorem rX_then {f : Fm} {W : WX} {env : VEnv} {σ : L2.St} {H : Hp} {D : Ends} {Q : VK} {k : O → VEnv → RS} (g : Good f env σ H) (h : SOut f W D ((mx env).bind k)) (c : ∀ o env' v H', GoodV f env' o v σ H' → SOut f W D (k o env') → Q v H') : rX f W mx σ H Q := by
  refine rX_of g ?_
  cases e : mx env with
  | ok o env' => rw [e] at h; exact fun v H' gv => c o env' v H' gv h
  | ex x env' => rw [e] at h; exact fun cls d H' gx => h cls d σ H' gx
  | no => rw [e] at h; exact h
def pur (me : DEnv → R O) : VEnv → RX O := fun env => match me (dl env) with
  | .ok o => if o.no isTb then .ok o env else .no
  | .ex x => if O.nos isTb x.xs then .ex x env else .no
  | .no => .no
theorem vx (he : VE X e me) : VX X P e (pur me) := fun W tk f hf => ⟨fun pins s σ H Q I h => by
  obtain ⟨env, ⟨Z, Fs, g⟩, h⟩ := h
  replace h : EOut f W σ (pur me env) Q := h
  refine (he W tk (tw f Z Fs) hf.1).run pins s σ H Q I (rE_of g.goodE ?_)
  unfold pur at h
  cases e : me (dl env) with
  | ok o =>
    rw [e] at h
    replace h : EOut f W σ (if o.no isTb then .ok o env else .no) Q := h
    by_cases n : o.no isTb = true
    · rw [if_pos n] at h
      exact fun v H' F sm r fr => h v H' ⟨Z, Fs, F, g.same sm, RepO.unlend n r, g.fresh fr⟩
    · rw [if_neg n] at h
      exact h.elim
  | ex x =>
    rw [e] at h
    replace h : EOut f W σ (if O.nos isTb x.xs then .ex x env else .no) Q := h
    by_cases n : O.nos isTb x.xs = true
    · rw [if_pos n] at h
      exact fun cls d H' F sm r fr => h cls d H' ⟨Z, Fs, F, g.same sm, RepX.unlend n r, g.fresh fr⟩
    · rw [if_neg n] at h
      exact h.elim
  | no => rw [e] at h; exact h⟩
def mvM (i : Nat) : VEnv → RX O := fun env => match env[i]? with
  | some (some o) => .ok o (env.set i none)
  | _ => .no
theorem vx_move (i : Nat) {x : Str} {pos : Pos} (hN : X.N[i]? = some x := by rfl) (hv : Vis X.env.scope x := by first | exact Or.inl rfl | exact Or.inr (Or.inl rfl) | exact Or.inr (Or.inr rfl)) (hd : (x == ("__debug__" : Str)) = false := by decide)
    (hcd : (x == ("__classdict__" : Str)) = false := by decide) : VX X P (.Name x pos) (mvM i) := fun W tk f hf => (pe_var hN hv hd hcd).imp fun σ H Q h => by
  obtain ⟨env, ⟨Z, Fs, g⟩, h⟩ := h
  unfold mvM at h
  split at h
  · rename_i o env' e
    split at e
    · rename_i o' e'
      cases e
      obtain ⟨v, ev, r⟩ := g.rep i _ e'
      refine ⟨v, ev, h v H ⟨Z, _, Fs i, g.forget (i := i), r, fun a z => ⟨(g.own i a z).1, (g.own i a z).2.1, (g.own i a z).2.2, g.fnew i a z, fun j q => ?_⟩⟩⟩
      replace q : if j = i then False else Fs j a := q
      split at q
      · exact q
      · rename_i n; exact g.dis i j a (fun e => n e.symm) z q
    · cases e
  · rename_i e
    split at e <;> cases e
  · exact h.elim
def sSeq (m1 m2 : VEnv → RS) : VEnv → RS := fun env => (m1 env).bind fun c e => match c with
  | .next => m2 e
  | c => .ok c e
def sNext : VEnv → RS := fun env => .ok .next env
theorem vb_nil : VB X P [] sNext := fun W tk f hf => pss_nil.imp fun D σ H h => by
  obtain ⟨env, g, h⟩ := h
  exact h σ H g
theorem vb_one (h1 : VS X P st m) : VB X P [st] m := fun W tk f hf => pss_one (h1 W tk f hf)
theorem vb_cons (h1 : VS X P st m1) (h2 : VB X P sts m2) : VB X P (st :: sts) (sSeq m1 m2) := fun W tk f hf => (pss_cons (h1 W tk f hf) (h2 W tk f hf)).imp fun D σ H h => by
  obtain ⟨env, g, h⟩ := rS_to h
  refine rS_of g ?_
  unfold sSeq at h
  cases e : m1 env with
  | ok c env' =>
    rw [e] at h
    cases c with
    | next => exact fun σ' H' g' => ⟨env', g', h⟩
    | brk => exact h
    | cont => exact h
    | ret o => exact h
  | ex x env' => rw [e] at h; exact h
  | no => rw [e] at h; exact h
def sSet (i : Nat) (mx : VEnv → RX O) : VEnv → RS := fun env => (mx env).bind fun o e => if i < e.length then .ok .next (e.set i (some o)) else .no
theorem pin_ne {f : Fm} {i : Nat} (hf : f.pin.map (·.1) = P) (hi : P.contains i = false) : ∀ p ∈ f.pin, p.1 ≠ i := fun p m e => by
  have : i ∈ P := by rw [← hf, ← e]; exact List.mem_map_of_mem m
  rw [List.contains_eq_mem, decide_eq_false_iff_not] at hi
  exact hi this
theorem GoodV.set {f : Fm} {env : VEnv} {o : O} {v : V} {σ : L2.St} {H : Hp} {i : Nat} (g : GoodV f env o v σ H) (hi : i < env.length) (hp : ∀ p ∈ f.pin, p.1 ≠ i) : Good f (env.set i (some o)) (σ.set i (some v)) H := by
  obtain ⟨Z, Fs, F, g, r, x⟩ := g
  exact ⟨Z, _, g.set r x hi hp⟩
theorem _root_.L2.PS.len {t : TS} (h : ∀ n, n = X.N.length → PS X st (fun D σ H => σ.length = n ∧ t D σ H)) : PS X st t := ⟨fun pins s σ H D I q => (h _ rfl).run pins s σ H D I ⟨I.len, q⟩⟩
theorem vs_set {i : Nat} {x : Str} {pos' : Pos} (he : VX X P e mx) (hN : X.N.Nodup) (hi : X.N[i]? = some x := by rfl) (hx : Loc X.env.scope x := by first | exact Or.inl rfl | exact Or.inr rfl) (hP : P.contains i = false := by rfl)
    (hs : swapsWith e (some (.Name x pos')) pos.line X.env = pure false := by rfl) (hf : X.fn x = true ∨ X.env.scope.names.lookup x = some .local := by first | exact .inl rfl | exact .inr rfl) : VS X P (.Assign [.Name x pos'] e pos) (sSet i mx) := fun W tk f hfo =>
  (ps_set hN hi hx (he W tk f hfo) hs hf).imp fun D σ H h => by
    obtain ⟨env, g, h⟩ := rS_to h
    refine rX_then g h fun o env' v H' gv h' => ?_
    split at h'
    · rename_i hlt
      exact h' _ H' (gv.set hlt (pin_ne hfo.2 hP))
    · exact h'.elim
def sDrop (mx : VEnv → RX O) : VEnv → RS := fun env => (mx env).bind fun _ e => .ok .next e
theorem vs_expr (he : VX X P e mx) (hs : swapsWith e none pos.line X.env = pure false := by rfl) : VS X P (.Expr e pos) (sDrop mx) := fun W tk f hf => (ps_expr (he W tk f hf) hs).imp fun D σ H h => by
  obtain ⟨env, g, h⟩ := rS_to h
  refine rX_then g h fun o env' v H' gv h' => ?_
  obtain ⟨Z, Fs, F, g, _, _⟩ := gv
  exact h' σ H' ⟨Z, Fs, g⟩
def sRet (mx : VEnv → RX O) : VEnv → RS := fun env => (mx env).bind fun o e => .ok (.ret o) e
theorem vs_ret (he : VX X P e mx) : VS X P (.Return (some e) pos) (sRet mx) := fun W tk f hf => (ps_ret (he W tk f hf)).imp fun D σ H h => by
  obtain ⟨env, g, h⟩ := rS_to h
  exact rX_then g h fun o env' v H' gv h' => h' v σ H' gv
def sRetN : VEnv → RS := fun env => .ok (.ret (.lf .fz .non)) env
def sIf (t : DEnv → R Bool) (m1 m2 : VEnv → RS) : VEnv → RS := fun env => match t (dl env) with
  | .ok b => if b then m1 env else m2 env
  | .ex x => if O.nos isTb x.xs then .ex x env else .no
  | .no => .no
theorem vs_if {c : Expr} {a b : List Stmt} {t : DEnv → R Bool} (hc : VT X c t) (ha : VB X P a m1) (hb : VB X P b m2) : VS X P (.If c a b pos) (sIf t m1 m2) := fun W tk f hf => ⟨fun pins s σ H D I h => by
  obtain ⟨env, ⟨Z, Fs, g⟩, h⟩ := rS_to h
  refine (ps_if (hc W tk (tw f Z Fs) hf.1) (ha W tk f hf) (hb W tk f hf)).run pins s σ H D I (rT_of g.goodE ?_)
  unfold sIf at h
  cases e : t (dl env) with
  | ok r =>
    rw [e] at h
    intro c' H' F sm ec _
    subst ec
    cases c' with
    | true => rw [if_pos rfl]; exact rS_of ⟨Z, Fs, g.same sm⟩ h
    | false => rw [if_neg Bool.false_ne_true]; exact rS_of ⟨Z, Fs, g.same sm⟩ h
  | ex x =>
    rw [e] at h
    simp only at h
    split at h
    · rename_i n
      exact fun cls d H' F sm r fr => h cls d σ H' ⟨Z, Fs, F, g.same sm, RepX.unlend n r, g.fresh fr⟩
    · exact h.elim
  | no => rw [e] at h; exact h⟩
end
end VL
namespace VL
open PySem PySem.Spec PyProof.Rows L2
def Fm.re (f : Fm) (Z' : Addr → Prop) (Fs : Nat → Addr → Prop) (H1 : Hp) : Fm := { f with H0 := H1, F0 := fun a => ∃ i, Fs i a, Z0 := Z' }
def ZUp (Z Z' : Addr → Prop) (H H1 : Hp) : Prop := Sub Z Z' ∧ ∀ a, Z' a → Z a ∨ (H a = none ∧ NT (H1 a))
section
variable {f : Fm} {Z Z' : Addr → Prop} {Fs : Nat → Addr → Prop} {env : VEnv} {σ : L2.St} {H H1 : Hp}
theorem keepZ {w w' : Wd} (s : Same H H1) (hz : Sub w.Z w'.Z) (hb : w'.B = w.B) (ht : w'.T = w.T) : ∀ x : Kd, (fun _ : Kd => false) x = false → KeepS H H1 (w.S x) (w'.S x) := fun x _ => by
  cases x with
  | fz => exact KeepS.same s hz
  | bo => exact KeepS.same s (by show Sub w.B w'.B; rw [hb]; exact fun _ z => z)
  | tb => exact KeepS.same s (by show Sub w.T w'.T; rw [ht]; exact fun _ z => z)
theorem GoodAt.up (s : Same H H1) (z : ZUp Z Z' H H1) (g : GoodAt f Z Fs env σ H) : GoodAt f Z' Fs env σ H1 :=
  ⟨fun i o e => let ⟨v, ev, r⟩ := g.rep i o e; ⟨v, ev, RepO.keep (w := f.w Z) (w' := f.w Z') (p := fun _ => false) rfl (keepZ s z.1 rfl rfl) (fun _ _ e => s _ _ e) (O.no_none o) (fun _ _ _ e n => s.nt n e) r⟩, g.dis,
    fun i a h => ⟨fun q => (z.2 a q).elim (g.own i a h).1 fun n => (g.own i a h).2.2.ne n.1, (g.own i a h).2.1, (g.own i a h).2.2.same s⟩,
    fun a q => (z.2 a q).elim (fun q e => g.zal a q (s.free e)) fun n => n.2.ne, fun a q e => g.bal a q (s.free e), fun a u e n => (g.keep a u e n).trans s, g.there.same s, g.fnew,
    fun a q => (z.2 a q).elim (g.znew a) fun n => .inr (.inr (by
      cases e : f.H0 a with
      | none => rfl
      | some u => exact absurd n.1 (g.there.1 a (by rw [e]; exact fun q => nomatch q)))), fun a q => z.1 a (g.zold a q), g.pin, g.len⟩
theorem GoodAt.re (g : GoodAt f Z Fs env σ H) : GoodAt (f.re Z Fs H) Z Fs env σ H :=
  ⟨g.rep, g.dis, g.own, g.zal, g.bal, fun a u e _ => Same.refl H a u e, ⟨fun _ n => n, g.there.2⟩, fun i a h => .inl ⟨i, h⟩, fun a z => .inl z, fun _ z => z, g.pin, g.len⟩
theorem GoodAt.unre {Z2 : Addr → Prop} {Fs2 : Nat → Addr → Prop} {env2 : VEnv} {σ2 : L2.St} {H2 : Hp} (g : GoodAt f Z Fs env σ H) (h : GoodAt (f.re Z Fs H) Z2 Fs2 env2 σ2 H2) : GoodAt f Z2 Fs2 env2 σ2 H2 := by
  have free : ∀ a, H a = none → f.H0 a = none := fun a n => by
    cases e : f.H0 a with
    | none => rfl
    | some u => exact absurd n (g.there.1 a (by rw [e]; exact fun q => nomatch q))
  have own : ∀ a, (f.re Z Fs H).F0 a → f.F0 a ∨ f.H0 a = none := fun a ⟨i, q⟩ => g.fnew i a q
  refine ⟨h.rep, h.dis, h.own, h.zal, h.bal, fun a u e n => (g.keep a u e n).thn fun o eo => h.keep a o eo fun q => ?_, ⟨fun a n => h.there.1 a (g.there.1 a n), h.there.2⟩, fun i a q => ?_, fun a q => ?_, fun a q => h.zold a (g.zold a q), h.pin, h.len⟩
  · rcases own a q with z | z
    · exact n z
    · rw [e] at z; cases z
  · rcases h.fnew i a q with z | z
    · exact own a z
    · exact .inr (free a z)
  · rcases h.znew a q with z | z | z
    · exact g.znew a z
    · exact .inr (own a z)
    · exact .inr (.inr (free a z))
theorem Good.unre {env2 : VEnv} {σ2 : L2.St} {H2 : Hp} (g : GoodAt f Z Fs env σ H) (h : Good (f.re Z Fs H) env2 σ2 H2) : Good f env2 σ2 H2 := let ⟨Z2, Fs2, h⟩ := h; ⟨Z2, Fs2, g.unre h⟩
theorem Extra.unre {Z2 : Addr → Prop} {Fs2 : Nat → Addr → Prop} {H2 : Hp} {F : Addr → Prop} (g : GoodAt f Z Fs env σ H) (h : Extra (f.re Z Fs H) Z2 Fs2 H2 F) : Extra f Z2 Fs2 H2 F := fun a q => by
  obtain ⟨h1, h2, h3, h4, h5⟩ := h a q
  refine ⟨h1, h2, h3, ?_, h5⟩
  rcases h4 with ⟨i, z⟩ | z
  · exact g.fnew i a z
  · right
    cases e : f.H0 a with
    | none => rfl
    | some u => exact absurd z (g.there.1 a (by rw [e]; exact fun q => nomatch q))
theorem GoodV.unre {env2 : VEnv} {o : O} {v : V} {σ2 : L2.St} {H2 : Hp} (g : GoodAt f Z Fs env σ H) (h : GoodV (f.re Z Fs H) env2 o v σ2 H2) : GoodV f env2 o v σ2 H2 :=
  let ⟨Z2, Fs2, F, h, r, x⟩ := h; ⟨Z2, Fs2, F, g.unre h, r, x.unre g⟩
theorem GoodX.unre {env2 : VEnv} {x : Exn} {c : Value} {d : Option Addr} {σ2 : L2.St} {H2 : Hp} (g : GoodAt f Z Fs env σ H) (h : GoodX (f.re Z Fs H) env2 x c d σ2 H2) : GoodX f env2 x c d σ2 H2 :=
  let ⟨Z2, Fs2, F, h, r, x⟩ := h; ⟨Z2, Fs2, F, g.unre h, r, x.unre g⟩
end
abbrev Asg := VEnv → Option VEnv
def setA (i : Nat) (o : O) : Asg := fun env => if i < env.length then some (env.set i (some o)) else none
def forL (body : VEnv → RS) : List Asg → VEnv → RS
  | [], env => .ok .next env
  | a :: r, env => match a env with
    | none => .no
    | some e => match body e with
      | .ok .next e' => forL body r e'
      | .ok .cont e' => forL body r e'
      | .ok .brk e' => .ok .next e'
      | .ok (.ret o) e' => .ok (.ret o) e'
      | .ex x e' => .ex x e'
      | .no => .no
structure Src (f : Fm) (J : It) (g : TG) (as : List Asg) : Prop where
  go : ∀ (i : Nat) (a : Asg) (env : VEnv) (σ : L2.St) (H : Hp), as[i]? = some a → Good f env σ H → J.go i H ∧ ∀ env1, a env = some env1 → ∀ x H', J.yld i H x H' → ∀ Q : L2.St → Hp → Prop, (∀ σ1 H1, Good f env1 σ1 H1 → Q σ1 H1) → g x σ H' Q
  stop : ∀ (env : VEnv) (σ : L2.St) (H : Hp), Good f env σ H → J.stop as.length H
def VI (X : Cx) (P : List Nat) (tg iter : Expr) (g : TG) (ms : DEnv → R (List Asg)) : Prop := ∀ (W : WX), Takes X W → ∀ f : Fm, FOk X P f → ∃ wi : TI, PI X tg iter wi ∧ ∀ (Z : Addr → Prop) (Fs : Nat → Addr → Prop) (env : VEnv) (σ : L2.St) (H : Hp) (Q : It → Hp → Prop), GoodAt f Z Fs env σ H →
  (match ms (dl env) with
    | .ok as => ∀ J H1 Z', Same H H1 → ZUp Z Z' H H1 → Src (f.re Z' Fs H1) J g as → Q J H1
    | .ex x => O.nos isTb x.xs = true ∧ ∀ cls d H', GoodX f env x cls d σ H' → W cls d σ H'
    | .no => False) → wi σ H Q
def sFor (ms : DEnv → R (List Asg)) (body : VEnv → RS) : VEnv → RS := fun env => match ms (dl env) with
  | .ok as => forL body as env
  | .ex x => if O.nos isTb x.xs then .ex x env else .no
  | .no => .no
section
variable {X : Cx} {P : List Nat} {tg iter a b : Expr} {g : TG} {ms : DEnv → R (List Asg)} {ma mb : DEnv → R O} {body : List Stmt} {m : VEnv → RS} {pos : Pos}
theorem vs_for (hp : PassesOwn (model X.prog X.w) X.A X.env X.xe) (hc : X.calm = true) (hi : VI X P tg iter g ms) (hg : PG X tg g) (hb : VB X P body m) (hs : ∀ x, foldedSetIterable iter X.env x = pure x := by intro _; rfl) : VS X P (.For tg iter body [] pos) (sFor ms m) := fun W tk f hf => by
  obtain ⟨wi, hwi, hr⟩ := hi W tk f hf
  have hbody : PSs X body (fun D σ H => ∃ f', FOk X P f' ∧ rS f' W m D σ H) := ⟨fun pins s σ H D I ⟨f', hf', h⟩ => (hb W tk f' hf').run pins s σ H D I h⟩
  refine (ps_for hp hc hwi hg hbody hs).imp fun D σ H h => ?_
  obtain ⟨env, ⟨Z, Fs, g0⟩, h⟩ := rS_to h
  refine hr Z Fs env σ H _ g0 ?_
  unfold sFor at h
  cases e : ms (dl env) with
  | no => rw [e] at h; exact h
  | ex x =>
    rw [e] at h
    replace h : SOut f W D (if O.nos isTb x.xs then .ex x env else .no) := h
    by_cases n : O.nos isTb x.xs = true
    · rw [if_pos n] at h
      exact ⟨n, fun cls d H' gx => h cls d σ H' gx⟩
    · rw [if_neg n] at h; exact h.elim
  | ok as =>
    rw [e] at h
    replace h : SOut f W D (forL m as env) := h
    intro J H1 Z' sm zu src
    have g1 := g0.up sm zu
    have hf' : FOk X P (f.re Z' Fs H1) := hf
    refine ⟨fun i n σ H => n = as.length - i ∧ i ≤ as.length ∧ ∃ env, Good (f.re Z' Fs H1) env σ H ∧ SOut f W D (forL m (as.drop i) env), ⟨as.length, by simp, Nat.zero_le _, env, ⟨Z', Fs, g1.re⟩, by simpa using h⟩, ?_⟩
    rintro i n σ2 H2 ⟨rfl, hi, env2, gg, hh⟩
    by_cases hlt : i < as.length
    · have ea : as[i]? = some as[i] := List.getElem?_eq_getElem hlt
      rw [List.drop_eq_getElem_cons hlt] at hh
      obtain ⟨go, step⟩ := src.go i as[i] env2 σ2 H2 ea gg
      refine .inr ⟨go, fun σ' H' => as.length - (i + 1) = as.length - (i + 1) ∧ i + 1 ≤ as.length ∧ ∃ env, Good (f.re Z' Fs H1) env σ' H' ∧ SOut f W D (forL m (as.drop (i + 1)) env), fun σ' H' q => ⟨as.length - (i + 1), by omega, q⟩, fun x H' y => ?_⟩
      unfold forL at hh
      cases q : as[i] env2 with
      | none => rw [q] at hh; exact hh.elim
      | some e1 =>
        rw [q] at hh
        replace hh : SOut f W D (match m e1 with
          | .ok .next e' => forL m (as.drop (i + 1)) e'
          | .ok .cont e' => forL m (as.drop (i + 1)) e'
          | .ok .brk e' => .ok .next e'
          | .ok (.ret o) e' => .ok (.ret o) e'
          | .ex x e' => .ex x e'
          | .no => .no) := hh
        refine step e1 q x H' y _ fun σ3 H3 g3 => ⟨_, hf', rS_of g3 ?_⟩
        cases q2 : m e1 with
        | no => rw [q2] at hh; exact hh
        | ex x e' => rw [q2] at hh; exact fun cls d σ' H' gx => hh cls d σ' H' (gx.unre g1)
        | ok c e' =>
          rw [q2] at hh
          cases c with
          | next => exact fun σ' H' g' => ⟨rfl, hlt, e', g', hh⟩
          | cont => exact fun σ' H' g' => ⟨rfl, hlt, e', g', hh⟩
          | brk => exact fun σ' H' g' => hh σ' H' (g'.unre g1)
          | ret o => exact fun v σ' H' g' => hh v σ' H' (g'.unre g1)
    · have e : i = as.length := by omega
      subst e
      rw [List.drop_length] at hh
      exact .inl ⟨src.stop env2 σ2 H2 gg, hh σ2 H2 (gg.unre g1)⟩
theorem Good.setA {f : Fm} {i : Nat} {o : O} {v : V} {env env1 : VEnv} {σ : L2.St} {H : Hp} (hp : ∀ p ∈ f.pin, p.1 ≠ i) (g : Good f env σ H) (hr : ∀ Z Fs, GoodAt f Z Fs env σ H → RepO (f.w Z) H o v (fun _ => False)) (e : setA i o env = some env1) : Good f env1 (σ.set i (some v)) H := by
  obtain ⟨Z, Fs, g⟩ := g
  unfold VL.setA at e
  split at e
  · rename_i hlt
    cases e
    exact ⟨Z, _, g.set (hr Z Fs g) (fun _ z => z.elim) hlt hp⟩
  · cases e
def iR1 (i : Nat) (ma : DEnv → R O) : DEnv → R (List Asg) := fun env => (ma env).bind fun o => match o.er with
  | .int n => if decide (-(2 ^ 62) ≤ n) && decide (n < 2 ^ 62) then .ok ((List.range n.toNat).map fun (k : Nat) => setA i (.lf .fz (.int (0 + (k : Int))))) else .no
  | _ => .no
def iR2 (i : Nat) (ma mb : DEnv → R O) : DEnv → R (List Asg) := fun env => (ma env).bind fun o => (mb env).bind fun o' => match o.er, o'.er with
  | .int l, .int n => if decide (-(2 ^ 62) ≤ l) && decide (l < 2 ^ 62) && decide (-(2 ^ 62) ≤ n) && decide (n < 2 ^ 62) then .ok ((List.range (n - l).toNat).map fun (k : Nat) => setA i (.lf .fz (.int (l + (k : Int))))) else .no
  | _, _ => .no
theorem src_range {f : Fm} {i : Nat} (hp : ∀ p ∈ f.pin, p.1 ≠ i) (lo : Int) (n : Nat) : Src f (Itr lo n) (gName i) ((List.range n).map fun (k : Nat) => setA i (.lf .fz (.int (lo + (k : Int))))) := by
  refine ⟨fun j a env σ H e g => ?_, fun env σ H g => by simp [Itr]⟩
  rw [List.getElem?_map] at e
  cases q : (List.range n)[j]? with
  | none => rw [q] at e; cases e
  | some k =>
    rw [q] at e
    obtain ⟨hj, ek⟩ := List.getElem?_eq_some_iff.mp q
    rw [List.getElem_range] at ek
    subst ek
    have e' := Option.some.inj e
    subst e'
    refine ⟨show j < n by simpa using hj, fun env1 e1 x H' y Q hQ => ?_⟩
    obtain ⟨rfl, rfl⟩ := y
    exact hQ _ _ (g.setA hp (fun Z Fs _ => by simp [RepO, Rep]) e1)
theorem zup_refl {Z : Addr → Prop} {H H1 : Hp} : ZUp Z Z H H1 := ⟨fun _ z => z, fun _ z => .inl z⟩
theorem vi_err {f : Fm} {Z : Addr → Prop} {Fs : Nat → Addr → Prop} {env : VEnv} {σ : L2.St} {H H' : Hp} {W : WX} {x : Exn} {cls : Value} {d : Option Addr} {F : Addr → Prop} (g : GoodAt f Z Fs env σ H) (h : O.nos isTb x.xs = true ∧ ∀ cls d H', GoodX f env x cls d σ H' → W cls d σ H') (s : Same H H') (r : RepX (tw f Z Fs) H' x cls d F) (fr : Fresh H H' F) : W cls d σ H' :=
  h.2 cls d H' ⟨Z, Fs, F, g.same s, RepX.unlend h.1 r, g.fresh fr⟩
def rEf (f : Fm) (W : WX) (ma : DEnv → R O) : TE := fun σ H Q => ∃ Z Fs, rE (tw f Z Fs) W ma σ H Q
theorem VE.ef (h : VE X a ma) {W : WX} (tk : Takes X W) {f : Fm} (hf : FOk X P f) : PE X a (rEf f W ma) := ⟨fun pins s σ H Q I ⟨Z, Fs, q⟩ => (h W tk (tw f Z Fs) hf.1).run pins s σ H Q I q⟩
theorem vi_range1 (i : Nat) {p pos : Pos} (hm : X.mg "range" = none) (ha : VE X a ma) (hP : P.contains i = false := by rfl) (hg : Gl X "range" := by rfl) (hst : starEach [a] X.env = (false, eval a X.env) :: starEach [] X.env := by rfl) (hs : starEach [a] X.env = [(false, eval a X.env)] := by rfl) : VI X P tg (.Call (.Name "range" p) [a] [] pos) (gName i) (iR1 i ma) := fun W tk f hf => by
  refine ⟨_, pi_range1 hg hm (pa_cons (ha.ef tk hf) pa_nil hst) hs, fun Z Fs env σ H Q g h => ?_⟩
  refine ⟨Z, Fs, rE_of g.goodE ?_⟩
  unfold iR1 at h
  cases e : ma (dl env) with
  | no => rw [e] at h; exact h
  | ex x => rw [e] at h; exact fun cls d H' F s r fr => vi_err g h s r fr
  | ok o =>
    rw [e] at h
    intro v H1 F1 s1 p1 f1
    have z := RepO.at p1
    simp only [R.bind] at h
    cases eo : o.er with
    | int n =>
      rw [eo] at h z
      simp only at h
      by_cases hb : (decide (-(2 ^ 62) ≤ n) && decide (n < 2 ^ 62)) = true
      · rw [if_pos hb] at h
        simp only [Bool.and_eq_true, decide_eq_true_eq] at hb
        exact ⟨n, by rw [show v = _ from z], hb.1, hb.2, h _ H1 Z s1 zup_refl (src_range (f := f.re Z Fs H1) (pin_ne hf.2 hP) 0 n.toNat)⟩
      · rw [if_neg hb] at h; exact h.elim
    | _ => rw [eo] at h; exact h.elim
theorem re_keep {f : Fm} {Z Z2 : Addr → Prop} {Fs Fs2 : Nat → Addr → Prop} {env0 env : VEnv} {σ0 σ : L2.St} {H1 H : Hp} (g1 : GoodAt f Z Fs env0 σ0 H1) (g : GoodAt (f.re Z Fs H1) Z2 Fs2 env σ H) : KeepS H1 H Z Z2 ∧ KeepS H1 H f.B f.B := by
  have ht : ∀ a xs, H1 a = some (.tup xs) → H a = some (.tup xs) := fun a xs e => g.keep a _ e fun ⟨i, q⟩ => (g1.own i a q).2.2.ntup e
  have hz : ∀ a u, Z a → H1 a = some u → nTb u → H a = some u := fun a u z e n => (g.keep a u e fun ⟨i, q⟩ => (g1.own i a q).1 z).nt n
  have hb : ∀ a u, f.B a → H1 a = some u → nTb u → H a = some u := fun a u z e n => (g.keep a u e fun ⟨i, q⟩ => (g1.own i a q).2.1 z).nt n
  exact ⟨⟨fun a u z r n => ⟨g.zold a z, r.elim (fun e => .inl (hz a _ z e n)) fun ⟨o, e⟩ => .inr ⟨o, hz a _ z e True.intro⟩⟩, fun a C dx fs z e => hz a _ z e True.intro, ht, fun a xs z e => hz a _ z e True.intro, fun a xs z e => hz a _ z e True.intro⟩,
    ⟨fun a u z r n => ⟨z, r.elim (fun e => .inl (hb a _ z e n)) fun ⟨o, e⟩ => .inr ⟨o, hb a _ z e True.intro⟩⟩, fun a C dx fs z e => hb a _ z e True.intro, ht, fun a xs z e => hb a _ z e True.intro, fun a xs z e => hb a _ z e True.intro⟩⟩
def iSq (K : PySem.W.Frag) (tl : TE) : TI := fun σ H R => tl σ H fun x H1 => ∃ a, x = .ref a ∧ (((∃ xs, SqL K H1 a xs) ∧ R (Itl K a) H1) ∨ ((∃ xs, SqT K H1 a xs) ∧ R (Itt K a) H1))
theorem pi_sq {tl : TE} (hl : PE X a tl) : PI X tg a (iSq X.K tl) := by
  refine ⟨fun pins s σ H R I h => ?_⟩
  refine thn (hl.run pins s σ H _ I h) fun v s1 ⟨x, H1, I1, r1, q1⟩ => ?_
  obtain ⟨a, e, ⟨⟨xs, hq⟩, q⟩ | ⟨⟨xs, hq⟩, q⟩⟩ := q1
  · subst e
    cases r1
    obtain ⟨its, rv, p, hz⟩ := I1.list hq
    refine wpAny_pyIter_list p.isList ?_
    refine ⟨s1.heap.objs.size, [s1.heap.objs.size], _, _, H1, rfl, I1.kept (t' := s1.toks) fun b o e => Heap.get?_push_of_some _ e, turn_list a _, ⟨_, Heap.get?_push_size _ rfl, rfl, rfl⟩, fun b hb => ?_, q⟩
    have e : b = s1.heap.objs.size := by simpa using hb
    subst e
    exact I1.fpOk (Nat.le_refl _) (I1.hok.fresh (Nat.le_refl _))
  · subst e
    cases r1
    obtain ⟨its, rv, p, hz⟩ := I1.tuple hq
    refine wpAny_pyIter_tuple (show s1.heap.IsTuple a its.toArray from p) ?_
    refine ⟨s1.heap.objs.size, [s1.heap.objs.size], _, _, H1, rfl, I1.kept (t' := s1.toks) fun b o e => Heap.get?_push_of_some _ e, turn_tuple a _, ⟨_, Heap.get?_push_size _ rfl, rfl, rfl⟩, fun b hb => ?_, q⟩
    have e : b = s1.heap.objs.size := by simpa using hb
    subst e
    exact I1.fpOk (Nat.le_refl _) (I1.hok.fresh (Nat.le_refl _))
def D.seq : D → Option (List D)
  | .lst ds => some ds
  | .tup ds => some ds
  | _ => none
def seqF (o : O) : Option (Kd × List D) := match o with
  | .lf .bo d => d.seq.map fun ds => (.bo, ds)
  | o => if o.no notFz then o.er.seq.map fun ds => (.fz, ds) else none
theorem seq_rep {cl : Cl} {H : Hp} {S : Addr → Prop} {d : D} {v : V} {ds : List D} (e : d.seq = some ds) (h : Rep cl H S d v) : ∃ a vs, v = .ref a ∧ (H a = some (.lst vs) ∧ S a ∨ H a = some (.tup vs)) ∧ Reps cl H S ds vs := by
  unfold D.seq at e
  split at e
  · cases e; simp only [Rep] at h
    obtain ⟨a, vs, rfl, s, r, q⟩ := h
    exact ⟨a, vs, rfl, .inl ⟨r, s⟩, q⟩
  · cases e; simp only [Rep] at h
    obtain ⟨a, vs, rfl, r, q⟩ := h
    exact ⟨a, vs, rfl, .inr r, q⟩
  · cases e
theorem seqF_rep {f : Fm} {Z : Addr → Prop} {Fs : Nat → Addr → Prop} {H H1 : Hp} {o : O} {v : V} {F : Addr → Prop} {k : Kd} {ds : List D} (e : seqF o = some (k, ds)) (s : Same H H1) (r : RepO (tw f Z Fs) H1 o v F) (fr : Fresh H H1 F) :
    ∃ Z', ZUp Z Z' H H1 ∧ (k = .fz ∨ k = .bo) ∧ ∃ d, d.seq = some ds ∧ Rep f.cl H1 ((f.w Z').S k) d v := by
  have gen : ∀ o : O, o.no notFz = true → RepO (tw f Z Fs) H1 o v F → o.er.seq = some ds → ∃ Z', ZUp Z Z' H H1 ∧ (Kd.fz = .fz ∨ Kd.fz = .bo) ∧ ∃ d, d.seq = some ds ∧ Rep f.cl H1 ((f.w Z').S .fz) d v := fun o n r e => by
    refine ⟨fun a => Z a ∨ F a, ⟨fun _ z => .inl z, fun a z => z.elim .inl fun q => .inr (fr a q)⟩, .inl rfl, o.er, e, ?_⟩
    refine RepO.toRep (w := tw f Z Fs) (p := notFz) (fun x hx => ?_) n (fun _ z => .inr z) r
    cases x with
    | fz => exact fun _ z => .inl z
    | bo => cases hx
    | tb => cases hx
  unfold seqF at e
  split at e
  · rename_i d
    cases q : d.seq with
    | none => rw [q] at e; cases e
    | some xs =>
      rw [q] at e
      cases e
      exact ⟨Z, zup_refl, .inr rfl, d, q, by simp only [RepO] at r; exact r⟩
  · split at e
    · rename_i n
      cases q : o.er.seq with
      | none => rw [q] at e; cases e
      | some xs =>
        rw [q] at e
        cases e
        exact gen o n r q
    · cases e
theorem sub_of_re {f : Fm} {Z Z2 : Addr → Prop} {Fs Fs2 : Nat → Addr → Prop} {env0 env : VEnv} {σ0 σ : L2.St} {H1 H : Hp} {k : Kd} (hk : k = .fz ∨ k = .bo) (g1 : GoodAt f Z Fs env0 σ0 H1) (g : GoodAt (f.re Z Fs H1) Z2 Fs2 env σ H) : KeepS H1 H ((f.w Z).S k) (((f.re Z Fs H1).w Z2).S k) := by
  rcases hk with rfl | rfl
  · exact (re_keep g1 g).1
  · exact (re_keep g1 g).2
theorem re_seq {f : Fm} {Z : Addr → Prop} {Fs : Nat → Addr → Prop} {env0 env : VEnv} {σ0 σ : L2.St} {H1 H : Hp} {k : Kd} {d : D} {ds : List D} {a : Addr} {vs : List V} (hk : k = .fz ∨ k = .bo) (g1 : GoodAt f Z Fs env0 σ0 H1) (g : Good (f.re Z Fs H1) env σ H)
    (hr : Reps f.cl H1 ((f.w Z).S k) ds vs) (ha : H1 a = some (.lst vs) ∧ (f.w Z).S k a ∨ H1 a = some (.tup vs)) : (H1 a = some (.lst vs) → H a = some (.lst vs)) ∧ (H1 a = some (.tup vs) → H a = some (.tup vs)) ∧ ∀ Z2 Fs2, GoodAt (f.re Z Fs H1) Z2 Fs2 env σ H → Reps f.cl H (((f.re Z Fs H1).w Z2).S k) ds vs := by
  obtain ⟨Z2, Fs2, g⟩ := g
  have kp := sub_of_re hk g1 g
  refine ⟨fun e => ?_, fun e => kp.2.2.1 a vs e, fun Z2 Fs2 g => Reps.keep (sub_of_re hk g1 g) hr⟩
  rcases ha with ⟨_, s⟩ | e'
  · exact kp.2.2.2.1 a vs s e
  · rw [e'] at e; cases e
theorem rep_lfk {w : Wd} {H : Hp} {k : Kd} {d : D} {v : V} (h : Rep w.cl H (w.S k) d v) : RepO w H (lfk k d) v (fun _ => False) := lfk_rep h
theorem src_seq {f : Fm} {Z : Addr → Prop} {Fs : Nat → Addr → Prop} {env0 : VEnv} {σ0 : L2.St} {H1 : Hp} {k : Kd} {ds : List D} {a : Addr} {vs : List V} {K : PySem.W.Frag} {g : TG} {asg : O → Asg} (hk : k = .fz ∨ k = .bo) (g1 : GoodAt f Z Fs env0 σ0 H1)
    (hr : Reps f.cl H1 ((f.w Z).S k) ds vs)
    (hg : ∀ (o : O) (v : V) (env env1 : VEnv) (σ : L2.St) (H : Hp) (Q : L2.St → Hp → Prop), Good (f.re Z Fs H1) env σ H → (∀ Z2 Fs2, GoodAt (f.re Z Fs H1) Z2 Fs2 env σ H → RepO ((f.re Z Fs H1).w Z2) H o v (fun _ => False)) → asg o env = some env1 → (∀ σ1 H2, Good (f.re Z Fs H1) env1 σ1 H2 → Q σ1 H2) → g v σ H Q) :
    (H1 a = some (.lst vs) ∧ (f.w Z).S k a → Src (f.re Z Fs H1) (Itl K a) g (ds.map fun d => asg (lfk k d))) ∧ (H1 a = some (.tup vs) → Src (f.re Z Fs H1) (Itt K a) g (ds.map fun d => asg (lfk k d))) := by
  have item : ∀ (i : Nat) (as : Asg) (env : VEnv) (σ : L2.St) (H : Hp), (ds.map fun d => asg (lfk k d))[i]? = some as → Good (f.re Z Fs H1) env σ H → (H1 a = some (.lst vs) ∧ (f.w Z).S k a ∨ H1 a = some (.tup vs)) → ∃ d v, as = asg (lfk k d) ∧ vs[i]? = some v ∧ ∀ Z2 Fs2, GoodAt (f.re Z Fs H1) Z2 Fs2 env σ H → RepO ((f.re Z Fs H1).w Z2) H (lfk k d) v (fun _ => False) := fun i as env σ H e gg ha => by
    rw [List.getElem?_map] at e
    cases q : ds[i]? with
    | none => rw [q] at e; cases e
    | some d =>
      rw [q] at e
      obtain ⟨_, _, all⟩ := re_seq (d := .non) hk g1 gg hr ha
      obtain ⟨Z3, Fs3, g3⟩ := gg
      obtain ⟨v, ev, _⟩ := Reps.get (all Z3 Fs3 g3) q
      refine ⟨d, v, (Option.some.inj e).symm, ev, fun Z2 Fs2 g2 => ?_⟩
      obtain ⟨v', ev', r'⟩ := Reps.get (all Z2 Fs2 g2) q
      rw [ev] at ev'
      cases ev'
      exact rep_lfk r'
  have hl : vs.length = ds.length := Reps.length hr
  refine ⟨fun ha => ⟨fun i as env σ H e gg => ?_, fun env σ H gg => ?_⟩, fun ha => ⟨fun i as env σ H e gg => ?_, fun env σ H gg => ?_⟩⟩
  · obtain ⟨d, v, rfl, ev, r⟩ := item i as env σ H e gg (.inl ha)
    have hs : SqL K H a vs := SqL.of ((re_seq (d := .non) hk g1 gg hr (.inl ha)).1 ha.1)
    refine ⟨⟨vs, v, hs, ev⟩, fun env1 e1 x H' y Q hQ => ?_⟩
    obtain ⟨rfl, y⟩ := y
    have := (y vs hs).symm.trans ev
    cases this
    exact hg _ _ env env1 σ _ Q gg r e1 hQ
  · exact ⟨vs, SqL.of ((re_seq (d := .non) hk g1 gg hr (.inl ha)).1 ha.1), by rw [hl, List.length_map]; exact Nat.le_refl _⟩
  · obtain ⟨d, v, rfl, ev, r⟩ := item i as env σ H e gg (.inr ha)
    have hs : SqT K H a vs := SqT.of ((re_seq (d := .non) hk g1 gg hr (.inr ha)).2.1 ha)
    refine ⟨⟨vs, v, hs, ev⟩, fun env1 e1 x H' y Q hQ => ?_⟩
    obtain ⟨rfl, y⟩ := y
    have := (y vs hs).symm.trans ev
    cases this
    exact hg _ _ env env1 σ _ Q gg r e1 hQ
  · exact ⟨vs, SqT.of ((re_seq (d := .non) hk g1 gg hr (.inr ha)).2.1 ha), by rw [hl, List.length_map]; exact Nat.le_refl _⟩
def iSeqM (asg : O → Asg) (ma : DEnv → R O) : DEnv → R (List Asg) := fun env => (ma env).bind fun o => match seqF o with
  | some (k, ds) => .ok (ds.map fun d => asg (lfk k d))
  | none => .no
theorem vi_seq {asg : O → Asg} (ha : VE X a ma) (hg : ∀ (f : Fm), FOk X P f → ∀ (o : O) (v : V) (env env1 : VEnv) (σ : L2.St) (H : Hp) (Q : L2.St → Hp → Prop), Good f env σ H → (∀ Z2 Fs2, GoodAt f Z2 Fs2 env σ H → RepO (f.w Z2) H o v (fun _ => False)) → asg o env = some env1 → (∀ σ1 H2, Good f env1 σ1 H2 → Q σ1 H2) → g v σ H Q) :
    VI X P tg a g (iSeqM asg ma) := fun W tk f hf => by
  refine ⟨_, pi_sq (ha.ef tk hf), fun Z Fs env σ H Q g0 h => ?_⟩
  refine ⟨Z, Fs, rE_of g0.goodE ?_⟩
  unfold iSeqM at h
  cases e : ma (dl env) with
  | no => rw [e] at h; exact h
  | ex x => rw [e] at h; exact fun cls d H' F s r fr => vi_err g0 h s r fr
  | ok o =>
    rw [e] at h
    intro v H1 F1 s1 p1 fr1
    simp only [R.bind] at h
    cases eo : seqF o with
    | none => rw [eo] at h; exact h.elim
    | some kd =>
      obtain ⟨k, ds⟩ := kd
      rw [eo] at h
      obtain ⟨Z', zu, hk, d, ed, rd⟩ := seqF_rep eo s1 p1 fr1
      obtain ⟨a, vs, rfl, ha, hr⟩ := seq_rep ed rd
      have g1 := g0.up s1 zu
      have src := src_seq (K := X.K) (a := a) (asg := asg) hk g1 hr (hg (f.re Z' Fs H1) hf)
      refine ⟨a, rfl, ?_⟩
      rcases ha with ha | ha
      · exact .inl ⟨⟨vs, SqL.of ha.1⟩, h _ H1 Z' s1 zu (src.1 ha)⟩
      · exact .inr ⟨⟨vs, SqT.of ha⟩, h _ H1 Z' s1 zu (src.2 ha)⟩
theorem asg1 {i : Nat} (hP : P.contains i = false) : ∀ (f : Fm), FOk X P f → ∀ (o : O) (v : V) (env env1 : VEnv) (σ : L2.St) (H : Hp) (Q : L2.St → Hp → Prop), Good f env σ H → (∀ Z2 Fs2, GoodAt f Z2 Fs2 env σ H → RepO (f.w Z2) H o v (fun _ => False)) → setA i o env = some env1 → (∀ σ1 H2, Good f env1 σ1 H2 → Q σ1 H2) → gName i v σ H Q :=
  fun f hf o v env env1 σ H Q g r e hQ => hQ _ _ (g.setA (pin_ne hf.2 hP) (fun Z Fs g => r Z Fs g) e)
theorem vi_list (i : Nat) (ha : VE X a ma) (hP : P.contains i = false := by rfl) : VI X P tg a (gName i) (iSeqM (setA i) ma) := vi_seq ha (asg1 hP)
end
end VL
namespace VLI
open PySem PySem.Spec PySem.Calls PyProof.Rows PySem.W
section
variable {prog : Program} {w : World} {A : Around} {E : Value → Shared → Prop} {s : Shared} {K : Frag} {x D : Addr} {ox : Obj} {od : Option Obj}
theorem findObj_dataD {C : Addr} {name : Str} {a g : Value} (hc : (clsIn K C).isSome = true) (ha : findIn K (.ref C) name = some (some a)) (hg : specialIn K a "__get__" = some (some g)) (ht : takesIn K a = some true) : findObj K C od name = some (.bind g a) := by
  obtain ⟨cd, hc⟩ := Option.isSome_iff_exists.mp hc
  unfold findObj
  rw [hc, Option.bind_some, ha, Option.bind_some]
  simp [hg, ht]
theorem kin_classD {Q : Option Value → Shared → Prop} (T : L2.ExcC K D) (X : K.In s.heap) (I : InstAt s.heap x ox D od) (h : Q (some (.ref D)) { s with toks := s.toks + 1 }) : wpAny (model prog w) A (getAttr? (.ref x) "__class__") Q E s := by
  have hf : findObj K D od "__class__" = some (.bind (.builtin "getset_descriptor.__get__") (.builtin "object.__class__")) := findObj_dataD (by obtain ⟨cd, hc, _⟩ := any_some T.hd; rw [hc]; rfl) T.ha T.hn T.ht
  obtain ⟨hp, g, d, t, os⟩ := s
  have L0 := I.type (M := model prog w)
  have L1 := looks_findIn (M := model prog w) X T.hg
  have L2 := looks_findIn (M := model prog w) X T.hk
  have L3 := looks_find (M := model prog w) X I hf
  have sub : Looks (model prog w) hp (isInstance (.ref x) (.type "BaseException")) true := L0.andThen (looks_subIn X T.hs)
  have hx0 : (false && onTheHeap (Value.builtin "BaseException.__getattribute__")) = false := rfl
  have hx2 : (Value.builtin "BaseException.__getattribute__" == Value.builtin "object.__getattribute__") = false := by decide +kernel
  have hx1 : (onTheHeap (Value.ref D) && Value.builtin "BaseException.__getattribute__" == Value.builtin "object.__getattribute__") = false := by rw [hx2]; rfl
  unfold getAttr? getAttrBy? getAttrBy
  refine wpAny_bind (wpAny_mkText (wpAny_bind (wpAny_attempt (wpAny_holding (wpAny_bind (L0.at (wpAny_bind (L1.at ?_))))))))
  show wpAny _ _ (if (onTheHeap (Value.ref D) && Value.builtin "BaseException.__getattribute__" == Value.builtin "object.__getattribute__") = true then _ else _) _ _ _
  rw [hx1, if_neg Bool.false_ne_true]
  unfold getAttrByItsOwn hookBefore
  refine wpAny_bind ?_
  rw [if_pos (show onTheHeap (Value.ref D) = true from rfl)]
  refine L2.at ?_
  refine wpAny_bind (wpAny_attempt (wpAny_holding ?_))
  unfold callGetattribute
  rw [hx0, if_neg Bool.false_ne_true]
  unfold boundAndCalled
  rw [PySem.F.excAttr_ValueError.ga.bind (.ref x)]
  refine wpAny_bind (wpAny_pure ?_)
  show wpAny _ _ (call (.builtin "BaseException.__getattribute__") [.ref x, .str "__class__" t]) _ _ _
  refine wpAny_call (codeAny_call_builtin PySem.F.excAttr_ValueError.ga.plain PySem.F.entry_bexc_ga ?_)
  refine @check_slot (model prog w) _ _ ⟨hp, g, d, t + 1, os⟩ "BaseException.__getattribute__" "BaseException" "__getattribute__" (.ref x) [.str "__class__" t] [] _ (by decide +kernel) (by decide +kernel) sub (PySem.F.args_bexc_ga (.ref x) (.str "__class__" t)) ?_
  unfold Builtin.«object.__getattribute__»
  refine wpAny_bind (wpAny_of_eq (a := ((Value.ref x : Value), [Value.str "__class__" t])) (by first | rfl | (simp only [slotArgs]; rfl)) ?_)
  refine wpAny_bind (wpAny_pure (wpAny_bind (L0.at (wpAny_bind (L3.at ?_)))))
  show wpAny _ _ (holding [Value.builtin "object.__class__"] (call (.builtin "getset_descriptor.__get__") [.builtin "object.__class__", .ref x, .ref D]) >>= ret) _ _ _
  refine wpAny_bind (wpAny_holding (wpAny_call (class_get (s := ⟨hp, g, d, t + 1, os⟩) (ox := ox) (od := od) X I T.hm ?_)))
  refine wpAny_pure ?_
  show wpAny _ _ (handedOut (.ref D)) _ _ _
  rw [handedOut_of (v := .ref D) rfl]
  first
    | exact wpAny_pure (wpAny_pure h)
    | exact wpAny_pure h
    | exact wpAny_pure (wpAny_bind (wpAny_pure (wpAny_pure h)))
theorem kitD (T : L2.ExcC K D) : KitX K (.ref x) (.ref D) (fun h => ∃ od, InstAt h x ox D od) where
  ty := fun _ _ _ ⟨_, I⟩ => I.type
  it := fun _ _ X _ => by
    obtain ⟨cdD, hcD, _⟩ := any_some T.hd
    unfold clsIn at hcD
    split at hcD
    · rename_i c' d' cd' sl' ho
      intro A' Q' E' s' k q
      unfold isType loadHead
      exact wpAny_bind (wpAny_loadPart (k _ _ (X _ _ ho)) (wpAny_pure q))
    · cases hcD
  ne := fun h tp dd its n sl X htp => by
    obtain ⟨cdD, hcD, _⟩ := any_some T.hd
    refine Bool.eq_false_iff.mpr fun q => ?_
    have e : D = tp := Value.ref.inj (beq_iff_eq.mp q)
    subst e
    unfold clsIn at hcD
    split at hcD
    · rename_i c' d' cd' sl' ho
      have z := (X _ _ ho).symm.trans htp
      cases z
    · cases hcD
  ca := fun X ⟨_, I⟩ k => kin_classD T X I k
end
end VLI
namespace L2
open PySem PySem.Spec PyProof.Rows
section
variable {X : Cx} {a D : Addr} {oe : Obj} {d : Option Addr}
theorem inst_of {pins : List (Addr × Obj)} {σ : St} {H : Hp} {s : Shared} (I : Inv X pins σ H s) (hp : (a, oe) ∈ X.pn) (hz : Zc (.ref D) d oe) (hf : ∃ vs, oe.data = .fields vs) (hd : ∀ dd, d = some dd → ∃ u, H dd = some u) : ∃ od, PySem.W.InstAt s.heap a oe D od := by
  obtain ⟨ha, _⟩ := I.pin (a, oe) (List.mem_append_left _ hp)
  obtain ⟨vs, hv⟩ := hf
  cases d with
  | none => exact ⟨none, ha, hz.1, by unfold PySem.W.notCls; rw [hv] <;> rfl, by rw [hz.2]; trivial⟩
  | some dd =>
    obtain ⟨u, e⟩ := hd dd rfl
    obtain ⟨o, ho⟩ := objOk_get (I.hok dd u e)
    exact ⟨some o, ha, hz.1, by unfold PySem.W.notCls; rw [hv] <;> rfl, by rw [hz.2]; exact ho⟩
def rIsD (K : PySem.W.Frag) (D a : Addr) (d : Option Addr) : List V → Hp → VK → Prop := fun xs H Q => ∃ (c : V) (cv : Value) (b : Bool), xs = [.ref a, c] ∧ ClsV c cv ∧ PySem.W.kitOne K (.ref D) cv = some b ∧ (∀ dd, d = some dd → ∃ u, H dd = some u) ∧ Q (.bl b) H
theorem call_isD (hp : (a, oe) ∈ X.pn) (hz : Zc (.ref D) d oe) (hf : ∃ vs, oe.data = .fields vs) (T : ExcC X.K D) : CallR X (.builtin "isinstance") (rIsD X.K D a d) := by
  intro pins s σ H xs us Q I r h
  obtain ⟨c, cv, b, rfl, k, e, hd, q⟩ := h
  obtain ⟨u1, u2, rfl, r1, r2⟩ := vals2 r
  cases (show u1 = Value.ref a from r1)
  have ec := k.eq r2
  subst ec
  exact PySem.W.kia_one (VLI.kitD T) I.kIn (inst_of I hp hz hf hd) e (fun z => nomatch z) fun tk => ⟨.bl b, H, I.tok tk, rfl, q⟩
end
end L2
namespace VLX
open PySem PySem.Spec PyProof.Rows L2
def cxS (CX : CXT) (P : Program) (w : World) (K : PySem.W.Frag) (mg : Str → Option Value) (base : Heap) (N : List Str) (qual : Str) (scope : Scope) (f cda cc : Addr) (A : Around) (outer : List Env) (s : Shared) (H : Hp) (E : XK) (cal : Bool) (pn : List (Addr × Obj)) : Cx where
  prog := P
  w := w
  K := K
  mg := mg
  base := base
  A := A.deeper (PySem.W.ksEnv qual scope s.heap.objs.size f (.ref cda) cc)
  N := N
  s_0 := s
  H_0 := H
  env := PySem.W.ksEnv qual scope s.heap.objs.size f (.ref cda) cc
  outer := outer
  stack := PySem.W.ksEnv qual scope s.heap.objs.size f (.ref cda) cc :: outer
  ex := []
  calm := cal
  fn := fun _ => false
  pn := pn
  xe := fun e s' => wpAny (model P w) (A.deeper (PySem.W.ksEnv qual scope s.heap.objs.size f (.ref cda) cc)) (leaving (PySem.W.ksEnv qual scope s.heap.objs.size f (.ref cda) cc) e) (fun _ s'' => CX outer H s E e s'') (fun e' s'' => CX outer H s E e' s'') s'
structure SupScope (ps : List Str) (sc : Scope) : Prop where
  kind : sc.kind = .function
  co : sc.isCoroutine = false
  gen : sc.isGenerator = false
  nd : ps.Nodup
  par : ∀ x ∈ ps, sc.names.lookup x = some .local
  nocell : ∀ y ∈ sc.names, y.2 ≠ .cell
  free : ∀ y ∈ sc.names, y.2 = .free → y.1 = "__class__"
  sup : sc.names.lookup ("super" : Str) = some .globalImplicit
  cls : sc.names.lookup ("__class__" : Str) = some .free
def supB (ps : List Str) (sc : Scope) : Bool :=
  decide (sc.kind = .function) && !sc.isCoroutine && !sc.isGenerator && decide ps.Nodup && ps.all (fun x => decide (sc.names.lookup x = some .local)) && sc.names.all (fun y => !decide (y.2 = .cell)) && sc.names.all (fun y => !decide (y.2 = .free) || decide (y.1 = "__class__")) && decide (sc.names.lookup ("super" : Str) = some .globalImplicit) && decide (sc.names.lookup ("__class__" : Str) = some .free)
theorem sup_by {ps : List Str} {sc : Scope} (h : supB ps sc = true) : SupScope ps sc := by
  unfold supB at h
  simp only [Bool.and_eq_true, decide_eq_true_eq, Bool.not_eq_true', List.all_eq_true, Bool.or_eq_true, decide_eq_false_iff_not] at h
  obtain ⟨⟨⟨⟨⟨⟨⟨⟨h1, h2⟩, h3⟩, h4⟩, h5⟩, h6⟩, h7⟩, h8⟩, h9⟩ := h
  exact ⟨h1, h2, h3, h4, h5, h6, fun y hy e => (h7 y hy).elim (fun z => absurd e z) id, h8, h9⟩
section
variable {CX : CXT} {P : Program} {w : World} {K : PySem.W.Frag} {mg : Str → Option Value} {base : Heap} {ps : List Str} {qual : Str} {scope : Scope} {f cda cc : Addr} {A : Around} {outer : List Env} {s : Shared} {H : Hp} {E : XK} {us : List Value} {vs : List V} {cal : Bool} {pn : List (Addr × Obj)}
theorem zip_look : ∀ {ps : List Str} {us : List Value} {i : Nat} {x : Str} {u : Value}, ps.Nodup → ps[i]? = some x → us[i]? = some u → (ps.zip us).reverse.lookup x = some u
  | [], us, i, x, u, _, h, _ => by simp at h
  | p :: ps, [], i, x, u, _, _, h => by simp at h
  | p :: ps, v :: us, 0, x, u, nd, h, h' => by
    simp at h h'
    subst h
    subst h'
    rw [List.zip_cons_cons, List.reverse_cons]
    have : (ps.zip us).reverse.lookup p = none := by
      cases e : (ps.zip us).reverse.lookup p with
      | none => rfl
      | some z =>
        have m := PySem.mem_of_lookup e
        rw [List.mem_reverse] at m
        exact absurd (List.of_mem_zip m).1 (List.nodup_cons.mp nd).1
    rw [List.lookup_append, this]
    simp [List.lookup]
  | p :: ps, v :: us, i + 1, x, u, nd, h, h' => by
    have e := zip_look (List.nodup_cons.mp nd).2 (show ps[i]? = some x by simpa using h) (show us[i]? = some u by simpa using h')
    rw [List.zip_cons_cons, List.reverse_cons, List.lookup_append, e]
    rfl
theorem inv_startS {h₁ : Heap} {tk : Nat} (S : SupScope ps scope) (hd : cal = true → A.handled = none) (hpin : ∀ q ∈ pn, L2H.PinOk outer H s q) (e0 : Env0 P w K mg base A outer s H) (hl : vs.length = ps.length) (r : Vals vs us) (hcell : ∃ v, s.heap.IsCell cc v) (hcf : H cc = none) (hns : h₁.Ns s.heap.objs.size fun y => (ps.zip us).reverse.lookup y)
    (kp : ∀ b o, s.heap.get? b = some o → h₁.get? b = some o) : Inv (cxS CX P w K mg base ps qual scope f cda cc A outer s H E cal pn) [] (vs.map some) H { s with heap := h₁, toks := tk } := by
  have noA : ∀ b : Addr, b ∉ (cxS CX P w K mg base ps qual scope f cda cc A outer s H E cal pn).ex := fun b z => absurd (show b ∈ ([] : List Addr) from z) (by simp)
  have cellK : ∀ {c : Addr} {v : Option Value}, s.heap.IsCell c v → h₁.IsCell c v := fun {c v} ⟨o, ho, hd⟩ => ⟨o, kp _ _ ho, hd⟩
  have lk : ∀ x c, List.lookup x [(("__class__" : Str), cc)] = some c → x = "__class__" ∧ c = cc := fun x c e => by
    rw [List.lookup] at e
    split at e
    · rename_i q
      exact ⟨by simpa using q, (Option.some.inj e).symm⟩
    · cases e
  refine ⟨⟨e0.mod, S.kind, rfl, rfl, Nat.le_refl _, fun x y c h1 h2 => ?_, fun y hy => ?_, fun y c z _ => ?_, hd, Around.frames_deeper e0.frames, .inr ⟨rfl, rfl⟩, fun b z => absurd z (noA b), e0.bs, e0.bsz, fun b _ _ => noA b,
      fun b z => absurd z (noA b), e0.funs, e0.frf⟩,
    rfl, e0.bare, Un.kept kp, ⟨_, hns, fun i y v e1 e2 e3 => ?_⟩, fun y c e => ?_, e0.hok.fresh (Nat.le_refl _), fun y c e => ?_, fun q hq => ?_, e0.hok.kept kp, ?_⟩
  · exact (lk x c h1).1.trans (lk y c h2).1.symm
  · have hy : scope.names.lookup y = some .cell ∨ scope.names.lookup y = some .free := hy
    rcases hy with hy | hy
    · exact absurd rfl (S.nocell _ (PySem.mem_of_lookup hy))
    · have e := S.free _ (PySem.mem_of_lookup hy) rfl
      refine ⟨cc, ?_⟩
      show List.lookup y [(("__class__" : Str), cc)] = some cc
      rw [show y = "__class__" from e]
      simp [List.lookup]
  · have z : false = true := z
    cases z
  · have e1 : ps[i]? = some y := e1
    rw [List.getElem?_map] at e2
    have ha : vs[i]? = some v := by
      cases e : vs[i]? with
      | none => rw [e] at e2; cases e2
      | some a => rw [e] at e2; cases e2; rfl
    obtain ⟨u, hu, rv⟩ := r.get ha
    exact ⟨u, rv, .inl ⟨S.par y (List.mem_of_getElem? e1), zip_look S.nd e1 hu⟩⟩
  · obtain ⟨v, hv⟩ := hcell
    rw [(lk y c e).2]
    exact ⟨v, cellK hv⟩
  · rw [(lk y c e).2]
    exact hcf
  · have z : q ∈ pn := by simpa using (show q ∈ pn ++ ([] : List (Addr × Obj)) from hq)
    have k := hpin q z
    exact ⟨kp q.1 q.2 k.get, k.free, Nat.ne_of_lt (Heap.lt_size k.get), k.nofs, k.nocell⟩
  · show (vs.map some).length = ps.length
    rw [List.length_map, hl]
structure SupOk (P : Program) (K : PySem.W.Frag) (mg : Str → Option Value) (C f cda cc : Addr) (fd : FuncData) (qual : Str) (ps : List Str) (scope : Scope) (body : List Stmt) : Prop where
  fn : ∃ oc od osl name params dV kV doc pm an ct ar, fd = PySem.W.fnX name qual params body scope [("__class__", cc)] dV kV doc pm an (.ref cda) ct ∧ K.lookup f = some ⟨oc, od, .func fd, osl⟩ ∧ (params.posonlyargs ++ params.args).head? = some ar ∧ ps[0]? = some ar.arg
  cd : PySem.W.codeIn K (.ref cda) qual = true
  co : ∃ ccl cdd vs ccs file tf, K.lookup cda = some ⟨ccl, cdd, .fields vs, ccs⟩ ∧ vs[2]? = some (.str file tf) ∧ ((P.main.file : Str) == file) = true
  top : (P.main.scope.names.lookup ("super" : Str)).isSome = false
  ce : ∃ cl cld csl, K.lookup cc = some ⟨cl, cld, .cell (some (.ref C)), csl⟩
  ox : OexC K C
  su : PySem.W.ks_superIn K C C "__init__" = some (some (.builtin "ValueError.__init__"))
  ve : PySem.W.subIn K (.ref C) (.type "ValueError") = some true
  me : PySem.W.mroIn K C (.ref C) = some true
  th : PySem.W.nsIn K cStatics "thirdparty.any" = some none
  ms : mg "super" = none
theorem call_mw {P : Program} {w : World} {A : Around} {E : Value → Shared → Prop} {h : Heap} {g : Array GenState} {d : Drawn} {t : Nat} {os : OsState} {nm q : Str} {C N : Addr} {bs bm : List Value} {hdct : Bool} {sn : List Str} {sub : List Value} {ab : Bool} {col : Option Bool} {dd : Option Addr} {k0 k1 k2 k3 k5 : Option Value}
    {u e t0 : Addr} {rest : List Value} {Q : Value → Shared → Prop} (hbm : PySem.HandSPX.refsVE bm = true)
    (hC : h.get? C = some (excClassObj nm q C N bs bm hdct sn sub ab col dd k0 k1 k2 k3 k5 "ValueError.__new__")) (he : h.get? e = some (PySem.HandSPX.excO C t0)) (hu : h.get? u = some (PySem.W.kxs_mw "ValueError.__init__" e)) (hrest : rest.length ≤ sizeLine)
    (hq : ∀ h' t1, (∀ b o, b ≠ e → h.get? b = some o → h'.get? b = some o) → h'.get? e = some (PySem.HandSPX.excO C t1) → Q .none ⟨h', g, d, t, os⟩) :
    wpAny (model P w) A (call (.ref u) rest) Q E ⟨h, g, d, t, os⟩ := by
  refine wpAny_call (codeAny_of_tree ?_)
  show wpAny _ A.in1 (callAny (.ref u) ⟨rest, []⟩) _ _ _
  simp only [callAny]
  refine wpAny_bind (wpAny_load hu ?_)
  simp only [PySem.W.kxs_mw, show (Value.type "method-wrapper" == Value.type "method" || Value.type "method-wrapper" == Value.type "builtin_function_or_method" || Value.type "method-wrapper" == Value.type "method-wrapper") = true by decide, if_true]
  refine PySem.W.KFB.if_so (by decide) ?_
  refine wpAny_bind (PySem.ESX.check_bound F.excBase_ValueError hC he rfl ?_)
  refine wpAny_bind (wpAny_pure (wpAny_pure ?_))
  refine ⟨Code.quiet_builtin _ (by decide +kernel), codeAny_builtin F.excBase_ValueError.initEntry ?_⟩
  rw [Around.under_plainId F.excBase_ValueError.init.plain _]
  wp_walk
  refine hq _ h.objs.size (fun b o hb ho => ?_) ?_
  · rw [Heap.get?_update_other _ _ (Ne.symm hb)]
    exact Heap.get?_push_of_some _ ho
  · rw [Heap.get?_update_self _ (Heap.get?_push_of_some _ he) rfl]
    rfl
theorem fn_super1 {k : Nat} {fd : FuncData} {st0 : Stmt} {rest : List Stmt} {C : Addr} {p0 p1 p2 p3 p4 p5 : Pos} {msg : Str} {j : Nat} {pl : Sem Bool} {args : Args} {Q : VK}
    (T : SupOk P K mg C f cda cc fd qual ps scope (st0 :: rest)) (S : SupScope ps scope) (hst : st0 = .Expr (.Call (.Attribute (.Call (.Name "super" p0) [] [] p1) "__init__" p2) [.Constant (.str msg) j p3] [] p4) p5)
    (hcall : ∀ env : Env, eval (.Call (.Attribute (.Call (.Name "super" p0) [] [] p1) "__init__" p2) [.Constant (.str msg) j p3] [] p4) env = (do
      let ov ← attributeBase (.Call (.Name "super" p0) [] [] p1) "__init__" env (eval (.Call (.Name "super" p0) [] [] p1) env)
      standAt p2.atName
      let (f, first) ← holding [ov] (getMethod ov "__init__" pl)
      callWith p4 f first (backTo p4 (starEach [.Constant (.str msg) j p3] env)) []))
    (hl : vs.length = ps.length) (hdep : A.depth < recursionLimit) (hcal : cal = true → A.handled = none) (hpin : ∀ q ∈ pn, L2H.PinOk outer H s q) (e0 : Env0 P w K mg base A outer s H) (hb : BindsTo s fd args (ps.zip us)) (r : Vals vs us)
    (hbody : ∃ a r t, vs = .ref a :: r ∧ H a = some (exo a C none) ∧ PSs (cxS CX P w K mg base ps qual scope f cda cc A outer s H E cal pn) rest t ∧ t { nx := fun _ H' => Q .non H', rt := Q } (vs.map some) H) :
    codeAny (model P w) A (.call (.ref f) args) (CR CX outer P w H s Q E) s := by
  obtain ⟨oc, od, osl, name, params, dV, kV, doc, pm, an, ct, ar, rfl, lk, har, har0⟩ := T.fn
  obtain ⟨cl, cld, csl, hcell⟩ := T.ce
  obtain ⟨ccl, cdd, cvs, ccs, file, tf, hcode, hvs, hfile⟩ := T.co
  obtain ⟨nm, qn, N, bs, bm, sn, sub, ab, col, dd, k0, k1, k2, k3, k5, hC, hbm⟩ := T.ox.cls
  have hclI : PySem.W.clsIn K C = some { name := nm, bases := bs, mro := .ref C :: bm, ns := N, qualname := qn, hasDict := true, slotNames := sn, subclasses := sub, abstract := ab, collection := col, hasDel := false } := by unfold PySem.W.clsIn; rw [hC] <;> rfl
  obtain ⟨a, rs, t, rfl, ha, hrun, hq⟩ := hbody
  have KX : K.In s.heap := e0.mod.kin.keeps fun b o e => (e0.bs b o e).1
  have lim : s.heap.NoLimit := e0.mod.nolimit.keeps fun b o e => (e0.bs b o e).1
  have hccb : base.get? cc = some _ := e0.mod.kin _ _ hcell
  refine PySem.ks_codeAny_call_defAt (fd := PySem.W.fnX name qual params (st0 :: rest) scope [("__class__", cc)] dV kV doc pm an (.ref cda) ct) (body := st0 :: rest) (binds := ps.zip us) hdep (KX _ _ lk) rfl lim (PySem.W.codeRec_of KX T.cd) rfl hb S.nocell (fun ⟨n, v⟩ hy => S.par n (List.of_mem_zip hy).1) (fun h₀ hns kp => ?_) S.co S.gen S.kind
  have I0 : Inv (cxS CX P w K mg base ps qual scope f cda cc A outer s H E cal pn) [] ((V.ref a :: rs).map some) H { s with heap := h₀, toks := s.toks + (ps.zip us).length } := inv_startS S hcal hpin e0 hl r ⟨_, _, KX _ _ hcell, rfl⟩ (e0.bs _ _ hccb).2 hns kp
  show _root_.PySem.wpAt _ (A.deeper (PySem.W.ksEnv qual scope s.heap.objs.size f (.ref cda) cc)) (.func (st0 :: rest) (PySem.W.ksEnv qual scope s.heap.objs.size f (.ref cda) cc)) (execs (st0 :: rest) (PySem.W.ksEnv qual scope s.heap.objs.size f (.ref cda) cc)) _ _ _
  -- the rest, behind the first statement
  have tail : ∀ s1, Inv (cxS CX P w K mg base ps qual scope f cda cc A outer s H E cal pn) [] ((V.ref a :: rs).map some) H s1 →
      _root_.PySem.wpAt (model P w) (A.deeper (PySem.W.ksEnv qual scope s.heap.objs.size f (.ref cda) cc)) (.func (st0 :: rest) (PySem.W.ksEnv qual scope s.heap.objs.size f (.ref cda) cc)) (execs rest (PySem.W.ksEnv qual scope s.heap.objs.size f (.ref cda) cc))
        (fun f s' => CR CX outer P w H s Q E (.ok (.ret (match f with | .ret v => v | _ => .none))) s') (cxS CX P w K mg base ps qual scope f cda cc A outer s H E cal pn).xe s1 := fun s1 I1 => by
    refine wpAt_of_wpAny (wpAny_mono (hrun.run [] s1 _ H _ I1 hq) (fun fl s' hs => ?_) fun e s' hs => hs)
    have fin : ∀ {σ' : L2.St} {H' : Hp} {v : V} {u : Value}, Inv (cxS CX P w K mg base ps qual scope f cda cc A outer s H E cal pn) [] σ' H' s' → RelV v u → Q v H' → CE outer P w H s Q u s' :=
      fun {σ' H' v u} J rv q => ⟨v, H', J.os, J.bare, J.base, J.hok, rv, q⟩
    cases fl with
    | ret u =>
      obtain ⟨v, σ', H', J, rv, q⟩ := hs
      exact fin J rv q
    | next =>
      obtain ⟨σ', H', J, q⟩ := hs
      exact fin (v := V.non) (u := Value.none) J rfl q
    | brk =>
      obtain ⟨_, _, _, q⟩ := hs
      exact False.elim q
    | cont =>
      obtain ⟨_, _, _, q⟩ := hs
      exact False.elim q
  subst hst
  refine PySem.ks_wpAt_execs_cons (PySem.ks_wpAt_Expr_any ?_ (by simp [interactive, S.kind]) rfl)
  refine PySem.ks_wpAt_MethodCall (pl := pl) ?_ (hcall _)
  obtain ⟨oD, hD1, hD2⟩ : ∃ oD, h₀.get? C = some oD ∧ ∃ cdD, oD.data = .cls cdD := by
    refine ⟨_, I0.kIn _ _ hC, ?_⟩
    exact ⟨_, rfl⟩
  obtain ⟨cdD, hD2⟩ := hD2
  refine PySem.ks_wpAt_super_base (env := PySem.W.ksEnv qual scope s.heap.objs.size f (.ref cda) cc) S.sup S.cls (by decide) rfl (I0.kIn _ _ lk) rfl har rfl (I0.kIn _ _ hcode) rfl hvs hfile T.top ?_
  obtain ⟨mb, hb1, hb2⟩ := I0.mod.blt
  refine PySem.W.ks_loadName_global S.kind S.sup (Calls.loadGlobal_builtin (env := PySem.W.ksEnv qual scope s.heap.objs.size f (.ref cda) cc) (I0.mod.glob.keeps I0.bk) T.ms (hb1.keeps I0.bk) ((hb2 _ (by decide +kernel)).trans (by decide +kernel)) ⟨rfl, ?_⟩)
  refine wpAny_loadName_free S.kind S.cls rfl ⟨_, I0.kIn _ _ hcell, rfl⟩ ?_
  obtain ⟨m, hns', hloc⟩ := I0.loc
  obtain ⟨u0, ru0, hlk⟩ := hloc 0 ar.arg (.ref a) har0 rfl (.inl (S.par _ (List.mem_of_getElem? har0)))
  obtain rfl : u0 = Value.ref a := ru0
  have hself : m ar.arg = some (.ref a) := by
    rcases hlk with ⟨_, z⟩ | ⟨z, _⟩
    · exact z
    · exfalso
      have q := S.par _ (List.mem_of_getElem? har0)
      have z : scope.names.lookup ar.arg = some .cell ∨ scope.names.lookup ar.arg = some .free := z
      rw [q] at z
      rcases z with z | z <;> cases z
  refine wpAny_loadName_local S.kind (S.par _ (List.mem_of_getElem? har0)) hns' hself ?_
  refine PySem.ks_wpAny_isType_cls hD1 hD2 ⟨rfl, ?_⟩
  obtain ⟨t1, ho⟩ := exo_at I0.hok ha
  refine PySem.ks_wpAny_call_super hD1 hD2 ho rfl (fun c e => by cases e) (PySem.W.looks_mroIn I0.kIn T.me) (fun h' eso k => ?_)
  -- the super object stands; its method
  have I1 : Inv (cxS CX P w K mg base ps qual scope f cda cc A outer s H E cal pn) [] ((V.ref a :: rs).map some) H { s with heap := h', toks := s.toks + (ps.zip us).length } := I0.kept (h' := h') (t' := s.toks + (ps.zip us).length) k
  have ho1 := k _ _ ho
  have hI : PySem.W.Looks (model P w) h' (isInstance (.ref a) (.type "ValueError")) true := (show PySem.W.InstAt h' a (PySem.HandSPX.excO C t1) C none from ⟨ho1, rfl, rfl, trivial⟩).type.andThen (PySem.W.looks_subIn I1.kIn T.ve)
  have hsup := T.su
  unfold PySem.W.ks_superIn at hsup
  rw [hclI] at hsup
  have haC : a ≠ C := fun z => by
    have q := I1.kIn _ _ hC
    rw [← z, show h'.get? a = _ from ho1] at q
    cases q
  refine PySem.W.kxs_getMethod PySem.W.kxs_ValueError eso (PySem.W.looks_opaque I1.kIn T.th) (l₀ := .ref C :: bm) (fun A Q E s k q => wpAny_bind ((PySem.W.looks_clsIn I1.kIn hclI) A _ E s k (wpAny_pure q))) rfl I1.kIn hsup hI haC (by decide) ?_
  -- the bound __init__ is called with the text
  have I2 : Inv (cxS CX P w K mg base ps qual scope f cda cc A outer s H E cal pn) [] ((V.ref a :: rs).map some) H { s with heap := h'.push (PySem.W.kxs_mw "ValueError.__init__" a), toks := s.toks + (ps.zip us).length + 1 } := I1.kept (h' := h'.push _) (t' := s.toks + (ps.zip us).length + 1) fun b o e => Heap.get?_push_of_some _ e
  have eu : (h'.push (PySem.W.kxs_mw "ValueError.__init__" a)).get? h'.objs.size = some (PySem.W.kxs_mw "ValueError.__init__" a) := Heap.get?_push_at rfl rfl
  refine PySem.W.kxs_callWith (i := "ValueError.__init__") (x := a) rfl (Calls.evalArgs_plain ?_)
  have uf : H h'.objs.size = none := I1.hok.fresh (Nat.le_refl _)
  have I3 := I2.pins_of (pins' := [(h'.objs.size, PySem.W.kxs_mw "ValueError.__init__" a)]) fun p hp => by
    have e : p = (h'.objs.size, PySem.W.kxs_mw "ValueError.__init__" a) := by simpa using hp
    subst e
    exact ⟨eu, uf, Nat.ne_of_gt I1.lt, I1.nofs (Nat.le_refl _), fun v q => by cases q⟩
  refine thn ((pa_cons (X := cxS CX P w K mg base ps qual scope f cda cc A outer s H E cal pn) (pe_str (x := msg)) pa_nil rfl).run p4 _ _ _ H (fun vs H' => vs = [.str msg] ∧ H' = H) I3 ⟨rfl, rfl⟩) fun us1 s1 ⟨vs1, H1, J1, r1, e1, e2⟩ => ?_
  subst e1
  subst e2
  have pin := J1.pin (h'.objs.size, PySem.W.kxs_mw "ValueError.__init__" a) (by simp)
  refine ⟨pin.1, ?_⟩
  obtain ⟨t2, ho2⟩ := exo_at J1.hok ha
  have hlen : us1.length ≤ sizeLine := by
    rw [← Paired.length r1, sizeLine_eq]
    show 1 ≤ 16777216
    omega
  have J2 := J1.pins_of (pins' := []) (fun p hp => by simp at hp)
  obtain ⟨hp1, g1, d1, tk1, os1⟩ := s1
  refine call_mw hbm (J1.kIn _ _ hC) ho2 pin.1 hlen fun h3 t3 k3 he3 => ?_
  have J := J2.write (h' := h3) (t' := tk1) (x := a) (e := a) (o := exo a C none) (by rw [ha]; exact True.intro) (.inl rfl) k3 ⟨_, he3⟩ (exo_ok he3)
  have eu2 : upd H1 a (exo a C none) = H1 := by
    funext b
    by_cases hb : b = a
    · rw [hb, upd_same, ha]
    · rw [upd_ne hb]
  rw [eu2] at J
  exact tail _ J
theorem fn_super {k : Nat} {fd : FuncData} {st0 : Stmt} {rest : List Stmt} {sp : Sp} {C : Addr} {p0 p1 p2 p3 p4 p5 : Pos} {msg : Str} {j : Nat} {pl : Sem Bool}
    (T : SupOk P K mg C f cda cc fd qual ps scope (st0 :: rest)) (S : SupScope ps scope) (hst : st0 = .Expr (.Call (.Attribute (.Call (.Name "super" p0) [] [] p1) "__init__" p2) [.Constant (.str msg) j p3] [] p4) p5)
    (hcall : ∀ env : Env, eval (.Call (.Attribute (.Call (.Name "super" p0) [] [] p1) "__init__" p2) [.Constant (.str msg) j p3] [] p4) env = (do
      let ov ← attributeBase (.Call (.Name "super" p0) [] [] p1) "__init__" env (eval (.Call (.Name "super" p0) [] [] p1) env)
      standAt p2.atName
      let (f, first) ← holding [ov] (getMethod ov "__init__" pl)
      callWith p4 f first (backTo p4 (starEach [.Constant (.str msg) j p3] env)) []))
    (len : ∀ vs H Q E, sp vs H Q E → vs.length = ps.length)
    (hbody : ∀ (A : Around) (outer : List Env) (s : Shared) (H : Hp) (vs : List V) (Q : VK) (E : XK) (cal : Bool) (pn : List (Addr × Obj)), sp vs H Q E →
      ∃ a r t, vs = .ref a :: r ∧ H a = some (exo a C none) ∧ PSs (cxS CX P w K mg base ps qual scope f cda cc A outer s H E cal pn) rest t ∧ t { nx := fun _ H' => Q .non H', rt := Q } (vs.map some) H) :
    FnOk P w K mg base CX (k + 1) f fd ps sp ∧ L2H.FnH P w K mg base CX (k + 1) f fd ps sp :=
  ⟨⟨len, fun A outer s H args us vs Q E hr e0 hb r hsp => fn_super1 (pl := pl) (k := k) (cal := true) (pn := []) T S hst hcall (len _ _ _ _ hsp) hr.depth (fun _ => hr.hd) (fun _ z => absurd z List.not_mem_nil) e0 hb r (hbody A outer s H vs Q E true [] hsp)⟩,
   ⟨len, fun A outer s H args us vs Q E p hr _ hpin e0 hb r hsp => fn_super1 (pl := pl) (k := k) (cal := false) (pn := [p]) T S hst hcall (len _ _ _ _ hsp) hr.depth (fun z => absurd z (by decide)) (fun q hq => by rw [List.mem_singleton.mp hq]; exact hpin) e0 hb r (hbody A outer s H vs Q E false [p] hsp)⟩⟩
end
end VLX
namespace VL
open PySem PySem.Spec PyProof.Rows L2
section
variable {cl cl' : Cl} {H : Hp} {S : Addr → Prop}
mutual
theorem Rep.cl (e : cl'.b = cl.b) : ∀ {d : D} {v : V}, Rep cl H S d v → Rep cl' H S d v
  | .non, v, h => h
  | .bl _, v, h => h
  | .int _, v, h => h
  | .str _, v, h => h
  | .lst xs, v, h => by
    simp only [Rep] at h ⊢
    obtain ⟨a, vs, e1, s, r, q⟩ := h
    exact ⟨a, vs, e1, s, r, Reps.cl e q⟩
  | .scr xs, v, h => by
    simp only [Rep] at h ⊢
    obtain ⟨a, vs, e1, r, q⟩ := h
    exact ⟨a, vs, e1, by rw [e]; exact r, Reps.cl e q⟩
  | .tup xs, v, h => by
    simp only [Rep] at h ⊢
    obtain ⟨a, vs, e1, r, q⟩ := h
    exact ⟨a, vs, e1, r, Reps.cl e q⟩
  | .dct ks xs, v, h => by
    simp only [Rep] at h ⊢
    obtain ⟨a, vs, e1, s, r, z, q⟩ := h
    exact ⟨a, vs, e1, s, r, z, Reps.cl e q⟩
  | .dcT ks xs, v, h => by
    simp only [Rep] at h ⊢
    obtain ⟨a, vs, e1, s, r, z, q⟩ := h
    exact ⟨a, vs, e1, s, r, z, Reps.cl e q⟩
  | .obj C fs xs, v, h => by
    simp only [Rep] at h ⊢
    obtain ⟨a, Ca, dx, vs, e1, s, c, r, z, q⟩ := h
    exact ⟨a, Ca, dx, vs, e1, s, by rw [e]; exact c, r, z, Reps.cl e q⟩
  | .kt, v, h => by
    simp only [Rep] at h ⊢
    obtain ⟨a, e1, r⟩ := h
    exact ⟨a, e1, by rw [e]; exact r⟩
  | .opq, v, h => by simp only [Rep]
theorem Reps.cl (e : cl'.b = cl.b) : ∀ {ds : List D} {vs : List V}, Reps cl H S ds vs → Reps cl' H S ds vs
  | [], vs, h => h
  | d :: ds, vs, h => by
    simp only [Reps] at h ⊢
    obtain ⟨v, r, e1, h1, h2⟩ := h
    exact ⟨v, r, e1, Rep.cl e h1, Reps.cl e h2⟩
end
end
mutual
/-- no error of a suite in it -/
def O.nx : O → Bool
  | .xo _ _ _ => false
  | .lf _ _ => true
  | .lst xs => O.nxs xs
  | .tup xs => O.nxs xs
  | .dct _ xs => O.nxs xs
  | .dcT _ xs => O.nxs xs
  | .obj _ _ xs => O.nxs xs
  | .xn _ _ _ => false
def O.nxs : List O → Bool
  | [] => true
  | o :: os => o.nx && O.nxs os
end
theorem O.nxs_eq (xs : List O) : O.nxs xs = xs.all O.nx := by
  induction xs with
  | nil => rfl
  | cons x r ih => rw [O.nxs, ih]; rfl
section
variable {w w' : Wd} {H : Hp}
structure ClTo (w w' : Wd) : Prop where
  b : w'.cl.b = w.cl.b
  Z : w'.Z = w.Z
  B : w'.B = w.B
  T : w'.T = w.T
theorem ClTo.S (c : ClTo w w') (k : Kd) : w'.S k = w.S k := by
  cases k with
  | fz => exact c.Z
  | bo => exact c.B
  | tb => exact c.T
abbrev ExTo (w w' : Wd) : Prop := ∀ a Ca d, w.cl.ex a Ca d → w'.cl.ex a Ca d
mutual
theorem RepO.cl (c : ClTo w w') : ∀ {o : O} {v : V} {F : Addr → Prop}, (ExTo w w' ∨ o.nx = true) → RepO w H o v F → RepO w' H o v F
  | .lf k d, v, F, x, h => by
    simp only [RepO] at h ⊢
    rw [c.S]
    exact Rep.cl c.b h
  | .lst xs, v, F, x, h => by
    simp only [RepO] at h ⊢
    obtain ⟨a, vs, G, e, r, fa, ga, sg, q⟩ := h
    exact ⟨a, vs, G, e, r, fa, ga, sg, RepOs.cl c (x.imp id fun n => by simpa [O.nx] using n) q⟩
  | .tup xs, v, F, x, h => by
    simp only [RepO] at h ⊢
    obtain ⟨a, vs, e, r, q⟩ := h
    exact ⟨a, vs, e, r, RepOs.cl c (x.imp id fun n => by simpa [O.nx] using n) q⟩
  | .dct ks xs, v, F, x, h => by
    simp only [RepO] at h ⊢
    obtain ⟨a, vs, G, e, r, z, fa, ga, sg, q⟩ := h
    exact ⟨a, vs, G, e, r, z, fa, ga, sg, RepOs.cl c (x.imp id fun n => by simpa [O.nx] using n) q⟩
  | .dcT ks xs, v, F, x, h => by
    simp only [RepO] at h ⊢
    obtain ⟨a, vs, G, e, r, z, fa, ga, sg, q⟩ := h
    exact ⟨a, vs, G, e, r, z, fa, ga, sg, RepOs.cl c (x.imp id fun n => by simpa [O.nx] using n) q⟩
  | .obj C fs xs, v, F, x, h => by
    simp only [RepO] at h ⊢
    obtain ⟨a, Ca, dx, vs, G, e, cc, r, z, fa, ga, sg, q⟩ := h
    exact ⟨a, Ca, dx, vs, G, e, by rw [c.b]; exact cc, r, z, fa, ga, sg, RepOs.cl c (x.imp id fun n => by simpa [O.nx] using n) q⟩
  | .xn C fs ds, v, F, x, h => by
    simp only [RepO] at h ⊢
    obtain ⟨a, Ca, d, e, ex, cc, q⟩ := h
    have x : ExTo w w' := x.elim id fun n => by cases n
    refine ⟨a, Ca, d, e, x _ _ _ ex, by rw [c.b]; exact cc, ?_⟩
    rcases q with q | ⟨dd, kvs, e1, z, r, e2, q⟩ | ⟨e1, e2, dd, kvs, e3, z, r⟩
    · exact .inl q
    · exact .inr (.inl ⟨dd, kvs, e1, by rw [c.Z]; exact z, r, e2, by rw [c.Z]; exact Reps.cl c.b q⟩)
    · exact .inr (.inr ⟨e1, e2, dd, kvs, e3, by rw [c.T]; exact z, r⟩)
  | .xo C fs xs, v, F, x, h => by
    simp only [RepO] at h ⊢
    obtain ⟨a, Ca, dd, kvs, G, e, ex, cc, r, z, fa, ga, sg, q⟩ := h
    have x : ExTo w w' := x.elim id fun n => by cases n
    exact ⟨a, Ca, dd, kvs, G, e, x _ _ _ ex, by rw [c.b]; exact cc, r, z, fa, ga, sg, RepOs.cl c (.inl x) q⟩
theorem RepOs.cl (c : ClTo w w') : ∀ {os : List O} {vs : List V} {F : Addr → Prop}, (ExTo w w' ∨ O.nxs os = true) → RepOs w H os vs F → RepOs w' H os vs F
  | [], vs, F, _, h => h
  | o :: os, vs, F, x, h => by
    simp only [RepOs] at h ⊢
    obtain ⟨v, r, F1, F2, e, s1, s2, d, h1, h2⟩ := h
    exact ⟨v, r, F1, F2, e, s1, s2, d, RepO.cl c (x.imp id fun n => by simp only [O.nxs, Bool.and_eq_true] at n; exact n.1) h1, RepOs.cl c (x.imp id fun n => by simp only [O.nxs, Bool.and_eq_true] at n; exact n.2) h2⟩
end
end
def nxO : Option O → Bool
  | none => true
  | some o => o.nx
def nxE (env : VEnv) : Bool := env.all nxO
theorem nxE_get {env : VEnv} {i : Nat} {o : O} (n : nxE env = true) (e : env[i]? = some (some o)) : o.nx = true := by
  have := List.all_eq_true.mp n _ (List.mem_of_getElem? e)
  exact this
section
variable {f : Fm} {c' : Cl} {Z : Addr → Prop} {Fs : Nat → Addr → Prop} {env : VEnv} {σ : L2.St} {H : Hp} {o : O} {v : V} {F : Addr → Prop}
def Fm.ex (f : Fm) (c' : Cl) : Fm := { f with cl := c' }
theorem GoodAt.ex (h : c'.b = f.cl.b) (x : (∀ a Ca d, f.cl.ex a Ca d → c'.ex a Ca d) ∨ nxE env = true) (g : GoodAt f Z Fs env σ H) : GoodAt (f.ex c') Z Fs env σ H :=
  ⟨fun i o e => let ⟨v, ev, r⟩ := g.rep i o e; ⟨v, ev, RepO.cl (w := f.w Z) (w' := (f.ex c').w Z) ⟨h, rfl, rfl, rfl⟩ (x.imp id fun n => nxE_get n e) r⟩, g.dis, g.own, g.zal, g.bal, g.keep, ⟨g.there.1, fun P q t => g.there.2 P q (h ▸ t)⟩, g.fnew, g.znew, g.zold, g.pin, g.len⟩
theorem GoodAt.frz (g : GoodAt f Z Fs env σ H) (x : Extra f Z Fs H F) : GoodAt f (fun a => Z a ∨ F a) Fs env σ H :=
  ⟨fun i o e => let ⟨v, ev, r⟩ := g.rep i o e; ⟨v, ev, RepO.keep (w := f.w Z) (w' := f.w fun a => Z a ∨ F a) (p := fun _ => false) rfl (keepZ (Same.refl H) (fun _ z => .inl z) rfl rfl) (fun _ _ e => e) (O.no_none o) (fun _ _ _ e _ => e) r⟩, g.dis,
    fun i a h => ⟨fun z => z.elim (g.own i a h).1 fun q => (x a q).2.2.2.2 i h, (g.own i a h).2⟩, fun a z => z.elim (g.zal a) fun q => (x a q).2.2.1.ne, g.bal, g.keep, g.there, g.fnew,
    fun a z => z.elim (g.znew a) fun q => .inr (x a q).2.2.2.1, fun a z => .inl (g.zold a z), g.pin, g.len⟩
theorem GoodV.frz (n : o.no notFz = true) (g : GoodV f env o v σ H) : ∃ Z Fs, GoodAt f Z Fs env σ H ∧ Rep f.cl H Z o.er v := by
  obtain ⟨Z, Fs, F, g, r, x⟩ := g
  refine ⟨_, Fs, g.frz x, RepO.toRep (w := f.w Z) (p := notFz) (fun k hk => ?_) n (fun _ z => .inr z) r⟩
  cases k with
  | fz => exact fun _ z => .inl z
  | bo => cases hk
  | tb => cases hk
end
def frzO : O → Option O
  | .lf .bo d => some (.lf .bo d)
  | o => if o.no notFz then some (lfk .fz o.er) else none
theorem GoodV.fz {f : Fm} {env : VEnv} {o o' : O} {v : V} {σ : L2.St} {H : Hp} (e : frzO o = some o') (g : GoodV f env o v σ H) : GoodV f env o' v σ H := by
  unfold frzO at e
  split at e
  · cases e; exact g
  · split at e
    · rename_i n
      cases e
      obtain ⟨Z, Fs, g', r⟩ := g.frz n
      exact ⟨Z, Fs, fun _ => False, g', lfk_rep (w := f.w Z) (k := .fz) r, fun _ z => z.elim⟩
    · cases e
def sSetZ (i : Nat) (mx : VEnv → RX O) : VEnv → RS := fun env => (mx env).bind fun o e => match frzO o with
  | some o' => if i < e.length then .ok .next (e.set i (some o')) else .no
  | none => .no
section
variable {X : Cx} {P : List Nat} {e : Expr} {mx : VEnv → RX O} {pos : Pos}
theorem vs_setZ {i : Nat} {x : Str} {pos' : Pos} (he : VX X P e mx) (hN : X.N.Nodup) (hi : X.N[i]? = some x := by rfl) (hx : Loc X.env.scope x := by first | exact Or.inl rfl | exact Or.inr rfl) (hP : P.contains i = false := by rfl)
    (hs : swapsWith e (some (.Name x pos')) pos.line X.env = pure false := by rfl) (hf : X.fn x = true ∨ X.env.scope.names.lookup x = some .local := by first | exact .inl rfl | exact .inr rfl) : VS X P (.Assign [.Name x pos'] e pos) (sSetZ i mx) := fun W tk f hfo =>
  (ps_set hN hi hx (he W tk f hfo) hs hf).imp fun D σ H h => by
    obtain ⟨env, g, h⟩ := rS_to h
    refine rX_then g h fun o env' v H' gv h' => ?_
    split at h'
    · rename_i o' eo
      split at h'
      · rename_i hlt
        exact h' _ H' ((gv.fz eo).set hlt (pin_ne hfo.2 hP))
      · exact h'.elim
    · exact h'.elim
end
def subE (C D : String) : Bool := C == D || D == "DyeError"
abbrev Errs := List (String × List String)
def Errs.has (E : Errs) (C : String) : Bool := E.any fun p => p.1 == C
def Errs.fl (E : Errs) (C f : String) : Bool := E.any fun p => p.1 == C && p.2.contains f
structure ErrF (K : PySem.W.Frag) (mg : Str → Option Value) (E : Errs) : Prop where
  there : ∀ C ∈ E, ∃ Ca, mg (Str.ofString C.1) = some (.ref Ca)
  one : ∀ C ∈ E, ∀ Ca, mg (Str.ofString C.1) = some (.ref Ca) → ExcC K Ca ∧ XfC K Ca ∧ PySem.W.kitOne K (.ref Ca) (.type "ValueError") = some true ∧ ∀ f ∈ C.2, PySem.W.findIn K (.ref Ca) (Str.ofString f) = some none
  two : ∀ C ∈ E, ∀ D ∈ E, ∀ Ca Da, mg (Str.ofString C.1) = some (.ref Ca) → mg (Str.ofString D.1) = some (.ref Da) → PySem.W.kitOne K (.ref Ca) (.ref Da) = some (subE C.1 D.1) ∧ PySem.W.exmOne K (.ref Ca) (.ref Da) = some (subE C.1 D.1)
theorem Errs.has_ {E : Errs} {C : String} (h : E.has C = true) : ∃ p ∈ E, p.1 = C := by
  obtain ⟨p, m, e⟩ := List.any_eq_true.mp h
  exact ⟨p, m, by simpa using e⟩
theorem Errs.fl_ {E : Errs} {C f : String} (h : E.fl C f = true) : ∃ p ∈ E, p.1 = C ∧ f ∈ p.2 := by
  obtain ⟨p, m, e⟩ := List.any_eq_true.mp h
  rw [Bool.and_eq_true] at e
  exact ⟨p, m, by simpa using e.1, by simpa using e.2⟩
theorem clM_at {X : Cx} {c : Cl} {C : String} {Ca : Addr} (hc : ClOk X c) (h : c.b.at_ C = some Ca) : X.mg (Str.ofString C) = some (.ref Ca) := by
  rw [hc.1.1.1] at h
  unfold clM at h
  split at h
  · rename_i a e; cases h; exact e
  · cases h
theorem clM_of {X : Cx} {c : Cl} {C : String} {Ca : Addr} (hc : ClOk X c) (h : X.mg (Str.ofString C) = some (.ref Ca)) : c.b.at_ C = some Ca := by
  rw [hc.1.1.1]
  unfold clM
  rw [h]
section
variable {X : Cx} {P : List Nat} {a b : Expr} {es : List Expr} {ma mb : DEnv → R O} {pos : Pos} {E : Errs}
def gIsE (E : Errs) (D : String) (o : O) : R O := match o with
  | .xn C _ _ => if E.has C then .ok (.lf .fz (.bl (subE C D))) else .no
  | _ => .no
def gIsV (E : Errs) (o : O) : R O := match o with
  | .xn C _ _ => if E.has C then .ok (.lf .fz (.bl true)) else .no
  | _ => .no
def gIsT (E : Errs) (Ds : List String) (o : O) : R O := match o with
  | .xn C _ _ => if E.has C then .ok (.lf .fz (.bl (Ds.any (subE C)))) else .no
  | _ => .no
theorem xn_at {w : Wd} {H : Hp} {C : String} {fs : List String} {ds : List D} {v : V} (hc : ClOk X w.cl) (h : RepXn w H C fs ds v) : ∃ a Ca d oe, v = .ref a ∧ (a, oe) ∈ X.pn ∧ Zc (.ref Ca) d oe ∧ (∃ vs, oe.data = .fields vs) ∧ X.mg (Str.ofString C) = some (.ref Ca) ∧ (∀ dd, d = some dd → ∃ u, H dd = some u) ∧
    ((fs = [] ∧ ds = [] ∧ d = none) ∨ (∃ dd kvs, d = some dd ∧ w.Z dd ∧ H dd = some (.xd kvs) ∧ kvs.map (·.1) = fs.map Str.ofString ∧ Reps w.cl H w.Z ds (kvs.map (·.2))) ∨ (fs = [] ∧ ds = [] ∧ ∃ dd kvs, d = some dd ∧ w.T dd ∧ H dd = some (.xd kvs))) := by
  obtain ⟨a, Ca, d, rfl, hex, hat, hd⟩ := h
  obtain ⟨_, oe, pn, ep, hz, hf⟩ := hc.2 a Ca d hex
  refine ⟨a, Ca, d, oe, rfl, by rw [ep]; exact List.mem_cons_self, hz, hf, clM_at hc hat, fun dd ed => ?_, hd⟩
  rcases hd with ⟨_, _, e⟩ | ⟨dd', kvs, e1, _, e2, _⟩ | ⟨_, _, dd', kvs, e1, _, e2⟩
  · rw [e] at ed; cases ed
  · rw [e1] at ed; cases ed; exact ⟨_, e2⟩
  · rw [e1] at ed; cases ed; exact ⟨_, e2⟩
theorem call_isX : CallR X (.builtin "isinstance") (fun xs H Q => ∃ a D d oe, (a, oe) ∈ X.pn ∧ Zc (.ref D) d oe ∧ (∃ vs, oe.data = .fields vs) ∧ ExcC X.K D ∧ rIsD X.K D a d xs H Q) := by
  intro pins s σ H xs us Q I r h
  obtain ⟨a, D, d, oe, h1, h2, h3, h4, h5⟩ := h
  exact call_isD h1 h2 h3 h4 pins s σ H xs us Q I r h5
theorem ve_isE {q q2 : Pos} {x : Str} (D : String) (hE : ErrF X.K X.mg E) (hm : X.mg "isinstance" = none) (ha : VE X a ma) (hD : E.has D = true := by rfl) (hx : x = Str.ofString D := by rfl) (hgx : Gl X x := by rfl) (hdx : (x == ("__debug__" : Str)) = false := by decide) (hg : Gl X "isinstance" := by rfl)
    (hst : starEach [a, .Name x q2] X.env = (false, eval a X.env) :: starEach [.Name x q2] X.env := by rfl) : VE X (.Call (.Name "isinstance" q) [a, .Name x q2] [] pos) (e1 (gIsE E D) ma) := fun W tk w hc => by
  obtain ⟨p, hp, rfl⟩ := Errs.has_ hD
  obtain ⟨Da, eD⟩ := hE.there p hp
  refine (pe_callB call_isX hg hm (by decide +kernel) (pa_cons (ha W tk w hc) (pa_cons (pe_glob (v := .ref Da) hgx (by rw [hx]; exact eD) rfl hdx) pa_nil rfl) hst) (by decide) (by decide) hst).imp fun σ H Q h => ?_
  obtain ⟨env, G, h⟩ := rE_to h
  refine rE_of G (Out.bind (Same.refl H) h fun o1 v H1 F1 _ s1 p1 f1 h1 => ?_)
  unfold gIsE at h1
  split at h1
  · rename_i C fs ds _
    by_cases hC : E.has C = true
    · rw [if_pos hC] at h1
      simp only [RepO] at p1
      obtain ⟨a', Ca, d, oe, rfl, hpn, hz, hf, hmC, hd, _⟩ := xn_at hc p1
      obtain ⟨pC, hpC, rfl⟩ := Errs.has_ hC
      exact ⟨a', Ca, d, oe, hpn, hz, hf, (hE.one pC hpC Ca hmC).1, .ref Da, .ref Da, _, rfl, .own Da, (hE.two pC hpC p hp Ca Da hmC eD).1, hd, out_bl h1⟩
    · rw [if_neg hC] at h1; exact h1.elim
  · exact h1.elim
theorem ve_isV {q q2 : Pos} (hE : ErrF X.K X.mg E) (hm : X.mg "isinstance" = none) (hv : X.mg "ValueError" = none) (ha : VE X a ma) (hgx : Gl X "ValueError" := by rfl) (hg : Gl X "isinstance" := by rfl)
    (hst : starEach [a, .Name "ValueError" q2] X.env = (false, eval a X.env) :: starEach [.Name "ValueError" q2] X.env := by rfl) : VE X (.Call (.Name "isinstance" q) [a, .Name "ValueError" q2] [] pos) (e1 (gIsV E) ma) := fun W tk w hc => by
  refine (pe_callB call_isX hg hm (by decide +kernel) (pa_cons (ha W tk w hc) (pa_cons (pe_bltn (v := .ty "ValueError") hgx hv PyProof.Rows.Boot.«ValueError» rfl (by decide) (by decide)) pa_nil rfl) hst) (by decide) (by decide) hst).imp fun σ H Q h => ?_
  obtain ⟨env, G, h⟩ := rE_to h
  refine rE_of G (Out.bind (Same.refl H) h fun o1 v H1 F1 _ s1 p1 f1 h1 => ?_)
  unfold gIsV at h1
  split at h1
  · rename_i C fs ds _
    by_cases hC : E.has C = true
    · rw [if_pos hC] at h1
      simp only [RepO] at p1
      obtain ⟨a', Ca, d, oe, rfl, hpn, hz, hf, hmC, hd, _⟩ := xn_at hc p1
      obtain ⟨pC, hpC, rfl⟩ := Errs.has_ hC
      have z := hE.one pC hpC Ca hmC
      exact ⟨a', Ca, d, oe, hpn, hz, hf, z.1, .ty "ValueError", .type "ValueError", _, rfl, .ty _, z.2.2.1, hd, out_bl h1⟩
    · rw [if_neg hC] at h1; exact h1.elim
  · exact h1.elim
def lkD (f : Str) : List Str → List D → Option D
  | k :: ks, d :: ds => if f == k then some d else lkD f ks ds
  | _, _ => none
theorem lkD_rep {cl : Cl} {H : Hp} {S : Addr → Prop} {f : Str} : ∀ {kvs : List (Str × V)} {ks : List Str} {ds : List D} {d : D}, kvs.map (·.1) = ks → Reps cl H S ds (kvs.map (·.2)) → lkD f ks ds = some d → ∃ v, kvs.lookup f = some v ∧ Rep cl H S d v
  | [], ks, ds, d, e, h, l => by subst e; simp [lkD] at l
  | (k, v) :: kvs, [], ds, d, e, h, l => by simp at e
  | (k, v) :: kvs, k' :: ks, [], d, e, h, l => by simp [lkD] at l
  | (k, v) :: kvs, k' :: ks, d' :: ds, d, e, h, l => by
    simp only [List.map_cons, List.cons.injEq] at e
    obtain ⟨rfl, e⟩ := e
    simp only [List.map_cons, Reps] at h
    obtain ⟨v', r, ev, h1, h2⟩ := h
    obtain ⟨rfl, rfl⟩ := List.cons.inj ev
    simp only [lkD] at l
    rw [List.lookup_cons]
    cases q : f == k with
    | true => simp only [q, if_true] at l; cases l; exact ⟨_, rfl, h1⟩
    | false => simp only [q, Bool.false_eq_true, if_false] at l; exact lkD_rep e h2 l
def gXf (E : Errs) (f : String) (o : O) : R O := match o with
  | .xn C fs ds => if E.fl C f then (match lkD (Str.ofString f) (fs.map Str.ofString) ds with
    | some d => .ok (lfk .fz d)
    | none => .no) else .no
  | _ => .no
theorem ve_xf {x : Str} (f : String) (hE : ErrF X.K X.mg E) (ha : VE X a ma) (hx : x = Str.ofString f := by rfl) (hb : attributeBase a x X.env (eval a X.env) = eval a X.env := by rfl) : VE X (.Attribute a x pos) (e1 (gXf E f) ma) := fun W tk w hc => ⟨fun pins s σ H Q I h => by
  obtain ⟨env, G, h⟩ := rE_to h
  refine attr_of hb (thn ((ha W tk w hc).run pins s σ H (fun v H1 => ∃ C fs ds d F1, Same H H1 ∧ RepXn w H1 C fs ds v ∧ E.fl C f = true ∧ lkD (Str.ofString f) (fs.map Str.ofString) ds = some d ∧ Out w W σ H H1 (RepO w) (.ok (lfk .fz d)) Q ∧ Fresh H H1 F1) I (rE_of G (Out.bind (Same.refl H) h fun o1 v H1 F1 _ s1 p1 f1 h1 => ?_))) fun u s1 hh => ?_)
  · unfold gXf at h1
    split at h1
    · rename_i C fs ds _
      by_cases hC : E.fl C f = true
      · rw [if_pos hC] at h1
        simp only [RepO] at p1
        split at h1
        · rename_i d ed
          exact ⟨C, fs, ds, d, F1, s1, p1, hC, ed, h1, f1⟩
        · exact h1.elim
      · rw [if_neg hC] at h1; exact h1.elim
    · exact h1.elim
  · obtain ⟨v, H1, I1, rv, C, fs, ds, d, F1, sm, p1, hC, ed, h1, f1⟩ := hh
    obtain ⟨a', Ca, d', oe, rfl, hpn, hz, hf, hmC, hd, hdat⟩ := xn_at hc p1
    obtain ⟨pC, hpC, rfl, hfl⟩ := Errs.fl_ hC
    obtain ⟨_, T, _, hno⟩ := hE.one pC hpC Ca hmC
    obtain rfl : u = Value.ref a' := rv
    rcases hdat with ⟨rfl, rfl, _⟩ | ⟨dd, kvs, rfl, zd, eH, ek, rr⟩ | ⟨rfl, rfl, _⟩
    · simp [lkD] at ed
    · obtain ⟨v, lv, rd⟩ := lkD_rep ek rr ed
      obtain ⟨ga, _⟩ := I1.pin (a', oe) (List.mem_append_left _ hpn)
      obtain ⟨vs, hdt⟩ := hf
      have hxo : ObjOk X.prog X.w H1 s1.heap dd (.xd kvs) := I1.hok dd _ eH
      obtain ⟨mA, hns, hr⟩ := hxo
      obtain ⟨od, ho, hl⟩ := lookIn_ns hns
      subst hx
      obtain ⟨u, hu, ru⟩ := RelO.some_of (v := v) (o := mA (Str.ofString f)) (by rw [← lv]; exact hr (Str.ofString f))
      have J : PySem.W.InstAt s1.heap a' oe Ca (some od) := ⟨ga, hz.1, by unfold PySem.W.notCls; rw [hdt] <;> rfl, by rw [hz.2]; exact ho⟩
      exact HandSPX.exc_get I1.kIn J T.ga T.gg T.exC (PySem.W.findObj_own T.hdC (hno f hfl) rfl (by rw [hl, hu])) (handed_of ru) ⟨v, H1, I1.tok _, ru, h1 v H1 (fun _ => False) (Same.refl H1) (lfk_rep (k := .fz) rd) fun _ z => z.elim⟩
    · simp [lkD] at ed⟩
end
end VL
namespace VL
open PySem PySem.Spec PyProof.Rows L2
mutual
/-- owned through and through; its leaves are such as nobody can write -/
def O.own : O → Bool
  | .lf _ d => d.imm
  | .lst xs => O.owns xs
  | .tup xs => O.owns xs
  | .dct _ xs => O.owns xs
  | .dcT _ xs => O.owns xs
  | .obj _ _ xs => O.owns xs
  | .xn _ _ _ => false
  | .xo _ _ _ => false
def O.owns : List O → Bool
  | [] => true
  | o :: os => o.own && O.owns os
end
theorem O.owns_eq (xs : List O) : O.owns xs = xs.all O.own := by
  induction xs with
  | nil => rfl
  | cons x r ih => rw [O.owns, ih]; rfl
section
variable {w w' : Wd} {H : Hp}
mutual
theorem RepO.own (e : w'.cl.b = w.cl.b) : ∀ {o : O} {v : V} {F : Addr → Prop}, o.own = true → RepO w H o v F → RepO w' H o v F
  | .lf k d, v, F, x, h => by
    simp only [RepO] at h ⊢
    exact Rep.imm (fun _ _ q => q) (by simpa [O.own] using x) (Rep.cl e h)
  | .lst xs, v, F, x, h => by
    simp only [RepO] at h ⊢
    obtain ⟨a, vs, G, e1, r, fa, ga, sg, q⟩ := h
    exact ⟨a, vs, G, e1, r, fa, ga, sg, RepOs.own e (by simpa [O.own] using x) q⟩
  | .tup xs, v, F, x, h => by
    simp only [RepO] at h ⊢
    obtain ⟨a, vs, e1, r, q⟩ := h
    exact ⟨a, vs, e1, r, RepOs.own e (by simpa [O.own] using x) q⟩
  | .dct ks xs, v, F, x, h => by
    simp only [RepO] at h ⊢
    obtain ⟨a, vs, G, e1, r, z, fa, ga, sg, q⟩ := h
    exact ⟨a, vs, G, e1, r, z, fa, ga, sg, RepOs.own e (by simpa [O.own] using x) q⟩
  | .dcT ks xs, v, F, x, h => by
    simp only [RepO] at h ⊢
    obtain ⟨a, vs, G, e1, r, z, fa, ga, sg, q⟩ := h
    exact ⟨a, vs, G, e1, r, z, fa, ga, sg, RepOs.own e (by simpa [O.own] using x) q⟩
  | .obj C fs xs, v, F, x, h => by
    simp only [RepO] at h ⊢
    obtain ⟨a, Ca, dx, vs, G, e1, cc, r, z, fa, ga, sg, q⟩ := h
    exact ⟨a, Ca, dx, vs, G, e1, by rw [e]; exact cc, r, z, fa, ga, sg, RepOs.own e (by simpa [O.own] using x) q⟩
  | .xn C fs ds, v, F, x, h => by simp [O.own] at x
  | .xo C fs ds, v, F, x, h => by simp [O.own] at x
theorem RepOs.own (e : w'.cl.b = w.cl.b) : ∀ {os : List O} {vs : List V} {F : Addr → Prop}, O.owns os = true → RepOs w H os vs F → RepOs w' H os vs F
  | [], vs, F, _, h => h
  | o :: os, vs, F, x, h => by
    simp only [RepOs] at h ⊢
    simp only [O.owns, Bool.and_eq_true] at x
    obtain ⟨v, r, F1, F2, e1, s1, s2, d, h1, h2⟩ := h
    exact ⟨v, r, F1, F2, e1, s1, s2, d, RepO.own e x.1 h1, RepOs.own e x.2 h2⟩
end
end
def ClOk0 (K : PySem.W.Frag) (mg : Str → Option Value) (c : Cl) : Prop := CbOk K mg c.b ∧ ∀ a Ca d, ¬ c.ex a Ca d
theorem ClOk0.ok {X : Cx} {c : Cl} (h : ClOk0 X.K X.mg c) : ClOk X c := ⟨h.1, fun a Ca d q => absurd q (h.2 a Ca d)⟩
theorem ClOk.ok0 {X : Cx} {c : Cl} (hc : X.calm = true) (h : ClOk X c) : ClOk0 X.K X.mg c := ⟨h.1, fun a Ca d q => by
  have := (h.2 a Ca d q).1
  rw [hc] at this; cases this⟩
def startE (n : Nat) (os : List O) : VEnv := os.map some ++ List.replicate (n - os.length) none
def FOut (f : Fm) (Q : VK) (E : XK) (r : RS) : Prop := match r with
  | .ok .next env' => ∀ σ' H', Good f env' σ' H' → Q .non H'
  | .ok (.ret o) env' => ∀ v σ' H', GoodV f env' o v σ' H' → Q v H'
  | .ok _ _ => False
  | .ex x env' => ∀ cls d σ' H', GoodX f env' x cls d σ' H' → E cls d H'
  | .no => False
def SpV (K : PySem.W.Frag) (mg : Str → Option Value) (N : List Str) (n : Nat) (P : List Nat) (m : VEnv → RS) : Sp := fun vs H Q E => vs.length = n ∧ ∃ f env, ClOk0 K mg f.cl ∧ f.pin.map (·.1) = P ∧ Good f env (L2.start N vs) H ∧ FOut f Q E (m env)
section
variable {P : Program} {w : World} {K : PySem.W.Frag} {mg : Str → Option Value} {base : Heap}
theorem okC {CX : CXT} {x qual : Str} {st : Stmt} {f : Addr} {fd : FuncData} {N ps : List Str} {k : Nat} {sp : Sp} (F : Fun K x qual st f fd) (S : FnScope N ps (defScope st)) (hl : ∀ vs H Q E, sp vs H Q E → vs.length = ps.length)
    (hb : ∀ (cdv : Value) (A : Around) (outer : List Env) (s : Shared) (H : Hp) (vs : List V) (Q : VK) (E : XK), Room k (A.deeper (envOfC qual (defScope st) s.heap.objs.size f cdv)) → sp vs H Q E → ∃ t, PSs (cxOf CX P w K mg base N qual (defScope st) f cdv A outer s H E) (defBody st) t ∧ t { nx := fun _ H' => Q .non H', rt := Q } (L2.start N vs) H) : FnOk P w K mg base CX (k + 1) f fd ps sp := by
  obtain ⟨oc, od, kV, doc, pm, an, cdv, ct, osl, rfl, lk, cd⟩ := F.ex
  exact fn_of lk cd S hl fun A outer s H vs Q E r h => hb cdv A outer s H vs Q E r h
theorem fn_v {x qual : Str} {st : Stmt} {f : Addr} {fd : FuncData} {N ps : List Str} {k : Nat} {pi : List Nat} {m : VEnv → RS} (F : Fun K x qual st f fd) (S : FnScope N ps (defScope st))
    (hb : ∀ (cdv : Value) (A : Around) (outer : List Env) (s : Shared) (H : Hp) (E : XK), Room k (A.deeper (envOfC qual (defScope st) s.heap.objs.size f cdv)) → VB (cxOf (CXv mg P w) P w K mg base N qual (defScope st) f cdv A outer s H E) pi (defBody st) m) :
    FnOk P w K mg base (CXv mg P w) (k + 1) f fd ps (SpV K mg N ps.length pi m) := by
  refine okC F S (fun vs H Q E h => h.1) (fun cdv A outer s H vs Q E hr h => ?_)
  obtain ⟨_, fr, env, hc, hp, g, h⟩ := h
  have hf : FOk (cxOf (CXv mg P w) P w K mg base N qual (defScope st) f cdv A outer s H E) pi fr := ⟨ClOk0.ok hc, hp⟩
  refine ⟨rS fr (fun cls d _ H => E cls d H) m, hb cdv A outer s H E hr _ (takes_of rfl rfl rfl rfl) fr hf, rS_of g ?_⟩
  unfold FOut at h
  cases e : m env with
  | ok c env' =>
    rw [e] at h
    cases c with
    | next => exact h
    | ret o => exact h
    | brk => exact h.elim
    | cont => exact h.elim
  | ex x env' => rw [e] at h; exact h
  | no => rw [e] at h; exact h
end
def toArg : O → O
  | .lf .fz d => .lf .fz d
  | .lf _ d => lfk .bo d
  | o => if o.no notFz then lfk .fz o.er else lfk .bo o.er
def callM (n : Nat) (m : VEnv → RS) (os : List O) : R O := match m (startE n (os.map toArg)) with
  | .ok .next _ => .ok (.lf .fz .non)
  | .ok (.ret o) _ => if o.own then .ok o else .no
  | .ok _ _ => .no
  | .ex x _ => if O.owns x.xs then .ex x else .no
  | .no => .no
section
variable {w : Wd} {H : Hp} {F1 : Addr → Prop}
def calleeF (w : Wd) (H1 : Hp) (F1 : Addr → Prop) : Fm := ⟨⟨w.cl.b, fun _ _ _ => False⟩, H1, fun _ => False, fun a => w.Z a ∨ F1 a, fun a => w.T a ∨ F1 a, []⟩
theorem toArg_rep (zt : Sub w.Z w.T) (bt : Sub w.B w.T) {o : O} {v : V} {F : Addr → Prop} (s : Sub F F1) (h : RepO w H o v F) : RepO ((calleeF w H F1).w (calleeF w H F1).Z0) H (toArg o) v (fun _ => False) := by
  have gen : ∀ o : O, RepO w H o v F → RepO ((calleeF w H F1).w (calleeF w H F1).Z0) H (lfk .bo o.er) v (fun _ => False) := fun o h => by
    refine lfk_rep (k := .bo) (Rep.cl (cl := w.cl) (cl' := (calleeF w H F1).cl) rfl (RepO.toRep (w := w) (S := fun a => w.T a ∨ F1 a) (p := fun _ => false) (fun x _ => ?_) (O.no_none o) (fun a z => .inr (s a z)) h))
    cases x with
    | fz => exact fun a z => .inl (zt a z)
    | bo => exact fun a z => .inl (bt a z)
    | tb => exact fun a z => .inl z
  unfold toArg
  split
  · simp only [RepO] at h ⊢
    exact Rep.keep (KeepS.same (Same.refl H) fun a z => .inl z) (Rep.cl (cl := w.cl) (cl' := (calleeF w H F1).cl) rfl h)
  · rename_i k d _
    have := gen _ h
    simpa only [O.er] using this
  · split
    · rename_i n
      refine lfk_rep (k := .fz) (Rep.cl (cl := w.cl) (cl' := (calleeF w H F1).cl) rfl (RepO.toRep (w := w) (S := fun a => w.Z a ∨ F1 a) (p := notFz) (fun x hx => ?_) n (fun a z => .inr (s a z)) h))
      cases x with
      | fz => exact fun a z => .inl z
      | bo => cases hx
      | tb => cases hx
    · exact gen _ h
theorem startE_get {n : Nat} {os : List O} {i : Nat} {o : O} (h : (startE n os)[i]? = some (some o)) : os[i]? = some o := by
  unfold startE at h
  by_cases hi : i < (os.map some).length
  · rw [List.getElem?_append_left hi, List.getElem?_map] at h
    cases e : os[i]? with
    | none => rw [e] at h; cases h
    | some q => rw [e] at h; cases h; rfl
  · rw [List.getElem?_append_right (Nat.le_of_not_lt hi), List.getElem?_replicate] at h
    split at h <;> cases h
theorem start_get {N : List Str} {vs : List V} {i : Nat} {v : V} (h : vs[i]? = some v) : (L2.start N vs)[i]? = some (some v) := by
  unfold L2.start
  rw [List.getElem?_append_left (by rw [List.length_map]; exact (List.getElem?_eq_some_iff.mp h).1), List.getElem?_map, h]
  rfl
theorem good_start {N : List Str} {os : List O} {vs : List V} (zt : Sub w.Z w.T) (bt : Sub w.B w.T) (al : AlT w H) (af : ∀ a, F1 a → NT (H a)) (h : RepOs w H os vs F1) : Good (calleeF w H F1) (startE N.length (os.map toArg)) (L2.start N vs) H := by
  refine ⟨(calleeF w H F1).Z0, fun _ _ => False, fun i o e => ?_, fun _ _ _ _ z => z.elim, fun _ _ z => z.elim, fun a z => z.elim (fun q => al.1 a (zt a q)) fun q => (af a q).ne, fun a z => z.elim (al.1 a) fun q => (af a q).ne, fun a u e _ => Same.refl H a u e, ⟨fun _ n => n, al.2⟩, fun _ _ z => z.elim, fun _ z => .inl z, fun _ z => z, fun p hp => ?_, ?_⟩
  · have e1 := startE_get e
    rw [List.getElem?_map] at e1
    cases q : os[i]? with
    | none => rw [q] at e1; cases e1
    | some o' =>
      rw [q] at e1
      cases e1
      obtain ⟨v, F', ev, r, s⟩ := RepOs.get h q
      exact ⟨v, start_get ev, toArg_rep zt bt s r⟩
  · exact absurd hp (by show p ∉ ([] : List (Nat × V)); simp)
  · unfold L2.start startE
    simp [RepOs.length h]
end
section
variable {X : Cx} {P : List Nat} {a : Expr} {es : List Expr} {ma mb : DEnv → R O} {mA : DEnv → R (List O)} {pos p : Pos} {x : Str}
theorem call_out {W : WX} {σ : L2.St} {N : List Str} {n : Nat} {m : VEnv → RS} {w : Wd} {H0 H1 : Hp} {os : List O} {vs : List V} {F1 : Addr → Prop} {Q : VK} (hcl : ClOk X w.cl) (zt : Sub w.Z w.T) (bt : Sub w.B w.T) (al : AlT w H1) (s1 : Same H0 H1) (p1 : RepOs w H1 os vs F1) (f1 : Fresh H0 H1 F1) (hn : vs.length = n)
    (h : Out w W σ H0 H1 (RepO w) (callM N.length m os) Q) : SpV X.K X.mg N n [] m vs H1 Q (fun cls d H => W cls d σ H) := by
  refine ⟨hn, calleeF w H1 F1, _, ⟨hcl.1, fun _ _ _ q => q⟩, rfl, good_start zt bt al (fun a z => (f1 a z).2) p1, ?_⟩
  have sm : ∀ {Z2 : Addr → Prop} {Fs2 : Nat → Addr → Prop} {env' : VEnv} {σ' : L2.St} {H' : Hp}, GoodAt (calleeF w H1 F1) Z2 Fs2 env' σ' H' → Same H1 H' := fun g b u e => g.keep b u e fun z => z
  have fr : ∀ {Z2 : Addr → Prop} {Fs2 : Nat → Addr → Prop} {H' : Hp} {F : Addr → Prop}, Extra (calleeF w H1 F1) Z2 Fs2 H' F → Fresh H0 H' F := fun x b z => ⟨s1.free ((x b z).2.2.2.1.elim (fun q => q.elim) id), (x b z).2.2.1⟩
  unfold callM at h
  unfold FOut
  cases e : m (startE N.length (os.map toArg)) with
  | no => rw [e] at h; exact h
  | ok c env' =>
    rw [e] at h
    cases c with
    | next =>
      intro σ' H' g
      obtain ⟨Z2, Fs2, g⟩ := g
      exact h _ H' (fun _ => False) (sm g) (by simp [RepO, Rep]) fun _ z => z.elim
    | brk => exact h
    | cont => exact h
    | ret o =>
      intro v σ' H' gv
      simp only at h
      split at h
      · rename_i hw
        obtain ⟨Z2, Fs2, F2, g2, r2, x2⟩ := gv
        exact h v H' F2 (sm g2) (RepO.own (w := (calleeF w H1 F1).w Z2) (w' := w) rfl hw r2) (fr x2)
      · exact h.elim
  | ex x env' =>
    rw [e] at h
    intro cls d σ' H' gx
    simp only at h
    split at h
    · rename_i hw
      obtain ⟨Z2, Fs2, F2, g2, r2, x2⟩ := gx
      refine h cls d H' F2 (sm g2) ?_ (fr x2)
      obtain ⟨Ca, c, ec, q⟩ := r2
      refine ⟨Ca, c, ec, ?_⟩
      rcases q with q | ⟨a', kvs, G', e1, e2, e3, fa, ga, sg, rr⟩
      · exact .inl q
      · exact .inr ⟨a', kvs, G', e1, e2, e3, fa, ga, sg, RepOs.own (w := (calleeF w H1 F1).w Z2) (w' := w) rfl hw rr⟩
    · exact h.elim
theorem ve_call {k : Nat} {f : Addr} {fd : FuncData} {N ps : List Str} {m : VEnv → RS} (F : FnOk X.prog X.w X.K X.mg X.base (CXv X.mg X.prog X.w) k f fd ps (SpV X.K X.mg N ps.length [] m)) (hr : Room k X.A) (hm : X.mg x = some (.ref f)) (hk : PySem.W.keepIn X.K (.ref f) = true) (hb : Binds X.K fd ps [])
    (ha : VA X (a :: es) mA) (hn : (a :: es).length = ps.length := by rfl) (hg : Gl X x := by rfl) (hdb : (x == ("__debug__" : Str)) = false := by decide) (he : starEach (a :: es) X.env = (false, eval a X.env) :: starEach es X.env := by rfl) (hpl : (backTo pos (starEach es X.env)).any (·.1) = false := by rfl)
    (hlen : ∀ env os, mA env = .ok os → os.length = ps.length) : VE X (.Call (.Name x p) (a :: es) [] pos) (eN (callM N.length m) mA) := fun W tk w hcl =>
  (pe_callS (E := WE W) F hr hg hm hk hb (fun σ => passAt tk σ) (ha W tk w hcl) hdb he hpl).imp fun σ H Q h => by
    obtain ⟨env, G, h⟩ := rE_to h
    refine rA_of G (Out.bind (Same.refl H) h fun os vs H1 F1 e1 s1 p1 f1 h1 => ?_)
    exact call_out (X := X) (W := W) (σ := σ) hcl G.zt G.bt (G.same s1).al s1 p1 f1 (by rw [RepOs.length p1, hlen env os e1]) h1
end
end VL
namespace VL
open PySem PySem.Spec PyProof.Rows L2
def spE1 (C : Addr) (f : Str) : Sp := fun vs H Q _ => ∃ (a : Addr) (y : V), vs = [.ref a, y] ∧ H a = some (exo a C none) ∧ ∀ dx, H dx = none → dx ≠ a → Q .non (upd (upd H dx (exd dx [(f, y)])) a (exo a C (some dx)))
section
open VLX
variable {CX : CXT} {P : Program} {w : World} {K : PySem.W.Frag} {mg : Str → Option Value} {base : Heap} {ps : List Str} {qual : Str} {scope : Scope} {f cda cc : Addr}
theorem err1B {k : Nat} {fd : FuncData} {st0 : Stmt} {rest : List Stmt} {C : Addr} {p0 p1 p2 p3 p4 p5 : Pos} {msg fl : Str} {j : Nat} {pl : Sem Bool}
    (T : SupOk P K mg C f cda cc fd qual ps scope (st0 :: rest)) (S : SupScope ps scope) (hst : st0 = .Expr (.Call (.Attribute (.Call (.Name "super" p0) [] [] p1) "__init__" p2) [.Constant (.str msg) j p3] [] p4) p5)
    (hcall : ∀ env : Env, eval (.Call (.Attribute (.Call (.Name "super" p0) [] [] p1) "__init__" p2) [.Constant (.str msg) j p3] [] p4) env = (do
      let ov ← attributeBase (.Call (.Name "super" p0) [] [] p1) "__init__" env (eval (.Call (.Name "super" p0) [] [] p1) env)
      standAt p2.atName
      let (f, first) ← holding [ov] (getMethod ov "__init__" pl)
      callWith p4 f first (backTo p4 (starEach [.Constant (.str msg) j p3] env)) []))
    (hl : ps.length = 2) (hno : PySem.W.findIn K (.ref C) fl = some none)
    (hps : ∀ (A : Around) (outer : List Env) (s : Shared) (H : Hp) (E : XK) (cal : Bool) (pn : List (Addr × Obj)), PSs (cxS CX P w K mg base ps qual scope f cda cc A outer s H E cal pn) rest (tOst K fl (tVar 0) (tVar 1))) : FnOk P w K mg base CX (k + 1) f fd ps (spE1 C fl) ∧ L2H.FnH P w K mg base CX (k + 1) f fd ps (spE1 C fl) := by
  refine fn_super (pl := pl) T S hst hcall (fun vs H Q E h => ?_) fun A outer s H vs Q E cal pn h => ?_
  · obtain ⟨a, y, rfl, _⟩ := h
    rw [hl]; rfl
  · obtain ⟨a, y, rfl, ha, hq⟩ := h
    exact ⟨a, [y], _, rfl, ha, hps A outer s H E cal pn, y, rfl, .ref a, rfl, a, C, rfl, T.ox, hno, .inl ⟨ha, hq⟩⟩
end
def Er1 (P : Program) (w : World) (K : PySem.W.Frag) (mg : Str → Option Value) (base : Heap) (C f : String) : Prop := ∃ Ca fI fd ps, mg (Str.ofString C) = some (.ref Ca) ∧ OexC K Ca ∧ PySem.W.findIn K (.ref Ca) "__init__" = some (some (.ref fI)) ∧ PySem.W.typeIn K (.ref fI) = some (.type "function") ∧
  FnOk P w K mg base (CXv mg P w) 1 fI fd ps (spE1 Ca (Str.ofString f)) ∧ Binds K fd ps []
theorem passes0 {X : Cx} : Passes (CXv X.mg X.prog X.w) X (fun _ _ _ => False) := fun _ _ _ _ _ _ _ h => (cxv_false h).elim
theorem heap1 {H : Hp} {a dx : Addr} {o o1 o2 : HO} (ha : H a = none) (ne : dx ≠ a) : upd (del (upd (upd (upd H a o) dx o1) a o2) a) dx = upd (H := H) (a := dx) := by
  funext u b
  unfold upd
  by_cases hb : b = dx
  · rw [if_pos hb, if_pos hb]
  · rw [if_neg hb, if_neg hb]
    by_cases h2 : b = a
    · rw [h2, del_same, ha]
    · rw [del_ne h2]
      simp [upd, hb, h2]
theorem mkO1 {Ca : Addr} {f : Str} {y : V} {H1 : Hp} {Q : XK} (h : ∀ d, H1 d = none → Q (.ref Ca) (some d) (upd H1 d (.xd [(f, y)]))) : [y].length ≤ 1000 ∧ ∀ a, H1 a = none → spE1 Ca f (.ref a :: ([y] ++ [])) (upd H1 a (exo a Ca none))
    (fun v H2 => v = .non ∧ ∃ (d : Addr) (fs : List (Str × V)), H2 a = some (exo a Ca (some d)) ∧ H2 d = some (exd d fs) ∧ H1 d = none ∧ Q (.ref Ca) (some d) (upd (del H2 a) d (.xd fs))) (fun _ _ _ => False) := by
  refine ⟨by show 1 ≤ 1000; decide, fun a ha => ⟨a, y, rfl, upd_same, fun dx nd ne => ⟨rfl, dx, _, upd_same, by rw [upd_ne ne]; exact upd_same, ?_, ?_⟩⟩⟩
  · rw [upd_ne ne] at nd; exact nd
  · rw [upd_ne ne] at nd
    rw [heap1 ha ne]
    exact h dx nd
theorem goodX_new {f : Fm} {Z : Addr → Prop} {Fs : Nat → Addr → Prop} {env : VEnv} {σ : L2.St} {H H1 : Hp} {C : String} {fs : List String} {os : List O} {vs : List V} {F1 : Addr → Prop} {Ca d : Addr} {ks : List Str} (g : GoodAt f Z Fs env σ H) (s1 : Same H H1) (hC : f.cl.b.at_ C = some Ca) (n : O.nos isTb os = true) (p : RepOs (tw f Z Fs) H1 os vs F1) (f1 : Fresh H H1 F1) (hd : H1 d = none) (hk : ks = fs.map Str.ofString) (hl : ks.length = vs.length) :
    GoodX f env ⟨C, fs, os⟩ (.ref Ca) (some d) σ (upd H1 d (.xd (ks.zip vs))) := by
  have sm : Same H1 (upd H1 d (.xd (ks.zip vs))) := Same.of fun b o e => by rw [upd_ne (ne_of_none e hd)]; exact e
  refine ⟨Z, Fs, fun a => a = d ∨ F1 a, g.same (s1.trans sm), ⟨Ca, hC, rfl, .inr ⟨d, ks.zip vs, F1, rfl, upd_same, ?_, .inl rfl, fun z => (f1 d z).2.ne hd, fun _ z => .inr z, ?_⟩⟩, g.fresh fun a z => ?_⟩
  · rw [← hk, List.map_fst_zip (Nat.le_of_eq hl)]
  · rw [List.map_snd_zip (Nat.le_of_eq hl.symm)]
    exact RepOs.keep (w := tw f Z Fs) (w' := f.w Z) (p := isTb) rfl (keepW sm) (fun _ _ e => sm _ _ e) n (fun _ _ _ e n => sm.nt n e) p
  · rcases z with rfl | z
    · exact ⟨s1.free hd, _, upd_same, True.intro⟩
    · exact ⟨(f1 a z).1, (f1 a z).2.same sm⟩
def sRaise1 (C f : String) (ma : DEnv → R O) : VEnv → RS := fun env => match ma (dl env) with
  | .ok o => if o.no isTb then .ex ⟨C, [f], [o]⟩ env else .no
  | .ex x => if O.nos isTb x.xs then .ex x env else .no
  | .no => .no
section
variable {X : Cx} {P : List Nat} {a b : Expr} {es : List Expr} {ma mb : DEnv → R O} {mA : DEnv → R (List O)} {x : Str} {p pos pos' : Pos}
theorem vs_raise1 {C f : String} (hc : X.calm = true) (M : Er1 X.prog X.w X.K X.mg X.base C f) (hr : Room 2 X.A) (ha : VE X a ma) (hx : x = Str.ofString C := by rfl) (hg : Gl X x := by rfl) (hdb : (x == ("__debug__" : Str)) = false := by decide) (he : starEach [a] X.env = (false, eval a X.env) :: starEach [] X.env := by rfl) :
    VS X P (.Raise (some (.Call (.Name x p) [a] [] pos)) none pos') (sRaise1 C f ma) := fun W tk fr hf => ⟨fun pins s σ H D I h => by
  obtain ⟨env, ⟨Z, Fs, g⟩, h⟩ := rS_to h
  subst hx
  obtain ⟨Ca, fI, fd, ps, hm, T, iC, tI, F, hb⟩ := M
  refine (L2N.ps_raise hc tk.n (pmk_oexN (ds := []) (dvs := []) T iC tI F hr hb .nil passes0 hg hm (pa_cons (ha W tk (tw fr Z Fs) hf.1) pa_nil he) hdb he rfl)).run pins s σ H D I ?_
  refine rE_of g.goodE ?_
  unfold sRaise1 at h
  cases e : ma (dl env) with
  | no => rw [e] at h; exact h
  | ex x =>
    rw [e] at h
    simp only at h
    split at h
    · rename_i n
      exact fun cls d H' F s r fx => h cls d σ H' ⟨Z, Fs, F, g.same s, RepX.unlend n r, g.fresh fx⟩
    · exact h.elim
  | ok o =>
    rw [e] at h
    simp only at h
    split at h
    · rename_i n
      intro v H1 F1 s1 p1 f1
      refine mkO1 (Q := fun cls d H' => W cls d σ H') fun d hd => h _ _ _ _ ?_
      refine goodX_new (ks := [Str.ofString f]) (vs := [v]) (os := [o]) (F1 := F1) g s1 (clM_of hf.1 hm) (by simp [O.nos, n]) ?_ f1 hd rfl rfl
      simp only [RepOs]
      exact ⟨v, [], F1, fun _ => False, rfl, fun _ z => z, fun _ z => z.elim, fun _ _ z => z, p1, rfl⟩
    · exact h.elim⟩
def sOut (i : Nat) : RS → RS
  | .ok (.ret o) e => if o.nx && nxE (e.set i none) then .ok (.ret o) (e.set i none) else .no
  | .ok c e => if nxE (e.set i none) then .ok c (e.set i none) else .no
  | _ => .no
def sTryAs (E : Errs) (D : String) (i : Nat) (body suite : VEnv → RS) : VEnv → RS := fun env => match body env with
  | .ok c e => .ok c e
  | .ex x e => if E.has x.cls then (if subE x.cls D then (if O.nos notFz x.xs && (decide (i < e.length)) then sOut i (suite (e.set i (some (.xn x.cls x.fs (O.ers x.xs))))) else .no) else (if badE x.cls then .ex x e else .no)) else .no
  | .no => .no
theorem suite_cl {X : Cx} {c : Cl} {a : Addr} {oe : Obj} {Ca : Addr} {d : Option Addr} {pn : List (Addr × Obj)} (h : CbOk X.K X.mg c.b) (hz : Zc (.ref Ca) d oe) (hf : ∃ vs, oe.data = .fields vs) : ClOk (X.suite a ((a, oe) :: pn)) ⟨c.b, fun a' Ca' d' => a' = a ∧ Ca' = Ca ∧ d' = d⟩ :=
  ⟨h, fun a' Ca' d' ⟨e1, e2, e3⟩ => ⟨rfl, oe, pn, by rw [e1], by rw [e2, e3]; exact hz, hf⟩⟩
theorem GoodAt.forget2 {f : Fm} {Z : Addr → Prop} {Fs : Nat → Addr → Prop} {env : VEnv} {σ : L2.St} {H : Hp} {i : Nat} (hp : ∀ p ∈ f.pin, p.1 ≠ i) (g : GoodAt f Z Fs env σ H) : GoodAt f Z (fun j a => if j = i then False else Fs j a) (env.set i none) (σ.set i none) H := by
  have g2 := g.forget (i := i)
  refine ⟨fun j p e => ?_, g2.dis, g2.own, g2.zal, g2.bal, g2.keep, g2.there, g2.fnew, g2.znew, g2.zold, fun p hm => ?_, by simpa using g.len⟩
  · obtain ⟨v, ev, r⟩ := g2.rep j p e
    refine ⟨v, ?_, r⟩
    by_cases hj : j = i
    · subst hj
      rw [List.getElem?_set_self'] at e
      cases q : env[j]? with
      | none => rw [q] at e; cases e
      | some q' => rw [q] at e; cases e
    · rw [List.getElem?_set_ne (Ne.symm hj)]; exact ev
  · rw [List.getElem?_set_ne (Ne.symm (hp p hm))]; exact g.pin p hm
theorem Good.outS {f : Fm} {c' : Cl} {env : VEnv} {σ : L2.St} {H : Hp} {i : Nat} (h : c'.b = f.cl.b) (hp : ∀ p ∈ f.pin, p.1 ≠ i) (n : nxE (env.set i none) = true) (g : Good (f.ex c') env σ H) : Good f (env.set i none) (σ.set i none) H := by
  obtain ⟨Z, Fs, g⟩ := g
  have g2 : GoodAt (f.ex c') Z _ (env.set i none) (σ.set i none) H := GoodAt.forget2 hp g
  exact ⟨Z, _, GoodAt.ex (f := f.ex c') (c' := f.cl) h.symm (.inr n) g2⟩
theorem GoodV.outS {f : Fm} {c' : Cl} {env : VEnv} {o : O} {v : V} {σ : L2.St} {H : Hp} {i : Nat} (h : c'.b = f.cl.b) (hp : ∀ p ∈ f.pin, p.1 ≠ i) (n : nxE (env.set i none) = true) (no : o.nx = true) (g : GoodV (f.ex c') env o v σ H) : GoodV f (env.set i none) o v (σ.set i none) H := by
  obtain ⟨Z, Fs, F, g, r, x⟩ := g
  have g2 : GoodAt (f.ex c') Z _ (env.set i none) (σ.set i none) H := GoodAt.forget2 hp g
  refine ⟨Z, _, F, GoodAt.ex (f := f.ex c') (c' := f.cl) h.symm (.inr n) g2, RepO.cl (w := (f.ex c').w Z) (w' := f.w Z) ⟨h.symm, rfl, rfl, rfl⟩ (.inr no) r, fun a z => ?_⟩
  obtain ⟨x1, x2, x3, x4, x5⟩ := x a z
  refine ⟨x1, x2, x3, x4, fun j q => ?_⟩
  replace q : if j = i then False else Fs j a := q
  split at q
  · exact q
  · exact x5 j q
theorem suite_start {f : Fm} {env : VEnv} {x : Exn} {Ca a : Addr} {d : Option Addr} {σ : L2.St} {H : Hp} {i : Nat} (hex : ∀ a Ca d, ¬ f.cl.ex a Ca d) (hC : f.cl.b.at_ x.cls = some Ca) (hp : ∀ p ∈ f.pin, p.1 ≠ i) (n : O.nos notFz x.xs = true) (hi : i < env.length) (g : GoodX f env x (.ref Ca) d σ H) :
    Good (f.ex ⟨f.cl.b, fun a' Ca' d' => a' = a ∧ Ca' = Ca ∧ d' = d⟩) (env.set i (some (.xn x.cls x.fs (O.ers x.xs)))) (σ.set i (some (.ref a))) H := by
  obtain ⟨Z, Fs, F, g, r, xx⟩ := g
  have g1 := g.frz xx
  have g2 := GoodAt.ex (c' := ⟨f.cl.b, fun a' Ca' d' => a' = a ∧ Ca' = Ca ∧ d' = d⟩) rfl (.inl fun a' Ca' d' q => absurd q (hex _ _ _)) g1
  refine ⟨_, _, g2.set (F := fun _ => False) ?_ (fun _ z => z.elim) hi hp⟩
  simp only [RepO]
  refine ⟨a, Ca, d, rfl, ⟨rfl, rfl, rfl⟩, hC, ?_⟩
  obtain ⟨Ca2, c2, e2, r⟩ := r
  rcases r with ⟨h1, h2, h3⟩ | ⟨a', kvs, G, e3, e4, e5, fa, ga, sg, rr⟩
  · exact .inl ⟨h1, by rw [h2]; rfl, h3⟩
  · refine .inr (.inl ⟨a', kvs, e3, .inr fa, e4, e5, ?_⟩)
    refine Reps.cl (cl := f.cl) (cl' := ⟨f.cl.b, fun a' Ca' d' => a' = a ∧ Ca' = Ca ∧ d' = d⟩) rfl (RepOs.toRep (w := f.w Z) (S := fun a => Z a ∨ F a) (p := notFz) (fun k hk => ?_) n (fun b z => .inr (sg b z)) rr)
    cases k with
    | fz => exact fun _ z => .inl z
    | bo => cases hk
    | tb => cases hk
theorem vs_try_as {body suite : List Stmt} {b₀ : Stmt} {n : Str} {np : Pos} {E : Errs} {m1 m2 : VEnv → RS} {i : Nat} (D : String) (hE : ErrF X.K X.mg E) (hc : X.calm = true) (hN : X.N.Nodup)
    (hb : ∀ (pn : List (Addr × Obj)) (xe : Value → Shared → Prop), PassesOwn (model X.prog X.w) X.A X.env xe → VB (X.tr pn xe) P body m1) (hsu : ∀ (a : Addr) (oe : Obj) (pn : List (Addr × Obj)), VB (X.suite a ((a, oe) :: pn)) P (b₀ :: suite) m2)
    (hs : X.stack = X.env :: X.outer := by rfl) (hfr : X.env.frame = some X.env.locals := by rfl) (hi : X.N[i]? = some n := by rfl) (hln : X.env.kindOf n = some .local := by rfl) (hD : E.has D = true := by rfl) (hx : x = Str.ofString D := by rfl) (hg : Gl X x := by rfl) (hdb : (x == ("__debug__" : Str)) = false := by decide) (hP : P.contains i = false := by rfl) :
    VS X P (.Try body [.ExceptHandler (some (.Name x np)) (some n) (b₀ :: suite) pos'] [] [] pos) (sTryAs E D i m1 m2) := fun W tk f hf => by
  obtain ⟨pD, hpD, rfl⟩ := Errs.has_ hD
  obtain ⟨Da, eD⟩ := hE.there pD hpD
  have hex := (ClOk.ok0 hc hf.1).2
  refine (ps_try_as (tb := fun W => rS f W m1) (ts := fun a cls d => fun D σ H => ∃ Ca, cls = .ref Ca ∧ rS (f.ex ⟨f.cl.b, fun a' Ca' d' => a' = a ∧ Ca' = Ca ∧ d' = d⟩) (fun _ _ _ _ => False) m2 D σ H) hs hfr hN hi hln ⟨hg, hdb, .inl (by rw [hx]; exact eD)⟩ tk.b (fun W pn xe tk' hpo => hb pn xe hpo W (.of tk') f ⟨⟨hf.1.1, fun a Ca d q => absurd q (hex a Ca d)⟩, hf.2⟩) fun a oe cls d pn hz hfl => ⟨fun pins s σ H D I h => ?_⟩).imp fun D σ H h => ?_
  · obtain ⟨Ca, rfl, h⟩ := h
    refine (hsu a oe pn (fun _ _ _ _ => False) (.of fun u s' z => ?_) (f.ex ⟨f.cl.b, fun a' Ca' d' => a' = a ∧ Ca' = Ca ∧ d' = d⟩) ⟨suite_cl hf.1.1 hz hfl, hf.2⟩).run pins s σ H D I h
    obtain ⟨_, _, _, _, _, _, _, _, _, _, _, _, _, _, _, _, z⟩ := z
    exact z.elim
  · obtain ⟨env, g, h⟩ := rS_to h
    refine rS_of g ?_
    unfold sTryAs at h
    cases e : m1 env with
    | no => rw [e] at h; exact h
    | ok c env' => rw [e] at h; cases c <;> exact h
    | ex x env' =>
      rw [e] at h
      intro cls d σ' H' gx
      simp only at h
      split at h
      · rename_i hC
        obtain ⟨pC, hpC, eC⟩ := Errs.has_ hC
        have gx0 := gx
        obtain ⟨Z, Fs, F, g1, ⟨Ca, c1, rfl, _⟩, _⟩ := gx0
        have hm := clM_at hf.1 c1
        refine ⟨subE x.cls pD.1, ?_, fun hb => ?_, fun hb => ?_⟩
        · rw [← eC] at hm ⊢
          exact (hE.two pC hpC pD hpD Ca Da hm eD).2
        · rw [if_pos hb] at h
          intro a ha
          split at h
          · rename_i hh
            simp only [Bool.and_eq_true, decide_eq_true_eq] at hh
            have hpin := pin_ne hf.2 hP
            refine ⟨Ca, rfl, rS_of (suite_start hex c1 hpin hh.1 hh.2 gx) ?_⟩
            cases e2 : m2 (env'.set i (some (.xn x.cls x.fs (O.ers x.xs)))) with
            | no => rw [e2] at h; exact h
            | ex y e3 => rw [e2] at h; exact h.elim
            | ok c e3 =>
              rw [e2] at h
              cases c with
              | ret o =>
                intro v σ2 H2 g2
                simp only [sOut] at h
                split at h
                · rename_i hn
                  simp only [Bool.and_eq_true] at hn
                  exact h v _ H2 (GoodV.outS (c' := ⟨f.cl.b, fun a' Ca' d' => a' = a ∧ Ca' = Ca ∧ d' = d⟩) rfl hpin hn.2 hn.1 g2)
                · exact h.elim
              | next =>
                intro σ2 H2 g2
                simp only [sOut] at h
                split at h
                · rename_i hn; exact h _ H2 (Good.outS (c' := ⟨f.cl.b, fun a' Ca' d' => a' = a ∧ Ca' = Ca ∧ d' = d⟩) rfl hpin hn g2)
                · exact h.elim
              | brk =>
                intro σ2 H2 g2
                simp only [sOut] at h
                split at h
                · rename_i hn; exact h _ H2 (Good.outS (c' := ⟨f.cl.b, fun a' Ca' d' => a' = a ∧ Ca' = Ca ∧ d' = d⟩) rfl hpin hn g2)
                · exact h.elim
              | cont =>
                intro σ2 H2 g2
                simp only [sOut] at h
                split at h
                · rename_i hn; exact h _ H2 (Good.outS (c' := ⟨f.cl.b, fun a' Ca' d' => a' = a ∧ Ca' = Ca ∧ d' = d⟩) rfl hpin hn g2)
                · exact h.elim
          · exact h.elim
        · rw [if_neg (by rw [hb]; exact Bool.false_ne_true)] at h
          split at h
          · exact ⟨⟨x.cls, ‹_›, hm⟩, h _ _ _ _ gx⟩
          · exact h.elim
      · exact h.elim
end
end VL
namespace VL
open PySem PySem.Spec PyProof.Rows L2
def wx (w : Wd) (Fx : Addr → Prop) : Wd := ⟨w.cl, fun a => w.Z a ∨ Fx a, w.B, fun a => w.T a ∨ Fx a⟩
def wipeE (env : DEnv) : List Nat → DEnv
  | [] => env
  | v :: vs => (wipeE env vs).set v none
theorem wipe_set {σ : L2.St} {j : Nat} {v : V} : ∀ {vs : List Nat}, j ∈ vs → wipe (σ.set j (some v)) vs = wipe σ vs
  | [], h => by simp at h
  | k :: vs, h => by
    unfold wipe
    by_cases hj : j ∈ vs
    · rw [wipe_set hj]
    · have e : j = k := by simpa [hj] using h
      subst e
      have go : ∀ ws : List Nat, j ∉ ws → wipe (σ.set j (some v)) ws = (wipe σ ws).set j (some v) := by
        intro ws
        induction ws with
        | nil => intro _; rfl
        | cons w ws ih =>
          intro hn
          simp only [List.mem_cons, not_or] at hn
          unfold wipe
          rw [ih hn.2, List.set_comm _ _ (fun e => hn.1 e)]
      rw [go vs hj, List.set_set]
section
variable {w : Wd} {Fx : Addr → Prop} {env : DEnv} {σ : L2.St} {H : Hp} {o : O} {v : V}
theorem wx_S (k : Kd) : Sub (w.S k) ((wx w Fx).S k) := by
  cases k with
  | fz => exact fun _ z => .inl z
  | bo => exact fun _ z => z
  | tb => exact fun _ z => .inl z
theorem RepO.wx {F : Addr → Prop} (h : RepO w H o v F) : RepO (VL.wx w Fx) H o v F :=
  RepO.keep (w := w) (w' := VL.wx w Fx) (p := fun _ => false) rfl (fun k _ => KeepS.same (Same.refl H) (wx_S k)) (fun _ _ e => e) (O.no_none o) (fun _ _ _ e _ => e) h
theorem GoodE.wx (G : GoodE w env σ H) (hf : ∀ a, Fx a → H a ≠ none) : GoodE (VL.wx w Fx) env σ H :=
  ⟨fun i o e => let ⟨v, ev, r⟩ := G.at_ i o e; ⟨v, ev, RepO.wx r⟩, fun a z => z.imp (G.zt a) id, fun a z => .inl (G.bt a z), ⟨fun a z => z.elim (G.al.1 a) (hf a), G.al.2⟩, G.len⟩
theorem GoodE.wipe (G : GoodE w env σ H) : ∀ vs : List Nat, GoodE w (wipeE env vs) (L2.wipe σ vs) H
  | [] => G
  | k :: vs => by
    have g := GoodE.wipe G vs
    refine ⟨fun i o e => ?_, g.zt, g.bt, g.al, by unfold wipeE L2.wipe; rw [List.length_set, List.length_set]; exact g.len⟩
    unfold wipeE at e
    by_cases hi : i = k
    · subst hi
      rw [List.getElem?_set_self'] at e
      cases q : (wipeE env vs)[i]? with
      | none => rw [q] at e; cases e
      | some q' => rw [q] at e; cases e
    · rw [List.getElem?_set_ne (Ne.symm hi)] at e
      obtain ⟨v, ev, r⟩ := g.at_ i o e
      exact ⟨v, by unfold L2.wipe; rw [List.getElem?_set_ne (Ne.symm hi)]; exact ev, r⟩
theorem GoodE.put {j : Nat} (G : GoodE w env σ H) (r : RepO w H o v (fun _ => False)) : GoodE w (env.set j (some o)) (σ.set j (some v)) H := by
  refine ⟨fun i p e => ?_, G.zt, G.bt, G.al, by rw [List.length_set, List.length_set]; exact G.len⟩
  by_cases hi : i = j
  · subst hi
    rw [List.getElem?_set_self'] at e
    cases q : env[i]? with
    | none => rw [q] at e; cases e
    | some q' =>
      rw [q] at e
      cases e
      have hlt : i < σ.length := by rw [G.len]; exact (List.getElem?_eq_some_iff.mp q).1
      exact ⟨v, List.getElem?_set_self hlt, r⟩
  · rw [List.getElem?_set_ne (Ne.symm hi)] at e
    obtain ⟨v', ev, r'⟩ := G.at_ i p e
    exact ⟨v', by rw [List.getElem?_set_ne (Ne.symm hi)]; exact ev, r'⟩
def lentO : O → O
  | .lf k d => .lf k d
  | .xn C fs ds => .xn C fs ds
  | o => .lf .tb o.er
theorem lent_rep (G : GoodE w env σ H) (r : RepO w H o v (fun _ => False)) : RepO w H (lentO o) v (fun _ => False) := by
  have gen : RepO w H (.lf .tb o.er) v (fun _ => False) := by
    simp only [RepO]
    refine RepO.toRep (w := w) (S := w.T) (p := fun _ => false) (fun k _ => ?_) (O.no_none o) (fun _ z => z.elim) r
    cases k with
    | fz => exact G.zt
    | bo => exact G.bt
    | tb => exact fun _ z => z
  cases o <;> first | exact r | exact gen
end
abbrev AsgE := DEnv → Option DEnv
def VG (X : Cx) (vs : List Nat) (tg : Expr) (g : TG) (asg : O → AsgE) : Prop := PG X tg g ∧ ∀ (w : Wd) (o : O) (v : V) (env env2 : DEnv) (σ : L2.St) (H : Hp) (Q : L2.St → Hp → Prop), GoodE w env σ H → RepO w H o v (fun _ => False) → asg o env = some env2 → (∀ σ2, GoodE w env2 σ2 H → L2.wipe σ2 vs = L2.wipe σ vs → Q σ2 H) → g v σ H Q
def asgN (j : Nat) (o : O) : AsgE := fun env => some (env.set j (some (lentO o)))
def asgL : List Nat → List O → AsgE
  | [], [], env => some env
  | j :: js, o :: os, env => asgL js os (env.set j (some (lentO o)))
  | _, _, _ => none
def asgT (js : List Nat) (o : O) : AsgE := fun env => match o with
  | .lf k (.tup ds) => asgL js (ds.map (lfk k)) env
  | .tup os => asgL js os env
  | _ => none
section
variable {X : Cx} {vs : List Nat} {tg : Expr} {pos : Pos} {x : Str}
theorem vg_name (j : Nat) (hN : X.N.Nodup) (hj : X.N[j]? = some x := by rfl) (hx : Loc X.env.scope x := by first | exact Or.inl rfl | exact Or.inr rfl) (hm : vs.contains j = true := by rfl) (hf : X.fn x = true ∨ X.env.scope.names.lookup x = some .local := by first | exact .inl rfl | exact .inr rfl) : VG X vs (.Name x pos) (gName j) (asgN j) :=
  ⟨pg_name hN hj hx hf, fun w o v env env2 σ H Q G r e hQ => by
    cases e
    exact hQ _ (G.put (lent_rep G r)) (wipe_set (by simpa using hm))⟩
end
def SrcE (w : Wd) (Fx : Addr → Prop) (J : It) (H1 : Hp) (items : List O) : Prop := (∀ i o H, items[i]? = some o → Same H1 H → J.go i H ∧ ∀ x H', J.yld i H x H' → Same H H' ∧ RepO (wx w Fx) H' o x (fun _ => False)) ∧ ∀ H, Same H1 H → J.stop items.length H
def VJ (X : Cx) (tg iter : Expr) (src : DEnv → R (Bool × List O)) : Prop := ∀ (W : WX), Takes X W → ∀ w : Wd, ClOk X w.cl → ∃ wi : TI, PI X tg iter wi ∧ ∀ (env : DEnv) (σ : L2.St) (H : Hp) (Q : It → Hp → Prop), GoodE w env σ H → (match src env with
  | .ok (fl, items) => ∀ J H1 Fx, Same H H1 → Fresh H H1 Fx → (fl = true → ∀ a, ¬ Fx a) → SrcE w Fx J H1 items → Q J H1
  | .ex x => ∀ cls d H' F, Same H H' → RepX w H' x cls d F → Fresh H H' F → W cls d σ H'
  | .no => False) → wi σ H Q
section
variable {X : Cx} {tg a b : Expr} {ma mb : DEnv → R O} {pos p : Pos}
def jR1 (ma : DEnv → R O) : DEnv → R (Bool × List O) := fun env => (ma env).bind fun o => match o.er with
  | .int n => if decide (-(2 ^ 62) ≤ n) && decide (n < 2 ^ 62) then .ok (true, (List.range n.toNat).map fun (k : Nat) => .lf .fz (.int (0 + (k : Int)))) else .no
  | _ => .no
def jR2 (ma mb : DEnv → R O) : DEnv → R (Bool × List O) := fun env => (ma env).bind fun o => (mb env).bind fun o' => match o.er, o'.er with
  | .int l, .int n => if decide (-(2 ^ 62) ≤ l) && decide (l < 2 ^ 62) && decide (-(2 ^ 62) ≤ n) && decide (n < 2 ^ 62) then .ok (true, (List.range (n - l).toNat).map fun (k : Nat) => .lf .fz (.int (l + (k : Int)))) else .no
  | _, _ => .no
theorem srcE_range {w : Wd} {H1 : Hp} (lo : Int) (n : Nat) : SrcE w (fun _ => False) (Itr lo n) H1 ((List.range n).map fun (k : Nat) => .lf .fz (.int (lo + (k : Int)))) := by
  refine ⟨fun i o H e s => ?_, fun H s => by simp [Itr]⟩
  rw [List.getElem?_map] at e
  cases q : (List.range n)[i]? with
  | none => rw [q] at e; cases e
  | some k =>
    rw [q] at e
    obtain ⟨hj, ek⟩ := List.getElem?_eq_some_iff.mp q
    rw [List.getElem_range] at ek
    subst ek
    cases e
    refine ⟨show i < n by simpa using hj, fun x H' y => ?_⟩
    obtain ⟨rfl, rfl⟩ := y
    exact ⟨Same.refl _, by simp [RepO, Rep]⟩
theorem vj_range1 (hm : X.mg "range" = none) (ha : VE X a ma) (hg : Gl X "range" := by rfl) (hst : starEach [a] X.env = (false, eval a X.env) :: starEach [] X.env := by rfl) (hs : starEach [a] X.env = [(false, eval a X.env)] := by rfl) : VJ X tg (.Call (.Name "range" p) [a] [] pos) (jR1 ma) := fun W tk w hc => by
  refine ⟨_, pi_range1 hg hm (pa_cons (ha W tk w hc) pa_nil hst) hs, fun env σ H Q G h => rE_of G ?_⟩
  unfold jR1 at h
  cases e : ma env with
  | no => rw [e] at h; exact h
  | ex x => rw [e] at h; exact h
  | ok o =>
    rw [e] at h
    intro v H1 F1 s1 p1 f1
    have z := RepO.at p1
    simp only [R.bind] at h
    cases eo : o.er with
    | int n =>
      rw [eo] at h z
      simp only at h
      by_cases hb : (decide (-(2 ^ 62) ≤ n) && decide (n < 2 ^ 62)) = true
      · rw [if_pos hb] at h
        simp only [Bool.and_eq_true, decide_eq_true_eq] at hb
        exact ⟨n, by rw [show v = _ from z], hb.1, hb.2, h _ H1 (fun _ => False) s1 (fun _ z => z.elim) (fun _ _ z => z) (srcE_range 0 n.toNat)⟩
      · rw [if_neg hb] at h; exact h.elim
    | _ => rw [eo] at h; exact h.elim
def seqE (o : O) : Option (Bool × Kd × List D) := match o with
  | .lf k d => d.seq.map fun ds => (true, k, ds)
  | o => o.er.seq.map fun ds => (false, .tb, ds)
def jSq (ma : DEnv → R O) : DEnv → R (Bool × List O) := fun env => (ma env).bind fun o => match seqE o with
  | some (fl, k, ds) => .ok (fl, ds.map (lfk k))
  | none => .no
theorem srcE_seq {w : Wd} {Fx : Addr → Prop} {k : Kd} {ds : List D} {a : Addr} {vs : List V} {H1 : Hp} {K : PySem.W.Frag} (hr : Reps w.cl H1 ((wx w Fx).S k) ds vs) :
    (H1 a = some (.lst vs) → SrcE w Fx (Itl K a) H1 (ds.map (lfk k))) ∧ (H1 a = some (.tup vs) → SrcE w Fx (Itt K a) H1 (ds.map (lfk k))) := by
  have hl : vs.length = ds.length := Reps.length hr
  have item : ∀ (i : Nat) (o : O) (H : Hp), (ds.map (lfk k))[i]? = some o → Same H1 H → ∃ v, vs[i]? = some v ∧ RepO (wx w Fx) H o v (fun _ => False) := fun i o H e s => by
    rw [List.getElem?_map] at e
    cases q : ds[i]? with
    | none => rw [q] at e; cases e
    | some d =>
      rw [q] at e
      cases e
      obtain ⟨v, ev, r⟩ := Reps.get hr q
      exact ⟨v, ev, lfk_rep (w := wx w Fx) (Rep.keep (KeepS.same s fun _ z => z) r)⟩
  refine ⟨fun ha => ⟨fun i o H e s => ?_, fun H s => ⟨vs, SqL.of (s _ _ ha), by rw [hl, List.length_map]; exact Nat.le_refl _⟩⟩, fun ha => ⟨fun i o H e s => ?_, fun H s => ⟨vs, SqT.of (s _ _ ha), by rw [hl, List.length_map]; exact Nat.le_refl _⟩⟩⟩
  · obtain ⟨v, ev, r⟩ := item i o H e s
    have hs : SqL K H a vs := SqL.of (s _ _ ha)
    refine ⟨⟨vs, v, hs, ev⟩, fun x H' y => ?_⟩
    obtain ⟨rfl, y⟩ := y
    have := (y vs hs).symm.trans ev
    cases this
    exact ⟨Same.refl _, r⟩
  · obtain ⟨v, ev, r⟩ := item i o H e s
    have hs : SqT K H a vs := SqT.of (s _ _ ha)
    refine ⟨⟨vs, v, hs, ev⟩, fun x H' y => ?_⟩
    obtain ⟨rfl, y⟩ := y
    have := (y vs hs).symm.trans ev
    cases this
    exact ⟨Same.refl _, r⟩
theorem vj_seq (ha : VE X a ma) : VJ X tg a (jSq ma) := fun W tk w hc => by
  refine ⟨_, pi_sq (ha W tk w hc), fun env σ H Q G h => rE_of G ?_⟩
  unfold jSq at h
  cases e : ma env with
  | no => rw [e] at h; exact h
  | ex x => rw [e] at h; exact h
  | ok o =>
    rw [e] at h
    intro v H1 F1 s1 p1 f1
    simp only [R.bind] at h
    cases eo : seqE o with
    | none => rw [eo] at h; exact h.elim
    | some q =>
      obtain ⟨fl, k, ds⟩ := q
      rw [eo] at h
      have fin : ∀ (Fx : Addr → Prop) (d : D), Fresh H H1 Fx → (fl = true → ∀ a, ¬ Fx a) → d.seq = some ds → Rep w.cl H1 ((wx w Fx).S k) d v → ∃ a, v = .ref a ∧ (((∃ xs, SqL X.K H1 a xs) ∧ Q (Itl X.K a) H1) ∨ ((∃ xs, SqT X.K H1 a xs) ∧ Q (Itt X.K a) H1)) := fun Fx d fx hfl ed rd => by
        obtain ⟨a, vs, rfl, ha, hr⟩ := seq_rep ed rd
        have src := srcE_seq (w := w) (Fx := Fx) (K := X.K) (a := a) hr
        refine ⟨a, rfl, ?_⟩
        rcases ha with ha | ha
        · exact .inl ⟨⟨vs, SqL.of ha.1⟩, h _ H1 Fx s1 fx hfl (src.1 ha.1)⟩
        · exact .inr ⟨⟨vs, SqT.of ha⟩, h _ H1 Fx s1 fx hfl (src.2 ha)⟩
      have gen : fl = false → k = .tb → o.er.seq = some ds → _ := fun e1 e2 e3 => fin F1 o.er f1 (fun q => by rw [e1] at q; cases q) e3 (by
        subst e2
        refine RepO.toRep (w := w) (S := fun a => w.T a ∨ F1 a) (p := fun _ => false) (fun x _ => ?_) (O.no_none o) (fun _ z => .inr z) p1
        cases x with
        | fz => exact fun a z => .inl (G.zt a z)
        | bo => exact fun a z => .inl (G.bt a z)
        | tb => exact fun a z => .inl z)
      unfold seqE at eo
      split at eo
      · rename_i k' d
        cases q : d.seq with
        | none => rw [q] at eo; cases eo
        | some xs =>
          rw [q] at eo
          cases eo
          refine fin (fun _ => False) d (fun _ z => z.elim) (fun _ _ z => z) q ?_
          simp only [RepO] at p1
          exact Rep.keep (KeepS.same (Same.refl _) (wx_S k)) p1
      · cases q : o.er.seq with
        | none => rw [q] at eo; cases eo
        | some xs =>
          rw [q] at eo
          cases eo
          exact gen rfl rfl q
end
end VL
namespace VL
open PySem PySem.Spec PyProof.Rows L2
def VTs (X : Cx) (ifs : List Expr) (t : DEnv → R Bool) : Prop := ∀ (W : WX), Takes X W → ∀ w : Wd, ClOk X w.cl → PTs X ifs (rT w W t)
theorem _root_.L2.PTs.imp {X : Cx} {e : List Expr} {t t' : TT} (h : PTs X e t) (k : ∀ σ H Q, t' σ H Q → t σ H Q) : PTs X e t' := ⟨fun pins s σ H Q I q => h.run pins s σ H Q I (k σ H Q q)⟩
def tYesM : DEnv → R Bool := fun _ => .ok true
theorem vts_nil {X : Cx} : VTs X [] tYesM := fun W tk w hc => pts_nil.imp fun σ H Q h => by
  obtain ⟨env, G, h⟩ := h
  exact h H (Same.refl H)
theorem vts_one {X : Cx} {c : Expr} {t : DEnv → R Bool} (h : VT X c t) : VTs X [c] t := fun W tk w hc => pts_one (h W tk w hc)
def lcL (fl : Bool) (asg : O → AsgE) (t : DEnv → R Bool) (me : DEnv → R O) (env : DEnv) : List O → R (List O)
  | [] => .ok []
  | o :: r => match asg o env with
    | none => .no
    | some e => match t e with
      | .ok false => lcL fl asg t me env r
      | .ok true => match me e with
        | .ok y => if y.own || fl then (lcL fl asg t me env r).bind fun ys => .ok (y :: ys) else .no
        | _ => .no
      | _ => .no
def gLc (vs : List Nat) (src : DEnv → R (Bool × List O)) (asg : O → AsgE) (t : DEnv → R Bool) (me : DEnv → R O) : DEnv → R O := fun env => (src env).bind fun q => if szOk q.2.length then (lcL q.1 asg t me (wipeE env vs) q.2).bind fun os => .ok (.lst os) else .no
theorem lcL_len {fl : Bool} {asg : O → AsgE} {t : DEnv → R Bool} {me : DEnv → R O} {env : DEnv} : ∀ {is os : List O}, lcL fl asg t me env is = .ok os → fl = true ∨ O.owns os = true
  | [], os, h => by cases h; exact .inr rfl
  | o :: r, os, h => by
    unfold lcL at h
    split at h
    · cases h
    · split at h
      · exact lcL_len h
      · split at h
        · rename_i y _
          split at h
          · rename_i hy
            cases e : lcL fl asg t me env r with
            | no => rw [e] at h; cases h
            | ex x => rw [e] at h; cases h
            | ok ys =>
              rw [e] at h
              cases h
              rcases lcL_len e with q | q
              · exact .inl q
              · cases hfl : fl with
                | true => exact .inl rfl
                | false =>
                  rw [hfl, Bool.or_false] at hy
                  exact .inr (by simp only [O.owns, Bool.and_eq_true]; exact ⟨hy, q⟩)
          · cases h
        · cases h
      · cases h
theorem wipe_idem {σ : L2.St} {ws : List Nat} : ∀ vs : List Nat, (∀ v ∈ vs, v ∈ ws) → wipe (wipe σ ws) vs = wipe σ ws
  | [], _ => rfl
  | v :: vs, hv => by
    show (wipe (wipe σ ws) vs).set v none = wipe σ ws
    rw [wipe_idem vs fun u hu => hv u (List.mem_cons_of_mem _ hu)]
    have hvw := hv v List.mem_cons_self
    apply List.ext_getElem?
    intro j
    by_cases hj : j = v
    · subst hj
      rw [List.getElem?_set_self']
      cases q : (wipe σ ws)[j]? with
      | none => rfl
      | some z =>
        cases z with
        | none => rfl
        | some z => exact absurd hvw (wipe_some q).2
    · rw [List.getElem?_set_ne (Ne.symm hj)]
theorem keepUpd {H : Hp} {D : Addr} {u : HO} {S : Addr → Prop} (h : ¬ S D) (nt : ∀ xs, H D ≠ some (.tup xs)) : KeepS H (upd H D u) S S := by
  have ne : ∀ a, S a → a ≠ D := fun a s e => h (e ▸ s)
  refine ⟨fun a v s r _ => ⟨s, ?_⟩, fun a C dx fs s e => by rw [upd_ne (ne a s)]; exact e, fun a xs e => ?_, fun a xs s e => by rw [upd_ne (ne a s)]; exact e, fun a xs s e => by rw [upd_ne (ne a s)]; exact e⟩
  · rcases r with r | ⟨o, r⟩
    · exact .inl (by rw [upd_ne (ne a s)]; exact r)
    · exact .inr ⟨o, by rw [upd_ne (ne a s)]; exact r⟩
  · by_cases ha : a = D
    · rw [ha] at e; exact absurd e (nt xs)
    · rw [upd_ne ha]; exact e
theorem RepOs.updD {w : Wd} {H : Hp} {os : List O} {vs : List V} {F : Addr → Prop} {D : Addr} {u : HO} (hF : ¬ F D) (hS : ∀ k, ¬ w.S k D) (nt : ∀ xs, H D ≠ some (.tup xs)) (h : RepOs w H os vs F) : RepOs w (upd H D u) os vs F :=
  RepOs.keep (w := w) (w' := w) (p := fun _ => false) rfl (fun k _ => keepUpd (hS k) nt) (keepUpd (S := fun _ => False) (fun z => z) nt).2.2.1 (O.nos_none os) (fun a v f e _ => by rw [upd_ne (fun (q : a = D) => hF (q ▸ f))]; exact e) h
theorem RepO.updD {w : Wd} {H : Hp} {o : O} {v : V} {F : Addr → Prop} {D : Addr} {u : HO} (hF : ¬ F D) (hS : ∀ k, ¬ w.S k D) (nt : ∀ xs, H D ≠ some (.tup xs)) (h : RepO w H o v F) : RepO w (upd H D u) o v F :=
  RepO.keep (w := w) (w' := w) (p := fun _ => false) rfl (fun k _ => keepUpd (hS k) nt) (keepUpd (S := fun _ => False) (fun z => z) nt).2.2.1 (O.no_none o) (fun a v f e _ => by rw [upd_ne (fun (q : a = D) => hF (q ▸ f))]; exact e) h
section
variable {X : Cx} {tg iter elt : Expr} {ifs : List Expr} {scope : Scope} {own : List (Str × Nat)} {pos : Pos} {src : DEnv → R (Bool × List O)} {asg : O → AsgE} {g : TG} {t : DEnv → R Bool} {me : DEnv → R O}
structure LcI (w : Wd) (fl : Bool) (asg : O → AsgE) (t : DEnv → R Bool) (me : DEnv → R O) (env : DEnv) (Fx : Addr → Prop) (items : List O) (H1 : Hp) (D : Addr) (total : List O) (i : Nat) (H' : Hp) : Prop where
  le : i ≤ items.length
  x : ∃ acc F os rest, H' D = some (.lst acc) ∧ Same H1 H' ∧ RepOs (wx w Fx) H' os acc F ∧ Fresh H1 H' F ∧ ¬ F D ∧ os.length ≤ i ∧ lcL fl asg t me env (items.drop i) = .ok rest ∧ os ++ rest = total
def ttW (w : Wd) (t : DEnv → R Bool) : TT := fun σ H Q => ∃ Fx, rT (wx w Fx) (fun _ _ _ _ => False) t σ H Q
def teW (w : Wd) (me : DEnv → R O) : TE := fun σ H Q => ∃ Fx, rE (wx w Fx) (fun _ _ _ _ => False) me σ H Q
theorem tkF {X : Cx} : Takes X (fun _ _ _ _ => False) := .of fun u s' z => by
  obtain ⟨_, _, _, _, _, _, _, _, _, _, _, _, _, _, _, _, z⟩ := z
  exact z.elim
theorem ttW_p {X : Cx} {w : Wd} {ifs : List Expr} {t : DEnv → R Bool} (ht : VTs X ifs t) (hc : ∀ Fx, ClOk X (wx w Fx).cl) : PTs X ifs (ttW w t) := ⟨fun pins s' σ H' Q I ⟨Fx, q⟩ => (ht _ tkF (wx w Fx) (hc Fx)).run pins s' σ H' Q I q⟩
theorem teW_p {X : Cx} {w : Wd} {elt : Expr} {me : DEnv → R O} (he : VE X elt me) (hc : ∀ Fx, ClOk X (wx w Fx).cl) : PE X elt (teW w me) := ⟨fun pins s' σ H' Q I ⟨Fx, q⟩ => (he _ tkF (wx w Fx) (hc Fx)).run pins s' σ H' Q I q⟩
theorem lc_at {wi : TI} {w : Wd} {W : WX} {σ : L2.St} {H : Hp} {Q : VK} {env : DEnv}
    (hgs : ∀ (w : Wd) (o : O) (v : V) (env env2 : DEnv) (σ : L2.St) (H : Hp) (Q : L2.St → Hp → Prop), GoodE w env σ H → RepO w H o v (fun _ => False) → asg o env = some env2 → (∀ σ2, GoodE w env2 σ2 H → wipe σ2 (own.map (·.2)) = wipe σ (own.map (·.2)) → Q σ2 H) → g v σ H Q)
    (G : GoodE w env σ H) (hsrc : ∀ Q : It → Hp → Prop, (match src env with
  | .ok (fl, items) => ∀ J H1 Fx, Same H H1 → Fresh H H1 Fx → (fl = true → ∀ a, ¬ Fx a) → SrcE w Fx J H1 items → Q J H1
  | .ex x => ∀ cls d H' F, Same H H' → RepX w H' x cls d F → Fresh H H' F → W cls d σ H'
  | .no => False) → wi σ H Q) (h : Out w W σ H H (RepO w) (gLc (own.map (·.2)) src asg t me env) Q) : tLc wi g (ttW w t) (teW w me) (own.map (·.2)) σ H Q := by
  refine hsrc _ ?_
  unfold gLc at h
  cases es : src env with
  | no => rw [es] at h; exact h
  | ex x => rw [es] at h; exact h
  | ok q =>
    obtain ⟨fl, items⟩ := q
    rw [es] at h
    intro J H1 Fx s1 fx hfl hJ D hD
    simp only [R.bind] at h
    by_cases hz : ¬ szOk items.length = true
    · rw [if_neg hz] at h; exact h.elim
    replace hz := Classical.not_not.mp hz
    rw [if_pos hz] at h
    cases el : lcL fl asg t me (wipeE env (own.map (·.2))) items with
    | no => rw [el] at h; exact h.elim
    | ex x => 
      exfalso
      have : ∀ is : List O, lcL fl asg t me (wipeE env (own.map (·.2))) is ≠ .ex x := by
        intro is
        induction is with
        | nil => intro q; cases q
        | cons o r ih =>
          intro q
          unfold lcL at q
          split at q
          · cases q
          · split at q
            · exact ih q
            · split at q
              · split at q
                · cases e2 : lcL fl asg t me (wipeE env (own.map (·.2))) r with
                  | ok ys => rw [e2] at q; cases q
                  | ex y => rw [e2] at q; cases q; exact ih e2
                  | no => rw [e2] at q; cases q
                · cases q
              · cases q
            · cases q
      exact this _ el
    | ok total =>
      rw [el] at h
      simp only at h
      have gG : ∀ H', Same H1 H' → GoodE (wx w Fx) (wipeE env (own.map (·.2))) (wipe σ (own.map (·.2))) H' := fun H' sm => ((G.same (s1.trans sm)).wx fun a z => (fx a z).2.ne |> fun n e => n (sm.free e)).wipe _
      have smD : ∀ {H' : Hp} {u : HO}, Same H1 H' → NT (H' D) ∨ H' D = none → Same H1 (upd H' D u) := fun sm nd => sm.updN hD nd
      have nS : ∀ k, ¬ (wx w Fx).S k D := fun k z => by
        have gg := gG H1 (Same.refl _)
        have : (wx w Fx).T D := by
          cases k with
          | fz => exact gg.zt D z
          | bo => exact gg.bt D z
          | tb => exact z
        exact gg.al.1 D this hD
      refine ⟨fun i m H' => m = items.length - i ∧ LcI w fl asg t me (wipeE env (own.map (·.2))) Fx items H1 D total i H', ⟨items.length, rfl, Nat.zero_le _, [], fun _ => False, [], total, upd_same, smD (Same.refl _) (.inr hD), by simp [RepOs], fun _ z => z.elim, fun z => z, Nat.le_refl _, el, rfl⟩, ?_⟩
      rintro i m H2 ⟨rfl, hle, acc, F, os, rest, hDl, sm, ro, fr, nD, hos, hrest, htot⟩
      by_cases hlt : i < items.length
      · have ei : items[i]? = some items[i] := List.getElem?_eq_getElem hlt
        obtain ⟨go, yl⟩ := hJ.1 i items[i] H2 ei sm
        refine .inr ⟨go, fun H' => LcI w fl asg t me (wipeE env (own.map (·.2))) Fx items H1 D total (i + 1) H', fun H' q => ⟨items.length - (i + 1), by omega, rfl, q⟩, fun x H3 y => ?_⟩
        obtain ⟨s3, rx⟩ := yl x H3 y
        rw [List.drop_eq_getElem_cons hlt] at hrest
        unfold lcL at hrest
        cases ea : asg items[i] (wipeE env (own.map (·.2))) with
        | none => simp only [ea] at hrest; cases hrest
        | some e1 =>
          simp only [ea] at hrest
          refine hgs (wx w Fx) items[i] x _ e1 _ H3 _ (gG H3 (sm.trans s3)) rx ea fun σ2 G2 hw => ⟨?_, Fx, ?_⟩
          · rw [hw]
            show wipe (wipe σ _) _ = wipe σ _
            exact wipe_idem _ fun _ h => h
          · cases et : t e1 with
            | no => simp only [et] at hrest; cases hrest
            | ex x' => simp only [et] at hrest; cases hrest
            | ok b =>
              refine ⟨e1, G2, ?_⟩
              rw [et]
              intro H4 s4
              have sm4 : Same H1 H4 := (sm.trans s3).trans s4
              have keep4 : RepOs (wx w Fx) H4 os acc F := RepOs.same (s3.trans s4) ro
              have hD4 : H4 D = some (.lst acc) := (s3.trans s4) _ _ hDl
              cases b with
              | false =>
                simp only [et] at hrest
                rw [if_neg Bool.false_ne_true]
                exact ⟨hlt, acc, F, os, rest, hD4, sm4, keep4, fr.up (s3.trans s4), nD, by omega, hrest, htot⟩
              | true =>
                simp only [et] at hrest
                rw [if_pos rfl]
                refine ⟨Fx, e1, G2.same s4, ?_⟩
                cases em : me e1 with
                | no => simp only [em] at hrest; cases hrest
                | ex x' => simp only [em] at hrest; cases hrest
                | ok yo =>
                  simp only [em] at hrest
                  intro v H5 F5 s5 r5 f5
                  by_cases hyo : ¬ (yo.own || fl) = true
                  · rw [if_neg hyo] at hrest; cases hrest
                  rw [if_pos (Classical.not_not.mp hyo)] at hrest
                  cases e2 : lcL fl asg t me (wipeE env (own.map (·.2))) (items.drop (i + 1)) with
                  | no => rw [e2] at hrest; cases hrest
                  | ex x' => rw [e2] at hrest; cases hrest
                  | ok ys =>
                    rw [e2] at hrest
                    cases hrest
                    have hD5 : H5 D = some (.lst acc) := s5 _ _ hD4
                    have nt : ∀ xs, H5 D ≠ some (.tup xs) := fun xs e => by rw [hD5] at e; cases e
                    have nD5 : ¬ F5 D := fun z => by rw [(f5 D z).1] at hD4; cases hD4
                    have sm5 := sm4.trans s5
                    refine ⟨acc, hD5, ?_, hlt, acc ++ [v], fun a => F a ∨ F5 a, os ++ [yo], ys, upd_same, smD sm5 (.inl (NT.lst hD5)), ?_, fun a z => ?_, fun z => z.elim nD nD5, by simp; omega, e2, by simpa using htot⟩
                    · rw [RepOs.length ro, sizeLine_eq]
                      have := szOk_le hz
                      rw [sizeLine_eq] at this
                      omega
                    · refine RepOs.append (fun a z z2 => ?_) (RepOs.updD nD nS nt (RepOs.same s5 keep4)) ?_
                      · exact ((fr.up (s3.trans s4)) a z).2.ne (f5 a z2).1
                      · simp only [RepOs]
                        exact ⟨v, [], F5, fun _ => False, rfl, fun _ z => z, fun _ z => z.elim, fun _ _ z => z, RepO.updD nD5 nS nt r5, rfl⟩
                    · have ne : a ≠ D := fun e => z.elim (fun q => nD (e ▸ q)) fun q => nD5 (e ▸ q)
                      rcases z with z | z
                      · refine ⟨(fr a z).1, ?_⟩
                        rw [upd_ne ne]
                        exact ((fr.up (s3.trans s4)).up s5 a z).2
                      · refine ⟨sm4.free (f5 a z).1, ?_⟩
                        rw [upd_ne ne]
                        exact (f5 a z).2
      · have ei : i = items.length := by omega
        subst ei
        rw [List.drop_length] at hrest
        cases hrest
        rw [List.append_nil] at htot
        subst htot
        refine .inl ⟨hJ.2 H2 sm, h (.ref D) H2 (fun a => a = D ∨ F a) (s1.trans sm |> fun q => q) ?_ fun a z => ?_⟩
        · simp only [RepO]
          refine ⟨D, acc, F, rfl, hDl, .inl rfl, nD, fun _ z => .inr z, ?_⟩
          rcases lcL_len el with q | q
          · refine RepOs.keep (w := wx w Fx) (w' := w) (p := fun _ => false) rfl (fun k _ => KeepS.same (Same.refl _) ?_) (fun _ _ e => e) (O.nos_none _) (fun _ _ _ e _ => e) ro
            cases k with
            | fz => exact fun a z => z.elim id fun z => absurd z (hfl q a)
            | bo => exact fun _ z => z
            | tb => exact fun a z => z.elim id fun z => absurd z (hfl q a)
          · exact RepOs.own (w := wx w Fx) (w' := w) rfl q ro
        · rcases z with rfl | z
          · exact ⟨s1.free hD, NT.lst hDl⟩
          · exact ⟨s1.free (fr a z).1, (fr a z).2⟩
theorem lc_read (hcm : X.calm = true) (hi : VJ X tg iter src)
    (hg : ∀ (s : Shared) (H : Hp) (C : Addr) (cl : List (Str × Addr)) (fp : List Addr), VG (X.blk s H scope (compEnvC scope cl C X.env) fp) (own.map (·.2)) tg g asg) (ht : ∀ (s : Shared) (H : Hp) (C : Addr) (cl : List (Str × Addr)) (fp : List Addr), VTs (X.blk s H scope (compEnvC scope cl C X.env) fp) ifs t)
    (he : ∀ (s : Shared) (H : Hp) (C : Addr) (cl : List (Str × Addr)) (fp : List Addr), VE (X.blk s H scope (compEnvC scope cl C X.env) fp) elt me) {W : WX} (tk : Takes X W) {w : Wd} (hc : ClOk X w.cl) :
    ∃ (wi : TI) (tt : TT) (te : TE), PI X tg iter wi ∧ (∀ (s : Shared) (H : Hp) (C : Addr) (cl : List (Str × Addr)) (fp : List Addr), PTs (X.blk s H scope (compEnvC scope cl C X.env) fp) ifs tt) ∧ (∀ (s : Shared) (H : Hp) (C : Addr) (cl : List (Str × Addr)) (fp : List Addr), PE (X.blk s H scope (compEnvC scope cl C X.env) fp) elt te) ∧
      ∀ (σ : L2.St) (H : Hp) (Q : VK), ∀ s0 : Shared, rE w W (gLc (own.map (·.2)) src asg t me) σ H Q → tLc wi g tt te (own.map (·.2)) σ H Q := by
  obtain ⟨wi, hwi, hsrc⟩ := hi W tk w hc
  have hc0 := ClOk.ok0 hcm hc
  have hcb : ∀ (Fx : Addr → Prop) (s : Shared) (H : Hp) (C : Addr) (cl : List (Str × Addr)) (fp : List Addr), ClOk (X.blk s H scope (compEnvC scope cl C X.env) fp) (wx w Fx).cl := fun _ _ _ _ _ _ => ⟨hc0.1, fun a Ca d q => absurd q (hc0.2 a Ca d)⟩
  refine ⟨wi, _, _, hwi, fun s H C cl fp => ttW_p (ht s H C cl fp) fun Fx => hcb Fx s H C cl fp, fun s H C cl fp => teW_p (he s H C cl fp) fun Fx => hcb Fx s H C cl fp, fun σ H Q s0 h => ?_⟩
  obtain ⟨env, G, h⟩ := rE_to h
  exact lc_at (hg s0 H 0 [] []).2 G (fun Q' => hsrc env σ H Q' G) h
theorem ve_lc (hcm : X.calm = true) (hN : X.N.Nodup) (ok : BlkOk X.N X.env.scope scope own) (hi : VJ X tg iter src)
    (hg : ∀ (s : Shared) (H : Hp) (C : Addr) (cl : List (Str × Addr)) (fp : List Addr), VG (X.blk s H scope (compEnvC scope cl C X.env) fp) (own.map (·.2)) tg g asg) (ht : ∀ (s : Shared) (H : Hp) (C : Addr) (cl : List (Str × Addr)) (fp : List Addr), VTs (X.blk s H scope (compEnvC scope cl C X.env) fp) ifs t)
    (he : ∀ (s : Shared) (H : Hp) (C : Addr) (cl : List (Str × Addr)) (fp : List Addr), VE (X.blk s H scope (compEnvC scope cl C X.env) fp) elt me) (hs : ∀ x, foldedSetIterable iter X.env x = pure x := by intro _; rfl) :
    VE X (.ListComp elt [⟨tg, iter, ifs, 0⟩] scope pos) (gLc (own.map (·.2)) src asg t me) := fun W tk w hc => by
  obtain ⟨wi, tt, te, h1, h2, h3, h4⟩ := lc_read hcm hi hg ht he tk hc
  exact ⟨fun pins s σ H Q I h => (pe_lc hcm hN h1 ok (fun s H C cl fp => (hg s H C cl fp).1) h2 h3 hs).run pins s σ H Q I (h4 σ H Q s h)⟩
theorem vs_setLc {i : Nat} {y : Str} {py spos : Pos} {P : List Nat} (fr : Bool) (hcm : X.calm = true) (hN : X.N.Nodup) (ok : BlkOk X.N X.env.scope scope own) (hi : VJ X tg iter src)
    (hg : ∀ (s : Shared) (H : Hp) (C : Addr) (cl : List (Str × Addr)) (fp : List Addr), VG (X.blk s H scope (compEnvC scope cl C X.env) fp) (own.map (·.2)) tg g asg) (ht : ∀ (s : Shared) (H : Hp) (C : Addr) (cl : List (Str × Addr)) (fp : List Addr), VTs (X.blk s H scope (compEnvC scope cl C X.env) fp) ifs t)
    (he : ∀ (s : Shared) (H : Hp) (C : Addr) (cl : List (Str × Addr)) (fp : List Addr), VE (X.blk s H scope (compEnvC scope cl C X.env) fp) elt me) (hy : X.N[i]? = some y := by rfl) (hyl : X.env.scope.names.lookup y = some .local := by rfl)
    (hsw : swapsWith (.ListComp elt [⟨tg, iter, ifs, 0⟩] scope pos) (some (.Name y py)) spos.line X.env = pure true := by rfl) (hP : P.contains i = false := by rfl) (hs : ∀ x, foldedSetIterable iter X.env x = pure x := by intro _; rfl) :
    VS X P (.Assign [.Name y py] (.ListComp elt [⟨tg, iter, ifs, 0⟩] scope pos) spos) (if fr then sSetZ i (pur (gLc (own.map (·.2)) src asg t me)) else sSet i (pur (gLc (own.map (·.2)) src asg t me))) := fun W tk f hf => by
  refine ⟨fun pins s σ H D I h => ?_⟩
  obtain ⟨env, ⟨Z, Fs, g⟩, h⟩ := rS_to h
  obtain ⟨wi, tt, te, h1, h2, h3, h4⟩ := lc_read hcm hi hg ht he tk (w := tw f Z Fs) hf.1
  refine (ps_setLc hcm hN hy hyl hsw h1 ok (fun s H C cl fp => (hg s H C cl fp).1) h2 h3 hs).run pins s σ H D I (h4 σ H _ s (rE_of g.goodE ?_))
  have key : SOut f W D ((pur (gLc (own.map (·.2)) src asg t me) env).bind fun o e => match (if fr then frzO o else some o) with
      | some o' => if i < e.length then .ok .next (e.set i (some o')) else .no
      | none => .no) := by
    cases fr with
    | true => exact h
    | false => exact h
  unfold pur at key
  cases e : gLc (own.map (·.2)) src asg t me (dl env) with
  | no => rw [e] at key; exact key
  | ex x =>
    rw [e] at key
    simp only at key
    split at key
    · rename_i n
      exact fun cls d H' F sm r fx => key cls d σ H' ⟨Z, Fs, F, g.same sm, RepX.unlend n r, g.fresh fx⟩
    · exact key.elim
  | ok o =>
    rw [e] at key
    simp only at key
    split at key
    · rename_i n
      intro v H' F sm r fx
      have gv : GoodV f env o v σ H' := ⟨Z, Fs, F, g.same sm, RepO.unlend n r, g.fresh fx⟩
      simp only [RX.bind] at key
      split at key
      · rename_i o' eo
        split at key
        · rename_i hlt
          refine key _ H' (GoodV.set (o := o') ?_ hlt (pin_ne hf.2 hP))
          cases fr with
          | true => exact gv.fz (by simpa using eo)
          | false =>
            have : o = o' := by simpa using eo
            subst this; exact gv
        · exact key.elim
      · exact key.elim
    · exact key.elim
end
end VL
namespace VL
open PySem PySem.Spec PyProof.Rows L2
def O.kid : O → Nat → Option O
  | .lst xs, n => xs[n]?
  | .tup xs, n => xs[n]?
  | .dct _ xs, n => xs[n]?
  | .dcT _ xs, n => xs[n]?
  | .obj _ _ xs, n => xs[n]?
  | _, _ => none
def O.setKid : O → Nat → O → O
  | .lst xs, n, s => .lst (xs.set n s)
  | .tup xs, n, s => .tup (xs.set n s)
  | .dct ks xs, n, s => .dct ks (xs.set n s)
  | .dcT ks xs, n, s => .dcT ks (xs.set n s)
  | .obj C fs xs, n, s => .obj C fs (xs.set n s)
  | o, _, _ => o
def O.at : O → List Nat → Option O
  | o, [] => some o
  | o, n :: p => (o.kid n).bind fun k => k.at p
def O.put : O → List Nat → O → O
  | _, [], s => s
  | o, n :: p, s => match o.kid n with
    | some k => o.setKid n (k.put p s)
    | none => o
def kidV (H : Hp) (v : V) (n : Nat) : Option V := match v with
  | .ref a => (match H a with
    | some (.lst xs) => xs[n]?
    | some (.tup xs) => xs[n]?
    | some (.dK kvs) => (kvs.map (·.2))[n]?
    | some (.dT kvs) => (kvs.map (·.2))[n]?
    | some (.ins _ _ kvs) => (kvs.map (·.2))[n]?
    | _ => none)
  | _ => none
def walkV (H : Hp) : V → List Nat → Option V
  | v, [] => some v
  | v, n :: p => (kidV H v n).bind fun k => walkV H k p
structure KpW (w : Wd) (H H' : Hp) (R : Addr → Prop) : Prop where
  reg : ∀ a u, R a → H a = some u → H' a = some u
  ks : ∀ k, KeepS H H' (w.S k) (w.S k)
  tp : ∀ a xs, H a = some (.tup xs) → H' a = some (.tup xs)
theorem KpW.o {w : Wd} {H H' : Hp} {R : Addr → Prop} (k : KpW w H H' R) {o : O} {v : V} {F : Addr → Prop} (s : Sub F R) (h : RepO w H o v F) : RepO w H' o v F :=
  RepO.keep (w := w) (w' := w) (p := fun _ => false) rfl (fun x _ => k.ks x) k.tp (O.no_none o) (fun a u z e _ => k.reg a u (s a z) e) h
theorem KpW.os {w : Wd} {H H' : Hp} {R : Addr → Prop} (k : KpW w H H' R) {o : List O} {v : List V} {F : Addr → Prop} (s : Sub F R) (h : RepOs w H o v F) : RepOs w H' o v F :=
  RepOs.keep (w := w) (w' := w) (p := fun _ => false) rfl (fun x _ => k.ks x) k.tp (O.nos_none o) (fun a u z e _ => k.reg a u (s a z) e) h
theorem KpW.sub {w : Wd} {H H' : Hp} {R R' : Addr → Prop} (k : KpW w H H' R) (s : Sub R' R) : KpW w H H' R' := ⟨fun a u z => k.reg a u (s a z), k.ks, k.tp⟩
abbrev swapF (F Fs Fs' : Addr → Prop) : Addr → Prop := fun a => (F a ∧ ¬ Fs a) ∨ Fs' a
theorem RepOs.focus {w : Wd} {H : Hp} : ∀ {os : List O} {vs : List V} {F : Addr → Prop} {n : Nat} {s : O}, RepOs w H os vs F → os[n]? = some s → ∃ v Fs, vs[n]? = some v ∧ RepO w H s v Fs ∧ Sub Fs F ∧
    ∀ H' s' Fs', KpW w H H' (fun a => F a ∧ ¬ Fs a) → RepO w H' s' v Fs' → (∀ a, Fs' a → F a → Fs a) → RepOs w H' (os.set n s') vs (swapF F Fs Fs')
  | [], vs, F, n, s, h, e => by simp at e
  | x :: os, vs, F, 0, s, h, e => by
    simp only [RepOs] at h
    obtain ⟨v, r, F1, F2, rfl, s1, s2, d, h1, h2⟩ := h
    simp at e; subst e
    refine ⟨v, F1, rfl, h1, s1, fun H' s' Fs' k h' hd => ?_⟩
    simp only [List.set_cons_zero, RepOs]
    refine ⟨v, r, Fs', F2, rfl, fun a z => .inr z, fun a z => .inl ⟨s2 a z, fun q => d a q z⟩, fun a z z2 => d a (hd a z (s2 a z2)) z2, h', k.os (fun a z => ⟨s2 a z, fun q => d a q z⟩) h2⟩
  | x :: os, vs, F, n + 1, s, h, e => by
    simp only [RepOs] at h
    obtain ⟨v, r, F1, F2, rfl, s1, s2, d, h1, h2⟩ := h
    obtain ⟨v', Fs, ev, hs, sF, upd⟩ := RepOs.focus h2 (show os[n]? = some s by simpa using e)
    refine ⟨v', Fs, by simpa using ev, hs, fun a z => s2 a (sF a z), fun H' s' Fs' k h' hd => ?_⟩
    have u := upd H' s' Fs' (k.sub fun a z => ⟨s2 a z.1, z.2⟩) h' fun a z q => hd a z (s2 a q)
    simp only [List.set_cons_succ, RepOs]
    refine ⟨v, r, F1, _, rfl, fun a z => .inl ⟨s1 a z, fun q => d a z (sF a q)⟩, ?_, ?_, k.o (fun a z => ⟨s1 a z, fun q => d a z (sF a q)⟩) h1, u⟩
    · rintro a (z | z)
      · exact .inl ⟨s2 a z.1, z.2⟩
      · exact .inr z
    · rintro a z (q | q)
      · exact d a z q.1
      · exact d a z (sF a (hd a q (s1 a z)))
theorem RepO.focus {w : Wd} {H : Hp} : ∀ {p : List Nat} {o : O} {v : V} {F : Addr → Prop} {s : O}, RepO w H o v F → o.at p = some s → ∃ vs Fs, walkV H v p = some vs ∧ RepO w H s vs Fs ∧ Sub Fs F ∧
    ∀ H' s' Fs', KpW w H H' (fun a => F a ∧ ¬ Fs a) → RepO w H' s' vs Fs' → (∀ a, Fs' a → F a → Fs a) → RepO w H' (o.put p s') v (swapF F Fs Fs')
  | [], o, v, F, s, h, e => by
    cases e
    refine ⟨v, F, rfl, h, fun _ z => z, fun H' s' Fs' k h' hd => RepO.mono (fun a z => .inr z) h'⟩
  | n :: p, .lf k d, v, F, s, h, e => by cases e
  | n :: p, .xn C fs ds, v, F, s, h, e => by cases e
  | n :: p, .xo C fs ds, v, F, s, h, e => by cases e
  | n :: p, .lst xs, v, F, s, h, e => by
    simp only [RepO] at h
    obtain ⟨a, us, G, rfl, r, fa, ga, sg, q⟩ := h
    simp only [O.at, O.kid] at e
    cases ek : xs[n]? with
    | none => rw [ek] at e; cases e
    | some kd =>
      rw [ek] at e
      obtain ⟨v1, F1, ev, hk, sF, updO⟩ := RepOs.focus q ek
      obtain ⟨vs, Fs, ew, hs, sF1, updI⟩ := RepO.focus (p := p) hk e
      refine ⟨vs, Fs, ?_, hs, fun b z => sg b (sF b (sF1 b z)), fun H' s' Fs' k h' hd => ?_⟩
      · simp only [walkV, kidV, r, ev, Option.bind_some]; exact ew
      · have h1 := updI H' s' Fs' (k.sub fun b z => ⟨sg b (sF b z.1), z.2⟩) h' fun b z q => hd b z (sg b (sF b q))
        have h2 := updO H' _ _ (k.sub fun b z => ⟨sg b z.1, fun q => z.2 (sF1 b q)⟩) h1 (fun b z q => z.elim (fun z => z.1) fun z => sF1 b (hd b z (sg b q)))
        simp only [O.put, O.kid, ek, O.setKid, RepO]
        have na : ¬ Fs a := fun z => ga (sF a (sF1 a z))
        refine ⟨a, us, _, rfl, k.reg a _ ⟨fa, na⟩ r, .inl ⟨fa, na⟩, ?_, ?_, h2⟩
        · rintro (z | z | z)
          · exact ga z.1
          · exact ga (sF a z.1)
          · exact na (hd a z fa)
        · rintro b (z | z | z)
          · exact .inl ⟨sg b z.1, fun q => z.2 (sF1 b q)⟩
          · exact .inl ⟨sg b (sF b z.1), z.2⟩
          · exact .inr z
  | n :: p, .tup xs, v, F, s, h, e => by
    simp only [RepO] at h
    obtain ⟨a, us, rfl, r, q⟩ := h
    simp only [O.at, O.kid] at e
    cases ek : xs[n]? with
    | none => rw [ek] at e; cases e
    | some kd =>
      rw [ek] at e
      obtain ⟨v1, F1, ev, hk, sF, updO⟩ := RepOs.focus q ek
      obtain ⟨vs, Fs, ew, hs, sF1, updI⟩ := RepO.focus (p := p) hk e
      refine ⟨vs, Fs, ?_, hs, fun b z => sF b (sF1 b z), fun H' s' Fs' k h' hd => ?_⟩
      · simp only [walkV, kidV, r, ev, Option.bind_some]; exact ew
      · have h1 := updI H' s' Fs' (k.sub fun b z => ⟨sF b z.1, z.2⟩) h' fun b z q => hd b z (sF b q)
        have h2 := updO H' _ _ (k.sub fun b z => ⟨z.1, fun q => z.2 (sF1 b q)⟩) h1 (fun b z q => z.elim (fun z => z.1) fun z => sF1 b (hd b z q))
        simp only [O.put, O.kid, ek, O.setKid, RepO]
        refine ⟨a, us, rfl, k.tp a us r, RepOs.mono ?_ h2⟩
        rintro b (z | z | z)
        · exact .inl ⟨z.1, fun q => z.2 (sF1 b q)⟩
        · exact .inl ⟨sF b z.1, z.2⟩
        · exact .inr z
  | n :: p, .dct ks xs, v, F, s, h, e => by
    simp only [RepO] at h
    obtain ⟨a, us, G, rfl, r, ez, fa, ga, sg, q⟩ := h
    simp only [O.at, O.kid] at e
    cases ek : xs[n]? with
    | none => rw [ek] at e; cases e
    | some kd =>
      rw [ek] at e
      obtain ⟨v1, F1, ev, hk, sF, updO⟩ := RepOs.focus q ek
      obtain ⟨vs, Fs, ew, hs, sF1, updI⟩ := RepO.focus (p := p) hk e
      refine ⟨vs, Fs, ?_, hs, fun b z => sg b (sF b (sF1 b z)), fun H' s' Fs' k h' hd => ?_⟩
      · simp only [walkV, kidV, r, ev, Option.bind_some]; exact ew
      · have h1 := updI H' s' Fs' (k.sub fun b z => ⟨sg b (sF b z.1), z.2⟩) h' fun b z q => hd b z (sg b (sF b q))
        have h2 := updO H' _ _ (k.sub fun b z => ⟨sg b z.1, fun q => z.2 (sF1 b q)⟩) h1 (fun b z q => z.elim (fun z => z.1) fun z => sF1 b (hd b z (sg b q)))
        simp only [O.put, O.kid, ek, O.setKid, RepO]
        have na : ¬ Fs a := fun z => ga (sF a (sF1 a z))
        refine ⟨a, us, _, rfl, k.reg a _ ⟨fa, na⟩ r, ez, .inl ⟨fa, na⟩, ?_, ?_, h2⟩
        · rintro (z | z | z)
          · exact ga z.1
          · exact ga (sF a z.1)
          · exact na (hd a z fa)
        · rintro b (z | z | z)
          · exact .inl ⟨sg b z.1, fun q => z.2 (sF1 b q)⟩
          · exact .inl ⟨sg b (sF b z.1), z.2⟩
          · exact .inr z
  | n :: p, .dcT ks xs, v, F, s, h, e => by
    simp only [RepO] at h
    obtain ⟨a, us, G, rfl, r, ez, fa, ga, sg, q⟩ := h
    simp only [O.at, O.kid] at e
    cases ek : xs[n]? with
    | none => rw [ek] at e; cases e
    | some kd =>
      rw [ek] at e
      obtain ⟨v1, F1, ev, hk, sF, updO⟩ := RepOs.focus q ek
      obtain ⟨vs, Fs, ew, hs, sF1, updI⟩ := RepO.focus (p := p) hk e
      refine ⟨vs, Fs, ?_, hs, fun b z => sg b (sF b (sF1 b z)), fun H' s' Fs' k h' hd => ?_⟩
      · simp only [walkV, kidV, r, ev, Option.bind_some]; exact ew
      · have h1 := updI H' s' Fs' (k.sub fun b z => ⟨sg b (sF b z.1), z.2⟩) h' fun b z q => hd b z (sg b (sF b q))
        have h2 := updO H' _ _ (k.sub fun b z => ⟨sg b z.1, fun q => z.2 (sF1 b q)⟩) h1 (fun b z q => z.elim (fun z => z.1) fun z => sF1 b (hd b z (sg b q)))
        simp only [O.put, O.kid, ek, O.setKid, RepO]
        have na : ¬ Fs a := fun z => ga (sF a (sF1 a z))
        refine ⟨a, us, _, rfl, k.reg a _ ⟨fa, na⟩ r, ez, .inl ⟨fa, na⟩, ?_, ?_, h2⟩
        · rintro (z | z | z)
          · exact ga z.1
          · exact ga (sF a z.1)
          · exact na (hd a z fa)
        · rintro b (z | z | z)
          · exact .inl ⟨sg b z.1, fun q => z.2 (sF1 b q)⟩
          · exact .inl ⟨sg b (sF b z.1), z.2⟩
          · exact .inr z
  | n :: p, .obj C fs xs, v, F, s, h, e => by
    simp only [RepO] at h
    obtain ⟨a, Ca, dx, us, G, rfl, cc, r, ez, fa, ga, sg, q⟩ := h
    simp only [O.at, O.kid] at e
    cases ek : xs[n]? with
    | none => rw [ek] at e; cases e
    | some kd =>
      rw [ek] at e
      obtain ⟨v1, F1, ev, hk, sF, updO⟩ := RepOs.focus q ek
      obtain ⟨vs, Fs, ew, hs, sF1, updI⟩ := RepO.focus (p := p) hk e
      refine ⟨vs, Fs, ?_, hs, fun b z => sg b (sF b (sF1 b z)), fun H' s' Fs' k h' hd => ?_⟩
      · simp only [walkV, kidV, r, ev, Option.bind_some]; exact ew
      · have h1 := updI H' s' Fs' (k.sub fun b z => ⟨sg b (sF b z.1), z.2⟩) h' fun b z q => hd b z (sg b (sF b q))
        have h2 := updO H' _ _ (k.sub fun b z => ⟨sg b z.1, fun q => z.2 (sF1 b q)⟩) h1 (fun b z q => z.elim (fun z => z.1) fun z => sF1 b (hd b z (sg b q)))
        simp only [O.put, O.kid, ek, O.setKid, RepO]
        have na : ¬ Fs a := fun z => ga (sF a (sF1 a z))
        refine ⟨a, Ca, dx, us, _, rfl, cc, k.reg a _ ⟨fa, na⟩ r, ez, .inl ⟨fa, na⟩, ?_, ?_, h2⟩
        · rintro (z | z | z)
          · exact ga z.1
          · exact ga (sF a z.1)
          · exact na (hd a z fa)
        · rintro b (z | z | z)
          · exact .inl ⟨sg b z.1, fun q => z.2 (sF1 b q)⟩
          · exact .inl ⟨sg b (sF b z.1), z.2⟩
          · exact .inr z
end VL
namespace VL
open PySem PySem.Spec PyProof.Rows L2
def getP (env : VEnv) (i : Nat) (p : List Nat) : Option O := match env[i]? with
  | some (some o) => o.at p
  | _ => none
def setP (env : VEnv) (i : Nat) (p : List Nat) (s : O) : VEnv := match env[i]? with
  | some (some o) => env.set i (some (o.put p s))
  | _ => env
theorem getP_some {env : VEnv} {i : Nat} {p : List Nat} {s : O} (h : getP env i p = some s) : ∃ o, env[i]? = some (some o) ∧ o.at p = some s := by
  unfold getP at h
  split at h
  · rename_i o e; exact ⟨o, e, h⟩
  · cases h
theorem setP_some {env : VEnv} {i : Nat} {p : List Nat} {s : O} {o : O} (h : env[i]? = some (some o)) : setP env i p s = env.set i (some (o.put p s)) := by
  unfold setP; rw [h]
section
variable {f : Fm} {Z : Addr → Prop} {Fs : Nat → Addr → Prop} {env : VEnv} {σ : L2.St} {H : Hp}
theorem GoodAt.place {i : Nat} {p : List Nat} {s : O} (g : GoodAt f Z Fs env σ H) (h : getP env i p = some s) : ∃ v0 vs Fp, σ[i]? = some (some v0) ∧ walkV H v0 p = some vs ∧ RepO (f.w Z) H s vs Fp ∧ Sub Fp (Fs i) ∧
    ∀ (H' : Hp) (s' : O) (F' Xf : Addr → Prop), Extra f Z Fs H Xf → (∀ b u, H b = some u → ¬ Fp b → H' b = some u) → (∀ b, H b ≠ none → H' b ≠ none) → (∀ b, F' b → Fp b ∨ Xf b) → (∀ b, F' b → NT (H' b)) → RepO (f.w Z) H' s' vs F' →
      GoodAt f Z (fun j b => if j = i then swapF (Fs i) Fp F' b else Fs j b) (setP env i p s') σ H' := by
  obtain ⟨o, eo, es⟩ := getP_some h
  obtain ⟨v0, ev, r⟩ := g.rep i o eo
  obtain ⟨vs, Fp, ew, hs, sF, upd⟩ := RepO.focus r es
  refine ⟨v0, vs, Fp, ev, ew, hs, sF, fun H' s' F' Xf x hk ht hF hN hr => ?_⟩
  have nx : ∀ b, Fp b → NT (H b) := fun b q => (g.own i b (sF b q)).2.2
  have tup : ∀ a xs, H a = some (.tup xs) → H' a = some (.tup xs) := fun a xs e => hk a _ e fun q => by
    obtain ⟨u, e', n⟩ := (g.own i a (sF a q)).2.2
    rw [e] at e'; cases e'; exact n
  have keepS : ∀ S : Addr → Prop, (∀ a, S a → ¬ Fp a) → KeepS H H' S S := fun S hS =>
    ⟨fun a u z r _ => ⟨z, r.elim (fun e => .inl (hk a _ e (hS a z))) fun ⟨q, e⟩ => .inr ⟨q, hk a _ e (hS a z)⟩⟩, fun a C dx fs z e => hk a _ e (hS a z), tup, fun a xs z e => hk a _ e (hS a z), fun a xs z e => hk a _ e (hS a z)⟩
  have kw : ∀ k, KeepS H H' ((f.w Z).S k) ((f.w Z).S k) := fun k => keepS _ fun a z q => by
    cases k with
    | fz => exact (g.own i a (sF a q)).1 z
    | bo => exact (g.own i a (sF a q)).2.1 z
    | tb => exact z
  have hd : ∀ a, F' a → Fs i a → Fp a := fun a z q => (hF a z).elim id fun w => absurd q ((x a w).2.2.2.2 i)
  have up := upd H' s' F' ⟨fun a u z e => hk a u e z.2, kw, tup⟩ hr hd
  have hi : i < env.length := (List.getElem?_eq_some_iff.mp eo).1
  rw [setP_some eo]
  refine ⟨fun j q e => ?_, fun j k a n z z' => ?_, fun j a z => ?_, fun a z => ht a (g.zal a z), fun a z => ht a (g.bal a z), fun a u e n => (g.keep a u e n).butF nx hk fun _ q => ?_, ⟨fun a n => ht a (g.there.1 a n), fun P q t => (g.there.2 P q t).butF nx hk⟩, fun j a z => ?_, g.znew, g.zold, g.pin, by simpa using g.len⟩
  · by_cases hj : j = i
    · subst hj
      rw [List.getElem?_set_self hi] at e
      cases e
      exact ⟨v0, ev, by simpa using up⟩
    · rw [List.getElem?_set_ne (Ne.symm hj)] at e
      obtain ⟨v', ev', r'⟩ := g.rep j q e
      refine ⟨v', ev', ?_⟩
      have : RepO (f.w Z) H' q v' (Fs j) := RepO.keep (w := f.w Z) (w' := f.w Z) (p := fun _ => false) rfl (fun k _ => kw k) tup (O.no_none q) (fun a u z e _ => hk a u e fun w => g.dis i j a (fun q => hj q.symm) (sF a w) z) r'
      simpa [hj] using this
  · replace z : if j = i then swapF (Fs i) Fp F' a else Fs j a := z
    replace z' : if k = i then swapF (Fs i) Fp F' a else Fs k a := z'
    split at z <;> split at z'
    · rename_i e e'; exact n (e.trans e'.symm)
    · rename_i e e'
      rcases z with z | z
      · exact g.dis i k a (fun q => e' q.symm) z.1 z'
      · rcases hF a z with w | w
        · exact g.dis i k a (fun q => e' q.symm) (sF a w) z'
        · exact (x a w).2.2.2.2 k z'
    · rename_i e e'
      rcases z' with z' | z'
      · exact g.dis i j a (fun q => e q.symm) z'.1 z
      · rcases hF a z' with w | w
        · exact g.dis i j a (fun q => e q.symm) (sF a w) z
        · exact (x a w).2.2.2.2 j z
    · exact g.dis j k a n z z'
  · replace z : if j = i then swapF (Fs i) Fp F' a else Fs j a := z
    have ntk : ∀ {b : Addr}, NT (H b) → ¬ Fp b → NT (H' b) := fun {b} ⟨u, e, n⟩ q => ⟨u, hk b u e q, n⟩
    split at z
    · rcases z with z | z
      · exact ⟨(g.own i a z.1).1, (g.own i a z.1).2.1, ntk (g.own i a z.1).2.2 z.2⟩
      · rcases hF a z with w | w
        · exact ⟨(g.own i a (sF a w)).1, (g.own i a (sF a w)).2.1, hN a z⟩
        · exact ⟨(x a w).1, (x a w).2.1, hN a z⟩
    · rename_i hj
      exact ⟨(g.own j a z).1, (g.own j a z).2.1, ntk (g.own j a z).2.2 fun w => g.dis i j a (fun q => hj q.symm) (sF a w) z⟩
  · rcases g.fnew i a (sF a q) with z | z
    · exact n z
    · rw [e] at z; cases z
  · replace z : if j = i then swapF (Fs i) Fp F' a else Fs j a := z
    split at z
    · rcases z with z | z
      · exact g.fnew i a z.1
      · rcases hF a z with w | w
        · exact g.fnew i a (sF a w)
        · exact (x a w).2.2.2.1
    · exact g.fnew j a z
theorem GoodAt.putL {i : Nat} {p : List Nat} {os : List O} (g : GoodAt f Z Fs env σ H) (h : getP env i p = some (.lst os)) : ∃ v0 a xs G, σ[i]? = some (some v0) ∧ walkV H v0 p = some (.ref a) ∧ H a = some (.lst xs) ∧ RepOs (f.w Z) H os xs G ∧ ¬ G a ∧ (∀ b, G b → Fs i b) ∧ Fs i a ∧
    ∀ (os' : List O) (xs' : List V) (G' Xf : Addr → Prop), Extra f Z Fs H Xf → (∀ b, G' b → G b ∨ Xf b) → RepOs (f.w Z) H os' xs' G' →
      ∃ Fs', GoodAt f Z Fs' (setP env i p (.lst os')) σ (upd H a (.lst xs')) ∧ (∀ b, b ≠ a → ¬ G' b → (∀ j, ¬ Fs j b) ∨ G b → ∀ j, ¬ Fs' j b) := by
  obtain ⟨v0, vs, Fp, ev, ew, hs, sF, upd_⟩ := g.place h
  simp only [RepO] at hs
  obtain ⟨a, xs, G, rfl, ha, fa, ga, sg, q⟩ := hs
  have hS : ∀ k, ¬ (f.w Z).S k a := fun k z => by
    cases k with
    | fz => exact (g.own i a (sF a fa)).1 z
    | bo => exact (g.own i a (sF a fa)).2.1 z
    | tb => exact z
  have nt : ∀ ys, H a ≠ some (.tup ys) := fun ys e => by rw [ha] at e; cases e
  refine ⟨v0, a, xs, G, ev, ew, ha, q, ga, fun b z => sF b (sg b z), sF a fa, fun os' xs' G' Xf x hG hr => ?_⟩
  have nG' : ¬ G' a := fun z => (hG a z).elim ga fun w => (x a w).2.2.2.2 i (sF a fa)
  have hk : ∀ b u, H b = some u → ¬ Fp b → (upd H a (.lst xs')) b = some u := fun b u e n => by rw [upd_ne (fun (q : b = a) => n (q ▸ fa))]; exact e
  have hn : ∀ b, H b ≠ none → (upd H a (.lst xs')) b ≠ none := fun b n => by
    by_cases hb : b = a
    · rw [hb, upd_same]; exact fun q => nomatch q
    · rw [upd_ne hb]; exact n
  have hnt : ∀ b, NT (H b) → NT ((upd H a (.lst xs')) b) := fun b n => by
    by_cases hb : b = a
    · rw [hb, upd_same]; exact NT.lst rfl
    · rw [upd_ne hb]; exact n
  refine ⟨_, upd_ (upd H a (.lst xs')) (.lst os') (fun b => b = a ∨ G' b) Xf x hk hn (fun b z => z.elim (fun q => .inl (q ▸ fa)) fun w => (hG b w).imp (sg b) id) (fun b z => ?_) ?_, fun b hb nb hh j z => ?_⟩
  · rcases z with rfl | z
    · rw [upd_same]; exact NT.lst rfl
    · refine hnt b ?_
      rcases hG b z with w | w
      · exact (g.own i b (sF b (sg b w))).2.2
      · exact (x b w).2.2.1
  · simp only [RepO]
    exact ⟨a, xs', G', rfl, upd_same, .inl rfl, nG', fun _ z => .inr z, RepOs.updD nG' hS nt hr⟩
  · replace z : if j = i then swapF (Fs i) Fp (fun b => b = a ∨ G' b) b else Fs j b := z
    split at z
    · rcases z with z | z | z
      · rcases hh with hh | hh
        · exact hh i z.1
        · exact z.2 (sg b hh)
      · exact hb z
      · exact nb z
    · rename_i hj
      rcases hh with hh | hh
      · exact hh j z
      · exact g.dis i j b (fun q => hj q.symm) (sF b (sg b hh)) z
end
end VL
namespace VL
open PySem PySem.Spec PyProof.Rows L2
theorem kidV_same {H H' : Hp} {v u : V} {n : Nat} (s : Same H H') (h : kidV H v n = some u) : kidV H' v n = some u := by
  unfold kidV at h ⊢
  split at h
  · split at h
    · rename_i e; rw [s _ _ e]; exact h
    · rename_i e; rw [s _ _ e]; exact h
    · rename_i e; rw [s _ _ e]; exact h
    · rename_i e; rw [s _ _ e]; exact h
    · rename_i e; rw [s _ _ e]; exact h
    · cases h
  · cases h
theorem walkV_same {H H' : Hp} (s : Same H H') : ∀ {p : List Nat} {v u : V}, walkV H v p = some u → walkV H' v p = some u
  | [], v, u, h => h
  | n :: p, v, u, h => by
    simp only [walkV] at h ⊢
    cases e : kidV H v n with
    | none => rw [e] at h; cases h
    | some k =>
      rw [e] at h
      rw [kidV_same s e]
      exact walkV_same s h
def rP (f : Fm) (mp : VEnv → Option (Nat × List Nat)) : TE := fun σ H Q => ∃ Z Fs env, GoodAt f Z Fs env σ H ∧ match mp env with
  | some (i, p) => ∀ v0 v H', σ[i]? = some (some v0) → Same H H' → walkV H' v0 p = some v → Q v H'
  | none => False
def VP (X : Cx) (P : List Nat) (e : Expr) (mp : VEnv → Option (Nat × List Nat)) : Prop := ∀ (W : WX), Takes X W → ∀ f : Fm, FOk X P f → PE X e (rP f mp)
def pName (i : Nat) : VEnv → Option (Nat × List Nat) := fun env => match env[i]? with
  | some (some _) => some (i, [])
  | _ => none
section
variable {X : Cx} {P : List Nat} {e a b : Expr} {es : List Expr} {mp : VEnv → Option (Nat × List Nat)} {ma mb : DEnv → R O} {mx : VEnv → RX O} {pos p : Pos} {x : Str}
theorem vp_name (i : Nat) {pos : Pos} (hN : X.N[i]? = some x := by rfl) (hv : Vis X.env.scope x := by first | exact Or.inl rfl | exact Or.inr (Or.inl rfl) | exact Or.inr (Or.inr rfl)) (hd : (x == ("__debug__" : Str)) = false := by decide)
    (hcd : (x == ("__classdict__" : Str)) = false := by decide) : VP X P (.Name x pos) (pName i) := fun W tk f hf => (pe_var hN hv hd hcd).imp fun σ H Q h => by
  obtain ⟨Z, Fs, env, g, h⟩ := h
  unfold pName at h
  split at h
  · rename_i i' p' e
    split at e
    · rename_i o eo
      cases e
      obtain ⟨v, ev, r⟩ := g.rep i o eo
      exact ⟨v, ev, h v v H ev (Same.refl H) rfl⟩
    · cases e
  · exact h.elim
def xApp (mp : VEnv → Option (Nat × List Nat)) (ma : DEnv → R O) : VEnv → RX O := fun env => match mp env with
  | none => .no
  | some (i, p) => match getP env i p with
    | some (.lst os) => (match ma (dl env) with
      | .ex x => if O.nos isTb x.xs then .ex x env else .no
      | .no => .no
      | .ok o => if o.no isTb && szOk (os.length + 1) then .ok (.lf .fz .non) (setP env i p (.lst (os ++ [o]))) else .no)
    | _ => .no
theorem GoodAt.is {f : Fm} {Z : Addr → Prop} {Fs : Nat → Addr → Prop} {env : VEnv} {σ : L2.St} {H : Hp} {i : Nat} {p : List Nat} {os : List O} {v0 v : V} (g : GoodAt f Z Fs env σ H) (h : getP env i p = some (.lst os)) (e0 : σ[i]? = some (some v0)) (ew : walkV H v0 p = some v) : ∃ a xs, v = .ref a ∧ H a = some (.lst xs) := by
  obtain ⟨v0', a, xs, G, ev, ew', ha, _⟩ := g.putL h
  rw [ev] at e0; cases e0
  rw [ew'] at ew; cases ew
  exact ⟨a, xs, rfl, ha⟩
theorem vx_append {apos cpos : Pos} (hp : VP X P e mp) (ha : VE X a ma) (hbase : attributeBase e "append" X.env (eval e X.env) = eval e X.env := by rfl)
    (hfew : ((backTo cpos (starEach [a] X.env)).all (fun x => !x.1) && (backToKw cpos (keywordEach [] X.env)).all (fun x => x.1.isSome)
      && decide ([a].length + ([] : List Keyword).length + (if ([] : List Keyword).isEmpty then 0 else 1) < 30)) = true := by rfl)
    (hline : (apos.endLine == cpos.line) = true := by rfl) (hs : starEach [a] X.env = (false, eval a X.env) :: starEach [] X.env := by rfl) (hplain : (backTo cpos (starEach [] X.env)).any (·.1) = false := by rfl) :
    VX X P (.Call (.Attribute e "append" apos) [a] [] cpos) (xApp mp ma) := fun W tk f hf => ⟨fun pins s σ H Q I h => by
  obtain ⟨env, ⟨Z, Fs, g⟩, h⟩ := h
  replace h : EOut f W σ (xApp mp ma env) Q := h
  refine (pe_bm PySem.F.plainAttrs_list PySem.F.slot_list_append PySem.F.type_list_append mt_append (hp W tk f hf) (pa_cons (ha.ef tk hf) pa_nil hs) hbase hfew hline hs hplain).run pins s σ H Q I ⟨Z, Fs, env, g, ?_⟩
  unfold xApp at h
  split at h
  · exact h.elim
  · rename_i i p em
    rw [em]
    split at h
    · rename_i os eg
      intro v0 v H1 ev s1 ew
      obtain ⟨a1, xs1, rfl, ha1⟩ := (g.same s1).is eg ev ew
      refine ⟨.inl ⟨rfl, xs1, SqL.of ha1⟩, Z, Fs, rE_of (g.same s1).goodE ?_⟩
      split at h
      · rename_i x ex
        rw [ex]
        split at h
        · rename_i n
          exact fun cls d H' F s r fr => h cls d H' ⟨Z, Fs, F, (g.same s1).same s, RepX.unlend n r, (g.same s1).fresh fr⟩
        · exact h.elim
      · exact h.elim
      · rename_i o eo
        rw [eo]
        split at h
        · rename_i hn
          rw [Bool.and_eq_true] at hn
          intro y H2 F2 s2 r2 f2
          have g2 := (g.same s1).same s2
          obtain ⟨v0', a, xs, G, ev', ew', hla, q, nG, sG, _, put⟩ := g2.putL eg
          rw [ev] at ev'; cases ev'
          have := (walkV_same s2 ew).symm.trans ew'
          cases this
          have x2 := (g.same s1).fresh f2
          have r2' := RepO.unlend hn.1 r2
          obtain ⟨Fs', g3, _⟩ := put (os ++ [o]) (xs ++ [y]) (fun b => G b ∨ F2 b) F2 x2 (fun _ z => z) (RepOs.append (fun b z z2 => (x2 b z2).2.2.2.2 i (sG b z)) q (by
            simp only [RepOs]
            exact ⟨y, [], F2, fun _ => False, rfl, fun _ z => z, fun _ z => z.elim, fun _ _ z => z, r2', rfl⟩))
          refine ⟨a1, xs, y, rfl, rfl, hla, ?_, h .non _ ⟨Z, Fs', fun _ => False, g3, by simp [RepO, Rep], fun _ z => z.elim⟩⟩
          rw [RepOs.length q, sizeLine_eq]
          have := szOk_le hn.2
          rw [sizeLine_eq] at this
          omega
        · exact h.elim
    · exact h.elim⟩
def sSetIx (mx : DEnv → R O) (mp : VEnv → Option (Nat × List Nat)) (mi : DEnv → R O) : VEnv → RS := fun env => match mx (dl env) with
  | .no => .no
  | .ex x => if O.nos isTb x.xs then .ex x env else .no
  | .ok o => match mp env with
    | none => .no
    | some (i, p) => match getP env i p, mi (dl env) with
      | some (.lst os), .ok oi => (match oi.er with
        | .int k => (match ixN os.length k with
          | some j => if o.no isTb then .ok .next (setP env i p (.lst (os.set j o))) else .no
          | none => .no)
        | _ => .no)
      | _, _ => .no
theorem RepOs.setAt {w : Wd} {H : Hp} {o : O} {v : V} {F1 : Addr → Prop} : ∀ {os : List O} {vs : List V} {F : Addr → Prop} (j : Nat), RepOs w H os vs F → RepO w H o v F1 → Disj F F1 → RepOs w H (os.set j o) (vs.set j v) (fun a => F a ∨ F1 a)
  | [], vs, F, j, h, _, _ => by simp only [RepOs] at h; subst h; simp [RepOs]
  | x :: os, vs, F, 0, h, h1, d => by
    simp only [RepOs] at h
    obtain ⟨u, r, Fa, Fb, rfl, s1, s2, dd, r1, r2⟩ := h
    simp only [List.set_cons_zero, RepOs]
    exact ⟨v, r, F1, Fb, rfl, fun _ z => .inr z, fun a z => .inl (s2 a z), fun a z z2 => d a (s2 a z2) z, h1, r2⟩
  | x :: os, vs, F, j + 1, h, h1, d => by
    simp only [RepOs] at h
    obtain ⟨u, r, Fa, Fb, rfl, s1, s2, dd, r1, r2⟩ := h
    simp only [List.set_cons_succ, RepOs]
    exact ⟨u, r.set j v, Fa, fun a => Fb a ∨ F1 a, rfl, fun a z => .inl (s1 a z), fun a z => z.imp (s2 a) id, fun a z z2 => z2.elim (dd a z) (d a (s1 a z)), r1, RepOs.setAt j r2 h1 fun a z => d a (s2 a z)⟩
theorem vs_setIx {tpos : Pos} (he : VE X a ma) (hp : VP X P e mp) (hi : VE X b mb)
    (hsub : ∀ v, assign (.Subscript e b tpos) X.env v = (do
      let ov ← holding [v] (eval e X.env)
      let iv ← holding [v, ov] (eval b X.env)
      standAt tpos
      holding [v, ov, iv] (setItem ov iv v)
      release [v, ov, iv] []) := by intro _; rfl)
    (hs : swapsWithSole [.Subscript e b tpos] a pos.line X.env = pure false := by rfl) (hw : swappedStores [.Subscript e b tpos] a X.env = pure none := by rfl)
    (h1 : (assignEach [.Subscript e b tpos] X.env).map (·.2) = [assign (.Subscript e b tpos) X.env] := by rfl) : VS X P (.Assign [.Subscript e b tpos] a pos) (sSetIx ma mp mb) := fun W tk f hf => ⟨fun pins s σ H D I h => by
  obtain ⟨env, ⟨Z, Fs, g⟩, h⟩ := rS_to h
  refine (ps_asg (he.ef tk hf) (pg_sub (hp W tk f hf) (hi.ef tk hf) set_list hsub) hs hw h1).run pins s σ H D I ⟨Z, Fs, rE_of g.goodE ?_⟩
  unfold sSetIx at h
  split at h
  · exact h.elim
  · rename_i x ex
    rw [ex]
    split at h
    · rename_i n
      exact fun cls d H' F s r fr => h cls d σ H' ⟨Z, Fs, F, g.same s, RepX.unlend n r, g.fresh fr⟩
    · exact h.elim
  · rename_i o eo
    rw [eo]
    intro y H1 F1 s1 r1 f1
    split at h
    · exact h.elim
    · rename_i i p em
      refine ⟨Z, Fs, env, g.same s1, ?_⟩
      rw [em]
      intro v0 v H2 ev s2 ew
      split at h
      · rename_i os oi eg ei
        obtain ⟨a1, xs1, rfl, ha1⟩ := ((g.same s1).same s2).is eg ev ew
        refine ⟨Z, Fs, rE_of ((g.same s1).same s2).goodE ?_⟩
        rw [ei]
        intro iv H3 F3 s3 r3 f3
        have zi := RepO.at r3
        split at h
        · rename_i k ek
          rw [ek] at zi
          split at h
          · rename_i j ej
            split at h
            · rename_i n
              have g3 := ((g.same s1).same s2).same s3
              obtain ⟨v0', a, xs, G, ev', ew', hla, q, nG, sG, _, put⟩ := g3.putL eg
              rw [ev] at ev'; cases ev'
              have := (walkV_same s3 ew).symm.trans ew'
              cases this
              have x1 : Extra f Z Fs H3 F1 := fun b z => by
                obtain ⟨x1, x2, x3, x4, x5⟩ := g.fresh f1 b z
                exact ⟨x1, x2, (x3.same s2).same s3, x4, x5⟩
              have r1' := RepO.same (s2.trans s3) (RepO.unlend n r1)
              obtain ⟨Fs', g4, _⟩ := put (os.set j o) (xs.set j y) (fun b => G b ∨ F1 b) F1 x1 (fun _ z => z) (RepOs.setAt j q r1' fun b z z2 => (x1 b z2).2.2.2.2 i (sG b z))
              exact ⟨a1, xs, k, j, rfl, zi, hla, by rw [RepOs.length q]; exact ej, h σ _ ⟨Z, Fs', g4⟩⟩
            · exact h.elim
          · exact h.elim
        · exact h.elim
      · exact h.elim⟩
def sAug (fn : Int → Int → Int) (i : Nat) (me : DEnv → R O) : VEnv → RS := fun env => match env[i]? with
  | some (some (.lf k (.int m))) => (match me (dl env) with
    | .ok oe => (match oe.er with
      | .int n => .ok .next (env.set i (some (.lf .fz (.int (fn m n)))))
      | _ => .no)
    | _ => .no)
  | _ => .no
theorem vs_aug {op : Operator} {fn : Int → Int → Int} {i : Nat} {pos' : Pos} (hop : PIp X op (ipI fn)) (he : VE X a ma) (hN : X.N.Nodup) (hi : X.N[i]? = some x := by rfl) (hx : Loc X.env.scope x := by first | exact Or.inl rfl | exact Or.inr rfl) (hP : P.contains i = false := by rfl)
    (hff : X.fn x = true ∨ X.env.scope.names.lookup x = some .local := by first | exact .inl rfl | exact .inr rfl) : VS X P (.AugAssign (.Name x pos') op a pos) (sAug fn i ma) := fun W tk f hf => ⟨fun pins s σ H D I h => by
  obtain ⟨env, ⟨Z, Fs, g⟩, h⟩ := rS_to h
  unfold sAug at h
  split at h
  · rename_i k m eo
    split at h
    · rename_i oe eoe
      split at h
      · rename_i n en
        obtain ⟨v, ev, r⟩ := g.rep i _ eo
        simp only [RepO, Rep] at r
        subst r
        refine (ps_aug hN hi hx (he.ef tk hf) hop hff).run pins s σ H D I ⟨_, ev, Z, Fs, rE_of g.goodE ?_⟩
        rw [eoe]
        intro y H1 F1 s1 r1 f1
        have z := RepO.at r1
        rw [en] at z
        have hlt : i < env.length := (List.getElem?_eq_some_iff.mp eo).1
        exact ⟨m, n, rfl, z, h _ H1 ⟨Z, _, (g.same s1).set (F := fun _ => False) (by simp [RepO, Rep]) (fun _ z => z.elim) hlt (pin_ne hf.2 hP)⟩⟩
      · exact h.elim
    · exact h.elim
  · exact h.elim⟩
end
end VL
namespace VL
open PySem PySem.Spec PyProof.Rows L2
section
variable {X : Cx} {P : List Nat} {e a b : Expr} {es : List Expr} {ma mb me : DEnv → R O} {pos p : Pos} {x : Str}
def eMeth (chk : O → Bool) (g : O → O → R O) (me ma : DEnv → R O) : DEnv → R O := fun env => (me env).bind fun x => if chk x then (ma env).bind fun y => g x y else .no
def isLO (o : O) : Bool := o.er.isL
theorem isLO_rep {w : Wd} {H : Hp} {o : O} {v : V} {F : Addr → Prop} (h : RepO w H o v F) (c : isLO o = true) : ∃ a vs ds, v = .ref a ∧ H a = some (.lst vs) ∧ o.er = .lst ds ∧ Reps w.cl H (fun _ => True) ds vs := by
  have z := RepO.at h
  unfold isLO at c
  cases e : o.er <;> rw [e] at c <;> simp only [D.isL] at c <;> try (cases c)
  rw [e] at z
  simp only [Rep] at z
  obtain ⟨a, vs, rfl, _, r, q⟩ := z
  exact ⟨a, vs, _, rfl, r, rfl, q⟩
theorem ve_meth {name : Str} {id : String} {r : V → List V → Hp → VK → Prop} {g : O → O → R O} {apos cpos : Pos} (slot : Slot "list" name id) (hty : typeOf (.builtin id) = pure (.type "method_descriptor")) (hm : MtR X id r)
    (hr : Op2 X (fun x y H Q => r x [y] H Q) g) (he : VE X e me) (ha : VE X a ma) (hbase : attributeBase e name X.env (eval e X.env) = eval e X.env := by rfl)
    (hfew : ((backTo cpos (starEach [a] X.env)).all (fun x => !x.1) && (backToKw cpos (keywordEach [] X.env)).all (fun x => x.1.isSome)
      && decide ([a].length + ([] : List Keyword).length + (if ([] : List Keyword).isEmpty then 0 else 1) < 30)) = true := by rfl)
    (hline : (apos.endLine == cpos.line) = true := by rfl) (hs : starEach [a] X.env = (false, eval a X.env) :: starEach [] X.env := by rfl) (hplain : (backTo cpos (starEach [] X.env)).any (·.1) = false := by rfl) :
    VE X (.Call (.Attribute e name apos) [a] [] cpos) (eMeth isLO g me ma) := fun W tk w hc =>
  (pe_bm PySem.F.plainAttrs_list slot hty hm (he W tk w hc) (pa_cons (ha W tk w hc) pa_nil hs) hbase hfew hline hs hplain).imp fun σ H Q h => by
    obtain ⟨env, G, h⟩ := rE_to h
    refine rE_of G (Out.bind (Same.refl H) h fun o1 v1 H1 F1 _ s1 p1 f1 h1 => ?_)
    by_cases c : isLO o1 = true
    · rw [if_pos c] at h1
      obtain ⟨a', vs, ds, rfl, hl, _, _⟩ := isLO_rep p1 c
      refine ⟨.inl ⟨rfl, vs, SqL.of hl⟩, rE_of (G.same s1) (Out.bind s1 h1 fun o2 v2 H2 F2 _ s2 p2 f2 h2 => ?_)⟩
      exact hr w W σ H H2 o1 o2 _ v2 F1 F2 Q hc (s1.trans s2) (RepO.same s2 p1) p2 (fun b z z2 => (f1 b z).2.ne (f2 b z2).1) (f1.up s2) (f2.base s1) h2
    · rw [if_neg c] at h1; exact h1.elim
def gCnt (x y : O) : R O := match x.er, y.er with
  | .lst ds, .int k => (match intsOf ds with
    | some ns => .ok (.lf .fz (.int (ns.count k : Nat)))
    | none => .no)
  | _, _ => .no
end
end VL
namespace VL
open PySem PySem.Spec PyProof.Rows L2
def bltNames : List String := ["len", "int", "abs", "sum", "max", "min", "list", "tuple", "all", "any", "range", "isinstance", "bool", "str", "dict", "sorted", "enumerate", "zip", "reversed", "ValueError", "print", "super", "iter", "KeyError", "IndexError"]
def BltOk (mg : Str → Option Value) : Prop := ∀ x ∈ bltNames, mg (Str.ofString x) = none
theorem BltOk.at {mg : Str → Option Value} (h : BltOk mg) (x : String) (hx : x ∈ bltNames := by decide) : mg (Str.ofString x) = none := h x hx
def OkF (P : Program) (w : World) (K : PySem.W.Frag) (mg : Str → Option Value) (base : Heap) (x : Str) (N ps : List Str) (m : VEnv → RS) (k : Nat) : Prop := ∃ f fd, mg x = some (.ref f) ∧ PySem.W.keepIn K (.ref f) = true ∧ Binds K fd ps [] ∧ FnOk P w K mg base (CXv mg P w) k f fd ps (SpV K mg N ps.length [] m)
def ALen (m : DEnv → R (List O)) (n : Nat) : Prop := ∀ env os, m env = .ok os → os.length = n
theorem alen_nil : ALen aNil 0 := fun env os h => by cases h; rfl
theorem alen_cons {m : DEnv → R O} {r : DEnv → R (List O)} {n : Nat} (h : ALen r n) : ALen (aCons m r) (n + 1) := fun env os e => by
  unfold aCons at e
  cases q : m env with
  | ok o =>
    rw [q] at e
    cases q2 : r env with
    | ok os' =>
      simp only [R.bind, q2] at e
      cases e
      simp [h env os' q2]
    | ex x => simp only [R.bind, q2] at e; cases e
    | no => simp only [R.bind, q2] at e; cases e
  | ex x => rw [q] at e; cases e
  | no => rw [q] at e; cases e
section
variable {X : Cx} {P : List Nat} {a : Expr} {es : List Expr} {mA : DEnv → R (List O)} {pos p : Pos} {x : Str} {k j : Nat} {N ps : List Str} {m : VEnv → RS}
theorem ve_callO (F : OkF X.prog X.w X.K X.mg X.base x N ps m k) (hr : Room k X.A) (ha : VA X (a :: es) mA) (hl : ALen mA j) {n : Nat} (hNn : N.length = n := by rfl) (hj : j = ps.length := by rfl) (hn : (a :: es).length = ps.length := by rfl) (hg : Gl X x := by rfl) (hdb : (x == ("__debug__" : Str)) = false := by decide)
    (he : starEach (a :: es) X.env = (false, eval a X.env) :: starEach es X.env := by rfl) (hpl : (backTo pos (starEach es X.env)).any (·.1) = false := by rfl) : VE X (.Call (.Name x p) (a :: es) [] pos) (eN (callM n m) mA) := by
  subst hNn
  subst hj
  obtain ⟨f, fd, hm, hk, hb, F⟩ := F
  exact ve_call F hr hm hk hb ha hn hg hdb he hpl hl
end
def FnT (K : PySem.W.Frag) (mg : Str → Option Value) (x : Str) (st : Stmt) (ps : List Str) : Prop := ∃ f fd, mg x = some (.ref f) ∧ Fun K x x st f fd ∧ Binds K fd ps []
theorem FnT.ok {P : Program} {w : World} {K : PySem.W.Frag} {mg : Str → Option Value} {base : Heap} {x : Str} {st : Stmt} {N ps : List Str} {k : Nat} {m : VEnv → RS} (T : FnT K mg x st ps) (S : FnScope N ps (defScope st))
    (hb : ∀ (f : Addr) (cdv : Value) (A : Around) (outer : List Env) (s : Shared) (H : Hp) (E : XK), Room k (A.deeper (envOfC x (defScope st) s.heap.objs.size f cdv)) → VB (cxOf (CXv mg P w) P w K mg base N x (defScope st) f cdv A outer s H E) [] (defBody st) m) : OkF P w K mg base x N ps m (k + 1) := by
  obtain ⟨f, fd, hm, F, hbn⟩ := T
  exact ⟨f, fd, hm, F.kp, hbn, fn_v F S (hb f)⟩
theorem hu_of {X : Cx} {k : Nat} (h : Room k X.A) : Hu X := by have := h.un; show X.A.units + 64 < cLine; omega
end VL
namespace VL
open PySem PySem.Spec PyProof.Rows L2
section
variable {P : Program} {w : World} {K : PySem.W.Frag} {h : Heap} {mg : Str → Option Value} {base : Heap}
def bltB (K : PySem.W.Frag) : Bool := bltNames.all fun x => decide (PySem.W.nsIn K mainGlobals (Str.ofString x) = some none)
theorem blt_of (X : K.In h) (G : h.Ns mainGlobals mg) (e : bltB K = true) : BltOk mg := fun x hx => PySem.W.mg_none_of X G (of_decide_eq_true (List.all_eq_true.mp e x hx))
def excCB (K : PySem.W.Frag) (D : Addr) : Bool := decide (PySem.W.findIn K (.ref D) "__getattribute__" = some (some (.builtin "BaseException.__getattribute__"))) && decide (PySem.W.findIn K (.ref D) "__getattr__" = some none) && decide (PySem.W.subIn K (.ref D) (.type "BaseException") = some true) && PySem.W.hasDictIn K D &&
  decide (PySem.W.findIn K (.ref D) "__class__" = some (some (.builtin "object.__class__"))) && decide (PySem.W.specialIn K (.builtin "object.__class__") "__get__" = some (some (.builtin "getset_descriptor.__get__"))) && decide (PySem.W.takesIn K (.builtin "object.__class__") = some true) && decide (PySem.W.mroIn K D (.type "object") = some true)
theorem excC_of {D : Addr} (e : excCB K D = true) : ExcC K D := by
  unfold excCB at e
  simp only [Bool.and_eq_true, decide_eq_true_eq] at e
  obtain ⟨⟨⟨⟨⟨⟨⟨h1, h2⟩, h3⟩, h4⟩, h5⟩, h6⟩, h7⟩, h8⟩ := e
  exact ⟨h1, h2, h3, h4, h5, h6, h7, h8⟩
def errOneB (K : PySem.W.Frag) (D : Addr) (fs : List String) : Bool := excCB K D && xfB K D && decide (PySem.W.kitOne K (.ref D) (.type "ValueError") = some true) && fs.all fun f => decide (PySem.W.findIn K (.ref D) (Str.ofString f) = some none)
def errB (K : PySem.W.Frag) (E : List ((String × List String) × Addr)) : Bool := E.all (fun p => errOneB K p.2 p.1.2) && E.all fun p => E.all fun q => decide (PySem.W.kitOne K (.ref p.2) (.ref q.2) = some (subE p.1.1 q.1.1)) && decide (PySem.W.exmOne K (.ref p.2) (.ref q.2) = some (subE p.1.1 q.1.1))
def NamesAt (mg : Str → Option Value) : List ((String × List String) × Addr) → Prop
  | [] => True
  | p :: r => mg (Str.ofString p.1.1) = some (.ref p.2) ∧ NamesAt mg r
theorem NamesAt.mem : ∀ {E : List ((String × List String) × Addr)}, NamesAt mg E → ∀ p ∈ E, mg (Str.ofString p.1.1) = some (.ref p.2)
  | [], _, p, m => by simp at m
  | q :: r, h, p, m => by
    rcases List.mem_cons.mp m with rfl | m
    · exact h.1
    · exact NamesAt.mem h.2 p m
theorem errF_of {E : List ((String × List String) × Addr)} (hm : NamesAt mg E) (e : errB K E = true) : ErrF K mg (E.map (·.1)) := by
  unfold errB at e
  rw [Bool.and_eq_true] at e
  obtain ⟨e1, e2⟩ := e
  have at_ : ∀ C ∈ E.map (·.1), ∃ a, (C, a) ∈ E := fun C hC => by
    obtain ⟨p, hp, rfl⟩ := List.mem_map.mp hC
    exact ⟨p.2, hp⟩
  have same : ∀ {C : String × List String} {a Ca : Addr}, (C, a) ∈ E → mg (Str.ofString C.1) = some (.ref Ca) → a = Ca := fun ha hc => by
    have := hm.mem _ ha
    rw [this] at hc
    cases hc; rfl
  refine ⟨fun C hC => ?_, fun C hC Ca hc => ?_, fun C hC D hD Ca Da hc hd => ?_⟩
  · obtain ⟨a, ha⟩ := at_ C hC
    exact ⟨a, hm.mem _ ha⟩
  · obtain ⟨a, ha⟩ := at_ C hC
    cases same ha hc
    have z := List.all_eq_true.mp e1 _ ha
    unfold errOneB at z
    simp only [Bool.and_eq_true, decide_eq_true_eq, List.all_eq_true] at z
    obtain ⟨⟨⟨h1, h2⟩, h3⟩, h4⟩ := z
    exact ⟨excC_of h1, xfB_ok h2, h3, h4⟩
  · obtain ⟨a, ha⟩ := at_ C hC
    obtain ⟨b, hb⟩ := at_ D hD
    cases same ha hc
    cases same hb hd
    have z := List.all_eq_true.mp (List.all_eq_true.mp e2 _ ha) _ hb
    simp only [Bool.and_eq_true, decide_eq_true_eq] at z
    exact z
theorem fnT_of {x : Str} {st : Stmt} {ps : List Str} {f : Addr} {oc kV dc pm cd ct : Value} {od an : Option Addr} {sl : Array (Option Value)} (X : K.In h) (G : h.Ns mainGlobals mg) (a : PySem.W.nsIn K mainGlobals x = some (some (.ref f)))
    (l : K.lookup f = some ⟨oc, od, .func (PySem.W.fnOf x x (defArgs st) (defBody st) (defScope st) .none kV dc pm an cd ct), sl⟩) (c : PySem.W.codeIn K cd x = true) (k : PySem.W.keepIn K (.ref f) = true)
    (hb : ∀ (kV doc pm : Value) (an : Option Addr) (cdv ct : Value) (us : List Value), us.length = ps.length → bindArgs (PySem.W.fnOf x x (defArgs st) (defBody st) (defScope st) .none kV doc pm an cdv ct) ⟨us, []⟩ = pure (ps.zip us)) : FnT K mg x st ps :=
  ⟨f, _, PySem.W.mg_of X G a, fun_mk l c k, (fun_mk l c k).binds hb⟩
def initB (P : Program) (K : PySem.W.Frag) (C f1 cda : Addr) (qual : Str) (fs : List String) : Bool :=
  decide (PySem.W.findIn K (.ref C) "__setattr__" = some (some (.builtin "object.__setattr__"))) && decide (PySem.W.subIn K (.ref C) (.type "BaseException") = some true) && decide (PySem.W.typeIn K (.ref C) = some (.type "type")) && PySem.W.keepIn K (.ref C) && decide (PySem.W.typeIn K (.ref f1) = some (.type "function")) && PySem.W.codeIn K (.ref cda) qual &&
  !(P.main.scope.names.lookup ("super" : Str)).isSome && decide (PySem.W.ks_superIn K C C "__init__" = some (some (.builtin "ValueError.__init__"))) && decide (PySem.W.subIn K (.ref C) (.type "ValueError") = some true) && decide (PySem.W.mroIn K C (.ref C) = some true) && decide (PySem.W.nsIn K cStatics "thirdparty.any" = some none) && fs.all fun f => decide (PySem.W.findIn K (.ref C) (Str.ofString f) = some none)
def codeB (P : Program) (K : PySem.W.Frag) (cda : Addr) : Bool := match K.lookup cda with
  | some ⟨_, _, .fields vs, _⟩ => (match (vs[2]? : Option Value) with
    | some (.str file _) => (P.main.file : Str) == file
    | _ => false)
  | _ => false
theorem codeB_of {cda : Addr} (e : codeB P K cda = true) : ∃ ccl cdd vs ccs file tf, K.lookup cda = some ⟨ccl, cdd, .fields vs, ccs⟩ ∧ vs[2]? = some (.str file tf) ∧ ((P.main.file : Str) == file) = true := by
  unfold codeB at e
  split at e
  · rename_i ccl cdd vs ccs hl
    split at e
    · rename_i file tf hv
      exact ⟨ccl, cdd, vs, ccs, file, tf, hl, hv, e⟩
    · cases e
  · cases e
structure InitT (P : Program) (K : PySem.W.Frag) (mg : Str → Option Value) (C : String) (st : Stmt) (qual : Str) (ps : List Str) (fs : List String) (Ca f1 cda cc : Addr) (fd : FuncData) : Prop where
  gC : mg (Str.ofString C) = some (.ref Ca)
  iC : PySem.W.findIn K (.ref Ca) "__init__" = some (some (.ref f1))
  tI : PySem.W.typeIn K (.ref f1) = some (.type "function")
  ox : OexC K Ca
  T : VLX.SupOk P K mg Ca f1 cda cc fd qual ps (defScope st) (defBody st)
  no : ∀ f ∈ fs, PySem.W.findIn K (.ref Ca) (Str.ofString f) = some none
  bd : Binds K fd ps []
theorem initT_of {C : String} {st : Stmt} {qual : Str} {ps : List Str} {fs : List String} {Ca f1 cda cc : Addr} {nm q : Str} {N : Addr} {bs bm : List Value} {sn : List Str} {sub : List Value} {ab : Bool} {col : Option Bool} {dd : Option Addr} {k0 k1 k2 k3 k5 : Option Value}
    {oc dV kV doc pm ct : Value} {od an : Option Addr} {osl : Array (Option Value)} {cl : Value} {cld : Option Addr} {csl : Array (Option Value)} {ar : Arg}
    (gC : mg (Str.ofString C) = some (.ref Ca)) (ms : mg "super" = none)
    (xL : K.lookup Ca = some (excClassObj nm q Ca N bs bm true sn sub ab col dd k0 k1 k2 k3 k5 "ValueError.__new__")) (hbm : PySem.HandSPX.refsVE bm = true)
    (iC : PySem.W.findIn K (.ref Ca) "__init__" = some (some (.ref f1)))
    (l1 : K.lookup f1 = some ⟨oc, od, .func (PySem.W.fnX "__init__" qual (defArgs st) (defBody st) (defScope st) [("__class__", cc)] dV kV doc pm an (.ref cda) ct), osl⟩)
    (ce : K.lookup cc = some ⟨cl, cld, .cell (some (.ref Ca)), csl⟩) (hc : codeB P K cda = true) (e : initB P K Ca f1 cda qual fs = true)
    (har : ((defArgs st).posonlyargs ++ (defArgs st).args).head? = some ar) (har0 : ps[0]? = some ar.arg)
    (hb : ∀ us : List Value, us.length = ps.length → bindArgs (PySem.W.fnX "__init__" qual (defArgs st) (defBody st) (defScope st) [("__class__", cc)] dV kV doc pm an (.ref cda) ct) ⟨us, []⟩ = pure (ps.zip us)) :
    InitT P K mg C st qual ps fs Ca f1 cda cc (PySem.W.fnX "__init__" qual (defArgs st) (defBody st) (defScope st) [("__class__", cc)] dV kV doc pm an (.ref cda) ct) := by
  unfold initB at e
  simp only [Bool.and_eq_true, decide_eq_true_eq, Bool.not_eq_true', List.all_eq_true] at e
  obtain ⟨⟨⟨⟨⟨⟨⟨⟨⟨⟨⟨sa, exC⟩, tyC⟩, kC⟩, t1⟩, c1⟩, top⟩, su⟩, ve⟩, me⟩, th⟩, no⟩ := e
  have ox : OexC K Ca := ⟨⟨nm, q, N, bs, bm, sn, sub, ab, col, dd, k0, k1, k2, k3, k5, xL, hbm⟩, sa, exC, tyC, kC⟩
  exact ⟨gC, iC, t1, ox, ⟨⟨oc, od, osl, _, _, dV, kV, doc, pm, an, ct, ar, rfl, l1, har, har0⟩, c1, codeB_of hc, top, ⟨cl, cld, csl, ce⟩, ox, su, ve, me, th, ms⟩, no, .all hb⟩
def spLaw (K : PySem.W.Frag) (mg : Str → Option Value) : Sp := fun vs H Q _ => (∀ P q, KTb K mg P q → TabAt H P q) ∧ ∃ (a : Addr) (ns : List Int), vs = [.ref a] ∧ ns.length ≤ 63 ∧ SqL K H a (ns.map V.int) ∧ ∀ H', Q (.bl true) H'
theorem reps_ints {cl : Cl} {H : Hp} {S : Addr → Prop} : ∀ ns : List Int, Reps cl H S (ns.map D.int) (ns.map V.int)
  | [] => by simp [Reps]
  | n :: r => by
    simp only [List.map_cons, Reps]
    exact ⟨.int n, _, rfl, rfl, reps_ints r⟩
def RunsTrue (n : Nat) (m : VEnv → RS) : Prop := ∀ ns : List Int, ns.length ≤ 63 → ∃ env', m (startE n [.lf .bo (.scr (ns.map D.int))]) = .ok (.ret (.lf .fz (.bl true))) env'
theorem law_fn {f : Addr} {fd : FuncData} {N : List Str} {m : VEnv → RS} {k : Nat} {x : Str} (F : FnOk P w K mg base (CXv mg P w) k f fd [x] (SpV K mg N 1 [] m)) (hm : RunsTrue N.length m) : FnOk P w K mg base (CXv mg P w) k f fd [x] (spLaw K mg) := F.imp fun vs H Q E h => by
  obtain ⟨htb, a, ns, rfl, hl, hs, hq⟩ := h
  obtain ⟨env', em⟩ := hm ns hl
  refine ⟨rfl, ⟨⟨⟨clM mg, fun a xs => KL K a xs, fun a => KT K a, KTb K mg⟩, fun _ _ _ => False⟩, H, fun _ => False, fun _ => False, fun b => H b ≠ none, []⟩, startE N.length [.lf .bo (.scr (ns.map D.int))], ⟨⟨⟨rfl, fun _ => Iff.rfl, fun _ _ q => q⟩, fun _ _ q => q⟩, fun _ _ _ q => q⟩, rfl, ⟨fun _ => False, fun _ _ => False, fun i o e => ?_, fun _ _ _ _ z => z.elim, fun _ _ z => z.elim, fun _ z => z.elim, fun _ z => z, fun a u e _ => Same.refl H a u e, ⟨fun _ n => n, htb⟩, fun _ _ z => z.elim, fun _ z => z.elim, fun _ z => z, fun p hp => absurd hp (by show p ∉ ([] : List (Nat × V)); simp), ?_⟩, ?_⟩
  · have e1 := startE_get e
    cases i with
    | succ i => simp at e1
    | zero =>
      simp at e1
      subst e1
      refine ⟨.ref a, start_get rfl, ?_⟩
      simp only [RepO, Rep]
      refine ⟨a, ns.map V.int, rfl, ?_, reps_ints ns⟩
      rcases hs with r | r
      · refine .inl ⟨?_, r⟩
        rcases r with r | ⟨o, r⟩
        · show H a ≠ none
          rw [r]; exact fun q => nomatch q
        · show H a ≠ none
          rw [r]; exact fun q => nomatch q
      · exact .inr r
  · unfold L2.start startE
    simp
  · unfold FOut
    rw [em]
    intro v σ' H' ⟨Z, Fs, F', g, r, x'⟩
    simp only [RepO, Rep] at r
    rw [r]
    exact hq H'
end
end VL
namespace VL
open PySem PySem.Spec PyProof.Rows L2
abbrev oi (n : Int) : O := .lf .fz (.int n)
abbrev ob (b : Bool) : O := .lf .fz (.bl b)
abbrev iL (ns : List Int) : D := .lst (ns.map D.int)
abbrev li (ns : List Int) : O := .lf .fz (iL ns)
abbrev ol (ns : List Int) : O := .lst (ns.map oi)
abbrev scrD (ns : List Int) : O := .lf .bo (.scr (ns.map D.int))
section
variable {ns ms : List Int} {k : Kd}
@[simp] theorem lfk_fz {d : D} : lfk .fz d = .lf .fz d := by unfold lfk; split <;> rfl
@[simp] theorem lfk_int {i : Int} : lfk k (.int i) = oi i := (rfl)
@[simp] theorem lfk_bl {i : Bool} : lfk k (.bl i) = ob i := (rfl)
@[simp] theorem lfk_non : lfk k .non = .lf .fz .non := (rfl)
@[simp] theorem lfk_iL : lfk k (iL ns) = .lf k (iL ns) := (rfl)
@[simp] theorem lfk_scr {ds : List D} : lfk k (.scr ds) = .lf k (.scr ds) := (rfl)
theorem ers_oi : O.ers (ns.map oi) = ns.map D.int := by rw [O.ers_eq, List.map_map]; rfl
@[simp] theorem er_ol : (ol ns).er = iL ns := by show D.lst (O.ers _) = _; rw [ers_oi]
@[simp] theorem nos_oi {p : Kd → Bool} : O.nos p (ns.map oi) = (ns.all fun _ => !p .fz) := by
  rw [O.nos_eq]
  induction ns with
  | nil => rfl
  | cons a r ih => simp [ih, O.no]
theorem no_ol {p : Kd → Bool} (h : p .fz = false) : (ol ns).no p = true := by
  show O.nos p _ = true
  rw [nos_oi, h]; simp
@[simp] theorem no_ol_tb : (ol ns).no isTb = true := no_ol rfl
@[simp] theorem no_ol_fz : (ol ns).no notFz = true := no_ol rfl
@[simp] theorem own_ol : (ol ns).own = true := by
  show O.owns _ = true
  rw [O.owns_eq]
  induction ns with
  | nil => rfl
  | cons a r ih => simp [ih, O.own, D.imm]
@[simp] theorem frz_ol : frzO (ol ns) = some (li ns) := by
  show (if (ol ns).no notFz = true then some (lfk .fz (ol ns).er) else none) = _
  rw [no_ol_fz, if_pos rfl, er_ol]; rfl
@[simp] theorem frz_lf {d : D} : frzO (.lf .fz d) = some (.lf .fz d) := by
  show (if (O.lf .fz d).no notFz = true then some (lfk .fz d) else none) = _
  rw [show (O.lf .fz d).no notFz = true from rfl, if_pos rfl, lfk_fz]
@[simp] theorem toArg_fz {d : D} : toArg (.lf .fz d) = .lf .fz d := (rfl)
@[simp] theorem toArg_bo {d : D} : toArg (.lf .bo d) = lfk .bo d := (rfl)
@[simp] theorem toArg_tb {d : D} : toArg (.lf .tb d) = lfk .bo d := (rfl)
@[simp] theorem toArg_ol : toArg (ol ns) = li ns := by
  show (if (ol ns).no notFz = true then lfk .fz (ol ns).er else _) = _
  rw [no_ol_fz, if_pos rfl, er_ol]; rfl
@[simp] theorem elems_li : elems (.lf k (iL ns)) = some (ns.map oi) := by
  show some ((ns.map D.int).map (lfk k)) = _
  rw [List.map_map]; rfl
@[simp] theorem elems_ol : elems (ol ns) = some (ns.map oi) := (rfl)
@[simp] theorem elems_oi {n : Int} : elems (oi n) = none := (rfl)
@[simp] theorem intsOf_int : intsOf (ns.map D.int) = some ns := intsOf_map ns
@[simp] theorem listInts_iL : listInts (iL ns) = some ns := intsOf_map ns
theorem pys_int : D.pys (ns.map D.int) = some (ns.map PyData.int) := by
  induction ns with
  | nil => rfl
  | cons a r ih => simp [D.pys, D.py, ih]
theorem shaped_int : SeqAt.shaped (.list (ns.map PyData.int)) = true := by
  have h1 : PyData.canLayAll0 (ns.map PyData.int) = true := by
    induction ns with
    | nil => rfl
    | cons a r ih => simp [PyData.canLayAll0, PyData.canLay0, ih]
  have h2 : PyData.depthAll (ns.map PyData.int) = 0 := by
    induction ns with
    | nil => rfl
    | cons a r ih => simp [PyData.depthAll, PyData.depth, ih (by simpa [PyData.canLayAll0, PyData.canLay0] using h1)]
  unfold SeqAt.shaped
  simp [PyData.canLay0, PyData.depth, h1, h2]
theorem eqv_int : ∀ {ns ms : List Int}, PyData.eqvAll (ns.map PyData.int) (ms.map PyData.int) = decide (ns = ms)
  | [], [] => rfl
  | [], b :: r => rfl
  | a :: r, [] => rfl
  | a :: r, b :: s => by
    have ih := eqv_int (ns := r) (ms := s)
    simp only [List.map_cons, PyData.eqvAll, PyData.eqv, ih]
    by_cases h : a = b
    · subst h; simp
    · simp [h]
@[simp] theorem eqD_iL : eqD (iL ns) (iL ms) = some (decide (ns = ms)) := by
  unfold eqD
  show (match (D.pys (ns.map D.int)).map PyData.list, (D.pys (ms.map D.int)).map PyData.list with
    | some p, some q => if SeqAt.shaped p && SeqAt.shaped q then some (PyData.eqv p q) else none
    | _, _ => none) = _
  rw [pys_int, pys_int]
  show (if SeqAt.shaped (.list _) && SeqAt.shaped (.list _) then some (PyData.eqv (.list _) (.list _)) else none) = _
  rw [shaped_int, shaped_int]
  show some (PyData.eqvAll _ _) = _
  rw [eqv_int]
@[simp] theorem eqD_int {a b : Int} : eqD (.int a) (.int b) = some (decide (a = b)) := by
  show (if SeqAt.shaped (.int a) && SeqAt.shaped (.int b) then some (a == b) else none) = _
  rw [show SeqAt.shaped (PyData.int a) = true from rfl, show SeqAt.shaped (PyData.int b) = true from rfl]
  show some (a == b) = _
  congr 1
@[simp] theorem eqD_non {a : Int} : eqD .non (.int a) = some false := (rfl)
@[simp] theorem dl_nil : dl [] = [] := (rfl)
@[simp] theorem dl_none {e : VEnv} : dl (none :: e) = none :: dl e := (rfl)
@[simp] theorem dl_lf {d : D} {e : VEnv} : dl (some (.lf k d) :: e) = some (.lf k d) :: dl e := (rfl)
@[simp] theorem dl_ol {e : VEnv} : dl (some (ol ns) :: e) = some (.lf .tb (iL ns)) :: dl e := by
  show some (.lf .tb (ol ns).er) :: dl e = _
  rw [er_ol]
end
section
variable {m1 m2 : VEnv → RS} {env e : VEnv} {o o' : O} {x : Exn} {me : DEnv → R O} {mx : VEnv → RX O} {t : DEnv → R Bool} {i : Nat}
end
end VL
namespace VL
open PySem PySem.Spec PyProof.Rows L2
section
variable {α β : Type} {a : α} {f : α → R β} {x : Exn} {env : DEnv} {ma mb mc : DEnv → R O} {mA : DEnv → R (List O)} {t t' : DEnv → R Bool} {g2 : O → O → R O} {g1 : O → R O} {gN : List O → R O} {i j : Int} {ns ms : List Int} {k k' : Kd} {o : O} {b c : Bool}
@[simp] theorem bind_ok : (R.ok a).bind f = f a := (rfl)
@[simp] theorem bind_ex : (R.ex x : R α).bind f = .ex x := (rfl)
@[simp] theorem e2_ev : e2 g2 ma mb env = (ma env).bind fun x => (mb env).bind fun y => g2 x y := (rfl)
@[simp] theorem e1_ev : e1 g1 ma env = (ma env).bind g1 := (rfl)
@[simp] theorem eN_ev : eN gN mA env = (mA env).bind gN := (rfl)
@[simp] theorem aCons_ev : aCons ma mA env = (ma env).bind fun o => (mA env).bind fun os => .ok (o :: os) := (rfl)
@[simp] theorem aNil_ev : aNil env = .ok [] := (rfl)
@[simp] theorem f1_ev : VL.f1 g1 [o] = g1 o := (rfl)
@[simp] theorem f2_ev {p : O} : VL.f2 g2 [o, p] = g2 o p := (rfl)
@[simp] theorem tOfE_ev : tOfE ma env = (ma env).bind asB := (rfl)
@[simp] theorem asB_ob : asB (ob b) = .ok b := (rfl)
@[simp] theorem tTru_ev : tTru ma env = (ma env).bind asT := (rfl)
@[simp] theorem asT_ob : asT (ob b) = .ok b := (rfl)
@[simp] theorem asT_oi : asT (oi i) = .ok (i != 0) := (rfl)
@[simp] theorem tNotM_ev : tNotM t env = (t env).bind fun b => .ok (!b) := (rfl)
@[simp] theorem tAndM_ev : tAndM t t' env = (t env).bind fun b => if b then t' env else .ok false := (rfl)
@[simp] theorem tOrM_ev : tOrM t t' env = (t env).bind fun b => if b then .ok true else t' env := (rfl)
@[simp] theorem bAnd_ev : bAnd ma mb env = ((ma env).bind asB).bind fun b => if b then mb env else .ok (ob false) := (rfl)
@[simp] theorem bOr_ev : bOr ma mb env = ((ma env).bind asB).bind fun b => if b then .ok (ob true) else mb env := (rfl)
@[simp] theorem bNot_ob : bNot (ob b) = .ok (ob !b) := (rfl)
@[simp] theorem eIf_ev : eIf t ma mb env = (t env).bind fun b => if b then ma env else mb env := (rfl)
@[simp] theorem eC_ev {d : D} : eC d env = .ok (.lf .fz d) := (rfl)
@[simp] theorem tYesM_ev : tYesM env = .ok true := (rfl)
@[simp] theorem eVar_0 {d : D} {e : DEnv} : eVar 0 (some (.lf k d) :: e) = .ok (lfk k d) := (rfl)
@[simp] theorem eVar_s {n : Nat} {o : Option O} {e : DEnv} : eVar (n + 1) (o :: e) = eVar n e := (rfl)
@[simp] theorem eVar_1 {o : Option O} {e : DEnv} : eVar 1 (o :: e) = eVar 0 e := (rfl)
@[simp] theorem gPlus_int : gPlus (oi i) (oi j) = .ok (oi (i + j)) := (rfl)
@[simp] theorem gSub_int : gSub (oi i) (oi j) = .ok (oi (i - j)) := (rfl)
@[simp] theorem gLt_int : gLt (oi i) (oi j) = .ok (ob (decide (i < j))) := (rfl)
@[simp] theorem gLe_int : gLe (oi i) (oi j) = .ok (ob (decide (i ≤ j))) := (rfl)
@[simp] theorem gGt_int : gGt (oi i) (oi j) = .ok (ob (decide (j < i))) := (rfl)
@[simp] theorem gGe_int : gGe (oi i) (oi j) = .ok (ob (decide (j ≤ i))) := (rfl)
@[simp] theorem gNeg_int : gNeg (oi i) = .ok (oi (-i)) := (rfl)
@[simp] theorem gInt_int : gInt (oi i) = .ok (oi i) := (rfl)
@[simp] theorem gAbs_int : gAbs (oi i) = .ok (oi (if i < 0 then -i else i)) := (rfl)
@[simp] theorem gEq_int : gEq (oi i) (oi j) = .ok (ob (decide (i = j))) := by
  show (match eqD (.int i) (.int j) with
    | some b => R.ok (ob b)
    | none => .no) = _
  rw [eqD_int]
@[simp] theorem gNe_int : gNe (oi i) (oi j) = .ok (ob (!decide (i = j))) := by
  show (match eqD (.int i) (.int j) with
    | some b => R.ok (ob !b)
    | none => .no) = _
  rw [eqD_int]
@[simp] theorem gEq_list : gEq (.lf k (iL ns)) (.lf k' (iL ms)) = .ok (ob (decide (ns = ms))) := by
  show (match eqD (iL ns) (iL ms) with
    | some b => R.ok (ob b)
    | none => .no) = _
  rw [eqD_iL]
@[simp] theorem gNe_list : gNe (.lf k (iL ns)) (.lf k' (iL ms)) = .ok (ob (!decide (ns = ms))) := by
  show (match eqD (iL ns) (iL ms) with
    | some b => R.ok (ob !b)
    | none => .no) = _
  rw [eqD_iL]
@[simp] theorem gLen_li : gLen (.lf k (iL ns)) = .ok (oi ns.length) := by
  show R.ok (oi ((ns.map D.int).length : Nat)) = _
  rw [List.length_map]
@[simp] theorem gLen_scr : gLen (.lf k (.scr (ns.map D.int))) = .ok (oi ns.length) := by
  show R.ok (oi ((ns.map D.int).length : Nat)) = _
  rw [List.length_map]
@[simp] theorem er_isL : (O.lf k (iL ns)).er.isL = true := (rfl)
@[simp] theorem ol_isL : (ol ns).er.isL = true := (rfl)
@[simp] theorem gLst_nil : gLst [] = .ok (ol []) := (rfl)
theorem setA_ok {i : Nat} {o : O} {env : VEnv} (h : i < env.length) : setA i o env = some (env.set i (some o)) := if_pos h
@[simp] theorem dl_Zs {k : Nat} : dl (List.replicate k none) = List.replicate k none := by
  induction k with
  | zero => rfl
  | succ k ih => rw [List.replicate_succ, dl_none, ih]
def cntT (T : Nat) (l : List Int) : List Int := (List.range T).map fun (i : Nat) => ((l.count (i : Int) : Nat) : Int)
end
end VL
namespace VL
open PySem PySem.Spec PyProof.Rows L2
def setL : List Nat → List O → Asg
  | [], [], env => some env
  | j :: js, o :: os, env => if j < env.length then setL js os (env.set j (some o)) else none
  | _, _, _ => none
def setT (js : List Nat) (o : O) : Asg := fun env => match o with
  | .lf k (.tup ds) => setL js (ds.map (lfk k)) env
  | _ => none
section
variable {X : Cx} {P : List Nat} {tg a b : Expr} {ma mb : DEnv → R O} {pos p : Pos}
def iEnM (js : List Nat) (ma : DEnv → R O) : DEnv → R (List Asg) := fun env => (ma env).bind fun o => match seqF o, o.er.isL with
  | some (k, ds), true => .ok (ds.mapIdx fun i d => setL js [.lf .fz (.int (i : Nat)), lfk k d])
  | _, _ => .no
def sExt (i : Nat) (me : DEnv → R O) : VEnv → RS := fun env => match env[i]? with
  | some (some (.lst os)) => (match me (dl env) with
    | .ex x => if O.nos isTb x.xs then .ex x env else .no
    | .no => .no
    | .ok oe => match elems oe with
      | some ps => if oe.er.isL && O.nos isTb ps && oe.no isTb && szOk (os.length + ps.length) then .ok .next (env.set i (some (.lst (os ++ ps)))) else .no
      | none => .no)
  | _ => .no
end
end VL
namespace VL
open PySem PySem.Spec PyProof.Rows L2
def wR0 {α : Type} (r : R α) (Q : α → Prop) (E : Exn → Prop) : Prop := match r with
  | .ok a => Q a
  | .ex x => E x
  | .no => False
def wS0 (r : RS) (Q : Ct → VEnv → Prop) (E : Exn → VEnv → Prop) : Prop := match r with
  | .ok c e => Q c e
  | .ex x e => E x e
  | .no => False
def wX0 (r : RX O) (Q : O → VEnv → Prop) (E : Exn → VEnv → Prop) : Prop := match r with
  | .ok c e => Q c e
  | .ex x e => E x e
  | .no => False
structure wR {α : Type} (r : R α) (Q : α → Prop) (E : Exn → Prop) : Prop where
  out : wR0 r Q E
structure wS (r : RS) (Q : Ct → VEnv → Prop) (E : Exn → VEnv → Prop) : Prop where
  out : wS0 r Q E
structure wX (r : RX O) (Q : O → VEnv → Prop) (E : Exn → VEnv → Prop) : Prop where
  out : wX0 r Q E
noncomputable def gd {α : Type} (c : Prop) (r : R α) : R α := @ite _ c (Classical.propDecidable c) r .no
theorem gd_eq {α : Type} {c : Prop} [Decidable c] {r : R α} : (if c then r else .no) = gd c r := by
  unfold gd
  by_cases h : c
  · rw [if_pos h, if_pos h]
  · rw [if_neg h, if_neg h]
@[simp] theorem gd_true {α : Type} {r : R α} : gd True r = r := by unfold gd; rw [if_pos trivial]
@[simp] theorem gd_false {α : Type} {r : R α} : gd False r = .no := by unfold gd; rw [if_neg not_false]
theorem gd_pos {α : Type} {c : Prop} {r : R α} (h : c) : gd c r = r := by unfold gd; rw [if_pos h]
theorem gd_neg {α : Type} {c : Prop} {r : R α} (h : ¬ c) : gd c r = .no := by unfold gd; rw [if_neg h]
def seqK (m : VEnv → RS) (Q : Ct → VEnv → Prop) (E : Exn → VEnv → Prop) : Ct → VEnv → Prop
  | .next, e => wS (m e) Q E
  | c, e => Q c e
def loopK (I : VEnv → Prop) (Q : Ct → VEnv → Prop) : Ct → VEnv → Prop
  | .next, e => I e
  | .cont, e => I e
  | .brk, e => Q .next e
  | .ret o, e => Q (.ret o) e
def retK (P : O → Prop) : Ct → VEnv → Prop
  | .ret o, _ => o.own = true ∧ P o
  | .next, _ => P (.lf .fz .non)
  | _, _ => False
def nextK (I : VEnv → Prop) : Ct → VEnv → Prop
  | .next, e => I e
  | _, _ => False
def noX (_ : Exn) (_ : VEnv) : Prop := False
section
variable {α β : Type} {a : α} {x : Exn} {Q : α → Prop} {E : Exn → Prop} {r : R α} {c : Prop} [Decidable c]
@[simp] theorem wR_ok : wR (.ok a) Q E ↔ Q a := ⟨fun h => h.out, fun h => ⟨h⟩⟩
@[simp] theorem wR_ex : wR (.ex x : R α) Q E ↔ E x := ⟨fun h => h.out, fun h => ⟨h⟩⟩
@[simp] theorem wR_no : wR (.no : R α) Q E ↔ False := ⟨fun h => h.out, fun h => ⟨h⟩⟩
@[simp] theorem wR_bind {r : R β} {f : β → R α} : wR (r.bind f) Q E ↔ wR r (fun b => wR (f b) Q E) E := by cases r <;> simp [R.bind]
@[simp] theorem wR_guard : wR (if c then r else .no) Q E ↔ c ∧ wR r Q E := by
  split
  · rename_i h; simp [h]
  · rename_i h; simp [h]
@[simp] theorem wR_gd {c : Prop} : wR (gd c r) Q E ↔ c ∧ wR r Q E := by
  by_cases h : c
  · rw [gd_pos h]; simp [h]
  · rw [gd_neg h]; simp [h]
@[simp] theorem bind_gd {c : Prop} {f : α → R β} : (gd c r).bind f = gd c (r.bind f) := by
  by_cases h : c
  · rw [gd_pos h, gd_pos h]
  · rw [gd_neg h, gd_neg h]; rfl
@[simp] theorem bind_guard {f : α → R β} : (if c then r else .no).bind f = if c then r.bind f else .no := by split <;> rfl
@[simp] theorem bind_no {f : α → R β} : (R.no : R α).bind f = .no := (rfl)
theorem wR_eq : wR r (fun b => b = a) (fun _ => False) ↔ r = .ok a := by
  cases r <;> simp
theorem wR_of (h : r = .ok a) (q : Q a) : wR r Q E := by rw [h]; exact ⟨q⟩
theorem wR_mono {Q' : α → Prop} (h : wR r Q E) (k : ∀ a, Q a → Q' a) : wR r Q' E := by
  cases r with
  | ok b => exact ⟨k b h.out⟩
  | ex x => exact ⟨h.out⟩
  | no => exact ⟨h.out⟩
end
section
variable {env e : VEnv} {m m1 m2 body : VEnv → RS} {mx : VEnv → RX O} {me : DEnv → R O} {t : DEnv → R Bool} {Q Q' : Ct → VEnv → Prop} {E E' : Exn → VEnv → Prop} {i n : Nat} {o : O} {x : Exn} {r : RS}
@[simp] theorem wS_ok {c : Ct} : wS (.ok c e) Q E ↔ Q c e := ⟨fun h => h.out, fun h => ⟨h⟩⟩
@[simp] theorem wS_ex : wS (.ex x e) Q E ↔ E x e := ⟨fun h => h.out, fun h => ⟨h⟩⟩
@[simp] theorem wS_no : wS .no Q E ↔ False := ⟨fun h => h.out, fun h => ⟨h⟩⟩
@[simp] theorem wX_ok {P : O → VEnv → Prop} : wX (.ok o e) P E ↔ P o e := ⟨fun h => h.out, fun h => ⟨h⟩⟩
@[simp] theorem wX_ex {P : O → VEnv → Prop} : wX (.ex x e) P E ↔ E x e := ⟨fun h => h.out, fun h => ⟨h⟩⟩
@[simp] theorem wX_no {P : O → VEnv → Prop} : wX .no P E ↔ False := ⟨fun h => h.out, fun h => ⟨h⟩⟩
theorem wS_mono (h : wS r Q E) (k : ∀ c e, Q c e → Q' c e) (k2 : ∀ x e, E x e → E' x e) : wS r Q' E' := by
  cases r with
  | ok c e => exact ⟨k c e h.out⟩
  | ex x e => exact ⟨k2 x e h.out⟩
  | no => exact ⟨h.out⟩
theorem wS_seq : wS (sSeq m1 m2 env) Q E ↔ wS (m1 env) (seqK m2 Q E) E := by
  unfold sSeq
  cases m1 env with
  | ok c e => cases c <;> simp [RX.bind, seqK]
  | ex x e => simp [RX.bind]
  | no => simp [RX.bind]
@[simp] theorem seqK_next : seqK m Q E .next e ↔ wS (m e) Q E := (Iff.rfl)
@[simp] theorem seqK_brk : seqK m Q E .brk e ↔ Q .brk e := (Iff.rfl)
@[simp] theorem seqK_cont : seqK m Q E .cont e ↔ Q .cont e := (Iff.rfl)
@[simp] theorem seqK_ret : seqK m Q E (.ret o) e ↔ Q (.ret o) e := (Iff.rfl)
@[simp] theorem loopK_next {I : VEnv → Prop} : loopK I Q .next e ↔ I e := (Iff.rfl)
@[simp] theorem loopK_cont {I : VEnv → Prop} : loopK I Q .cont e ↔ I e := (Iff.rfl)
@[simp] theorem loopK_brk {I : VEnv → Prop} : loopK I Q .brk e ↔ Q .next e := (Iff.rfl)
@[simp] theorem loopK_ret {I : VEnv → Prop} : loopK I Q (.ret o) e ↔ Q (.ret o) e := (Iff.rfl)
@[simp] theorem retK_next {P : O → Prop} : retK P .next e ↔ P (.lf .fz .non) := (Iff.rfl)
@[simp] theorem retK_ret {P : O → Prop} : retK P (.ret o) e ↔ o.own = true ∧ P o := (Iff.rfl)
@[simp] theorem retK_brk {P : O → Prop} : retK P .brk e ↔ False := (Iff.rfl)
@[simp] theorem retK_cont {P : O → Prop} : retK P .cont e ↔ False := (Iff.rfl)
@[simp] theorem nextK_next {I : VEnv → Prop} : nextK I .next e ↔ I e := (Iff.rfl)
@[simp] theorem wS_next : wS (sNext env) Q E ↔ Q .next env := wS_ok
@[simp] theorem wX_pur {P : O → VEnv → Prop} : wX (pur me env) P E ↔ wR (me (dl env)) (fun o => o.no isTb = true ∧ P o env) (fun x => O.nos isTb x.xs = true ∧ E x env) := by
  unfold pur
  cases me (dl env) with
  | ok o =>
    show wX (if o.no isTb = true then .ok o env else .no) P E ↔ _
    split
    · rename_i h; simp [h]
    · rename_i h; simp [h]
  | ex x =>
    show wX (if O.nos isTb x.xs = true then .ex x env else .no) P E ↔ _
    split
    · rename_i h; simp [h]
    · rename_i h; simp [h]
  | no => simp
@[simp] theorem wX_mv {P : O → VEnv → Prop} : wX (mvM i env) P E ↔ ∃ o, env[i]? = some (some o) ∧ P o (env.set i none) := by
  unfold mvM
  cases q : env[i]? with
  | none => simp
  | some z =>
    cases z with
    | none => simp
    | some o => simp
theorem wS_bind {k : O → VEnv → RS} : wS ((mx env).bind k) Q E ↔ wX (mx env) (fun o e => wS (k o e) Q E) E := by
  cases mx env <;> simp [RX.bind]
@[simp] theorem wS_set : wS (sSet i mx env) Q E ↔ wX (mx env) (fun o e => i < e.length ∧ Q .next (e.set i (some o))) E := by
  unfold sSet
  rw [wS_bind]
  cases mx env with
  | ok o e =>
    rw [wX_ok]
    split
    · rename_i h; simp [h]
    · rename_i h; simp [h]
  | ex x e => simp
  | no => simp
@[simp] theorem wS_setZ : wS (sSetZ i mx env) Q E ↔ wX (mx env) (fun o e => ∃ o', frzO o = some o' ∧ i < e.length ∧ Q .next (e.set i (some o'))) E := by
  unfold sSetZ
  rw [wS_bind]
  cases mx env with
  | ok o e =>
    rw [wX_ok]
    cases q : frzO o with
    | none => simp [q]
    | some o' =>
      show wS (if i < e.length then RX.ok .next (e.set i (some o')) else .no) Q E ↔ _
      split
      · rename_i h; simp [h, q]
      · rename_i h; simp [h]
  | ex x e => simp
  | no => simp
@[simp] theorem wS_ret : wS (sRet mx env) Q E ↔ wX (mx env) (fun o e => Q (.ret o) e) E := by unfold sRet; rw [wS_bind]; simp
@[simp] theorem wS_retN : wS (sRetN env) Q E ↔ Q (.ret (.lf .fz .non)) env := wS_ok
@[simp] theorem wS_drop : wS (sDrop mx env) Q E ↔ wX (mx env) (fun _ e => Q .next e) E := by unfold sDrop; rw [wS_bind]; simp
theorem wS_if : wS (sIf t m1 m2 env) Q E ↔ wR (t (dl env)) (fun b => if b then wS (m1 env) Q E else wS (m2 env) Q E) (fun x => O.nos isTb x.xs = true ∧ E x env) := by
  unfold sIf
  cases t (dl env) with
  | ok b => cases b <;> simp
  | ex x =>
    show wS (if O.nos isTb x.xs = true then .ex x env else .no) Q E ↔ _
    split
    · rename_i h; simp [h]
    · rename_i h; simp [h]
  | no => simp
@[simp] theorem wS_raise1 {C f : String} : wS (sRaise1 C f me env) Q E ↔ wR (me (dl env)) (fun o => o.no isTb = true ∧ E ⟨C, [f], [o]⟩ env) (fun x => O.nos isTb x.xs = true ∧ E x env) := by
  unfold sRaise1
  cases me (dl env) with
  | ok o =>
    show wS (if o.no isTb = true then .ex ⟨C, [f], [o]⟩ env else .no) Q E ↔ _
    split
    · rename_i h; simp [h]
    · rename_i h; simp [h]
  | ex x =>
    show wS (if O.nos isTb x.xs = true then .ex x env else .no) Q E ↔ _
    split
    · rename_i h; simp [h]
    · rename_i h; simp [h]
  | no => simp
theorem wS_cut (I : VEnv → Prop) (h1 : wS (m1 env) (nextK I) E) (h2 : ∀ e, I e → wS (m2 e) Q E) : wS (sSeq m1 m2 env) Q E := by
  rw [wS_seq]
  refine wS_mono h1 (fun c e q => ?_) (fun _ _ q => q)
  cases c with
  | next => exact h2 e q
  | _ => exact q.elim
theorem wS_for {ms : DEnv → R (List Asg)} : wS (sFor ms body env) Q E ↔ wR (ms (dl env)) (fun as => wS (forL body as env) Q E) (fun x => O.nos isTb x.xs = true ∧ E x env) := by
  unfold sFor
  cases ms (dl env) with
  | ok as => simp
  | ex x =>
    show wS (if O.nos isTb x.xs = true then .ex x env else .no) Q E ↔ _
    split
    · rename_i h; simp [h]
    · rename_i h; simp [h]
  | no => simp
theorem forL_cons {a : Asg} {as : List Asg} : wS (forL body (a :: as) env) Q E ↔ ∃ e, a env = some e ∧ wS (body e) (loopK (fun e => wS (forL body as e) Q E) Q) E := by
  have u : forL body (a :: as) env = (match a env with
    | none => .no
    | some e => match body e with
      | .ok .next e' => forL body as e'
      | .ok .cont e' => forL body as e'
      | .ok .brk e' => .ok .next e'
      | .ok (.ret o) e' => .ok (.ret o) e'
      | .ex x e' => .ex x e'
      | .no => .no) := rfl
  rw [u]
  cases a env with
  | none => simp
  | some e =>
    simp only [Option.some.injEq, exists_eq_left']
    cases body e with
    | ok c e => cases c <;> simp
    | ex x e => simp
    | no => simp
@[simp] theorem forL_nil : wS (forL body [] env) Q E ↔ Q .next env := wS_ok
theorem wS_forI {as : List Asg} (I : Nat → VEnv → Prop) (h0 : I 0 env) (hs : ∀ (j : Nat) (a : Asg) (e : VEnv), as[j]? = some a → I j e → ∃ e1, a e = some e1 ∧ wS (body e1) (loopK (I (j + 1)) Q) E) (h1 : ∀ e, I as.length e → Q .next e) : wS (forL body as env) Q E := by
  have go : ∀ (l : List Asg) (j : Nat) (e : VEnv), (∀ k, l[k]? = as[j + k]?) → j + l.length = as.length → I j e → wS (forL body l e) Q E := by
    intro l
    induction l with
    | nil => intro j e _ hj hI; exact forL_nil.mpr (h1 e (by rw [← hj]; simpa using hI))
    | cons a l ih =>
      intro j e hl hj hI
      obtain ⟨e1, ha, hb⟩ := hs j a e (by have := hl 0; simpa using this.symm) hI
      rw [forL_cons]
      refine ⟨e1, ha, wS_mono hb (fun c e q => ?_) (fun _ _ q => q)⟩
      have nx : ∀ e, I (j + 1) e → wS (forL body l e) Q E := fun e q => ih (j + 1) e (fun k => by have := hl (k + 1); simpa [Nat.add_assoc, Nat.add_comm 1 k] using this) (by simp at hj; omega) q
      cases c with
      | next => exact nx e q
      | cont => exact nx e q
      | brk => exact q
      | ret o => exact q
  exact go as 0 env (fun k => by simp) (by simp) h0
theorem wS_forP {α : Type} {xs : List α} {f : α → Asg} (I : List α → VEnv → Prop) (h0 : I [] env) (hs : ∀ (pre : List α) (x : α) (post : List α) (e : VEnv), xs = pre ++ x :: post → I pre e → ∃ e1, f x e = some e1 ∧ wS (body e1) (loopK (I (pre ++ [x])) Q) E) (h1 : ∀ e, I xs e → Q .next e) : wS (forL body (xs.map f) env) Q E := by
  have go : ∀ (l pre : List α) (e : VEnv), xs = pre ++ l → I pre e → wS (forL body (l.map f) e) Q E := by
    intro l
    induction l with
    | nil => intro pre e hx hI; exact forL_nil.mpr (h1 e (by rw [hx, List.append_nil]; exact hI))
    | cons a l ih =>
      intro pre e hx hI
      obtain ⟨e1, ha, hb⟩ := hs pre a l e hx hI
      rw [List.map_cons, forL_cons]
      refine ⟨e1, ha, wS_mono hb (fun c e q => ?_) (fun _ _ q => q)⟩
      have nx : ∀ e, I (pre ++ [a]) e → wS (forL body (l.map f) e) Q E := fun e q => ih (pre ++ [a]) e (by rw [hx]; simp) q
      cases c with
      | next => exact nx e q
      | cont => exact nx e q
      | brk => exact q
      | ret o => exact q
  exact go xs [] env rfl h0
theorem wS_forN {n : Nat} {f : Nat → Asg} (I : Nat → VEnv → Prop) (h0 : I 0 env) (hs : ∀ (j : Nat) (e : VEnv), j < n → I j e → ∃ e1, f j e = some e1 ∧ wS (body e1) (loopK (I (j + 1)) Q) E) (h1 : ∀ e, I n e → Q .next e) : wS (forL body ((List.range n).map f) env) Q E := by
  refine wS_forI I h0 (fun j a e ha hI => ?_) (fun e h => h1 e (by simpa using h))
  rw [List.getElem?_map] at ha
  by_cases hj : j < n
  · rw [List.getElem?_range hj] at ha
    cases ha
    exact hs j e hj hI
  · rw [List.getElem?_eq_none (by simpa using Nat.le_of_not_lt hj)] at ha
    cases ha
theorem wS_forNE {n : Nat} {f : Nat → Asg} (I : VEnv → Nat → VEnv → Prop) (h0 : I env 0 env) (hs : ∀ (j : Nat) (e : VEnv), j < n → I env j e → ∃ e1, f j e = some e1 ∧ wS (body e1) (loopK (I env (j + 1)) Q) E) (h1 : ∀ e, I env n e → Q .next e) : wS (forL body ((List.range n).map f) env) Q E := wS_forN (I env) h0 hs h1
theorem wS_forX {α : Type} {as : List Asg} (xs : List α) (f : α → Asg) (h : as = xs.map f) (I : VEnv → List α → VEnv → Prop) (h0 : I env [] env) (hs : ∀ (pre : List α) (x : α) (post : List α) (e : VEnv), xs = pre ++ x :: post → I env pre e → ∃ e1, f x e = some e1 ∧ wS (body e1) (loopK (I env (pre ++ [x])) Q) E) (h1 : ∀ e, I env xs e → Q .next e) : wS (forL body as env) Q E := by
  subst h; exact wS_forP (I env) h0 hs h1
theorem call_wp {os : List O} {P : O → Prop} {F : Exn → Prop} (h : wS (m (startE n (os.map toArg))) (retK P) (fun x _ => O.owns x.xs = true ∧ F x)) : wR (callM n m os) P F := by
  unfold callM
  have h := h.out
  cases q : m (startE n (os.map toArg)) with
  | ok c e =>
    rw [q] at h
    cases c with
    | next => exact ⟨h⟩
    | brk => exact h.elim
    | cont => exact h.elim
    | ret o =>
      show wR (if o.own = true then R.ok o else .no) P F
      rw [if_pos h.1]; exact ⟨h.2⟩
  | ex x e =>
    rw [q] at h
    show wR (if O.owns x.xs = true then R.ex x else .no : R O) P F
    rw [if_pos h.1]; exact ⟨h.2⟩
  | no => rw [q] at h; exact ⟨h⟩
theorem call_ok {os : List O} (h : wS (m (startE n (os.map toArg))) (retK fun p => p = o) noX) : callM n m os = .ok o :=
  wR_eq.mp (call_wp (wS_mono h (fun _ _ q => q) (fun _ _ q => q.elim)))
theorem call_raises {os : List O} (h : wS (m (startE n (os.map toArg))) (fun _ _ => False) (fun y _ => y = x ∧ O.owns y.xs = true)) : callM n m os = .ex x := by
  unfold callM
  have h := h.out
  cases q : m (startE n (os.map toArg)) with
  | ok c e => rw [q] at h; exact h.elim
  | ex y e =>
    rw [q] at h
    have h : y = x ∧ O.owns y.xs = true := h
    obtain ⟨rfl, w⟩ := h
    show (if O.owns y.xs = true then R.ex y else .no : R O) = _
    rw [if_pos w]
  | no => rw [q] at h; exact h.elim
theorem runs_of {n : Nat} {m : VEnv → RS} (h : ∀ ns : List Int, ns.length ≤ 63 → wS (m (startE n [scrD ns])) (fun c _ => c = .ret (ob true)) noX) : RunsTrue n m := by
  intro ns hl
  have := (h ns hl).out
  cases q : m (startE n [scrD ns]) with
  | ok c e =>
    rw [q] at this
    have hc : c = .ret (ob true) := this
    subst hc
    exact ⟨e, rfl⟩
  | ex x e => rw [q] at this; exact this.elim
  | no => rw [q] at this; exact this.elim
end
end VL
namespace VL
open PySem PySem.Spec PyProof.Rows L2
def lendV : Option (Option O) → R O
  | some (some (.lf k d)) => .ok (lfk k d)
  | some (some (.xn C fs ds)) => .ok (.xn C fs ds)
  | some (some (.xo C _ _)) => .ok (.xn C [] [])
  | some (some o) => .ok (lfk .tb o.er)
  | _ => .no
section
variable {env : VEnv} {de : DEnv} {n i j : Nat} {k k' : Kd} {d d' : D} {ds ds' : List D} {o p : O} {os ps : List O} {a b : Int} {C : String} {fs : List String}
@[simp] theorem eVar_dl : eVar n (dl env) = lendV env[n]? := by
  unfold eVar dl
  rw [List.getElem?_map]
  cases env[n]? with
  | none => rfl
  | some z =>
    cases z with
    | none => rfl
    | some o => cases o <;> rfl
@[simp] theorem lendV_lf : lendV (some (some (.lf k d))) = .ok (lfk k d) := (rfl)
@[simp] theorem lendV_xn : lendV (some (some (.xn C fs ds))) = .ok (.xn C fs ds) := (rfl)
@[simp] theorem lendV_xo {xs : List O} : lendV (some (some (.xo C fs xs))) = .ok (.xn C [] []) := (rfl)
@[simp] theorem lendV_lst : lendV (some (some (.lst os))) = .ok (.lf .tb (.lst (O.ers os))) := (rfl)
@[simp] theorem lendV_tup : lendV (some (some (.tup os))) = .ok (lfk .tb (.tup (O.ers os))) := (rfl)
@[simp] theorem lfk_lst : lfk k (.lst ds) = .lf k (.lst ds) := (rfl)
@[simp] theorem lfk_str {z : Str} : lfk k (.str z) = .lf .fz (.str z) := (rfl)
@[simp] theorem lfk_tup : lfk k (.tup ds) = if D.imms ds then .lf .fz (.tup ds) else .lf k (.tup ds) := (rfl)
@[simp] theorem er_lf : (O.lf k d).er = d := (rfl)
@[simp] theorem er_lst : (O.lst os).er = .lst (O.ers os) := (rfl)
@[simp] theorem er_tup : (O.tup os).er = .tup (O.ers os) := (rfl)
@[simp] theorem er_lfk : (lfk k d).er = d := lfk_er k d
@[simp] theorem ers_nil : O.ers [] = [] := (rfl)
@[simp] theorem ers_cons : O.ers (o :: os) = o.er :: O.ers os := (rfl)
@[simp] theorem ers_append : O.ers (os ++ ps) = O.ers os ++ O.ers ps := by simp [O.ers_eq]
@[simp] theorem ers_map {α : Type} {f : α → O} {xs : List α} : O.ers (xs.map f) = xs.map fun x => (f x).er := by rw [O.ers_eq, List.map_map]; rfl
@[simp] theorem imms_nil : D.imms [] = true := (rfl)
@[simp] theorem imms_cons : D.imms (d :: ds) = (d.imm && D.imms ds) := (rfl)
@[simp] theorem imm_int : (D.int a).imm = true := (rfl)
@[simp] theorem imm_bl {b : Bool} : (D.bl b).imm = true := (rfl)
@[simp] theorem imm_non : D.non.imm = true := (rfl)
@[simp] theorem imm_str {z : Str} : (D.str z).imm = true := (rfl)
@[simp] theorem imm_tup : (D.tup ds).imm = D.imms ds := (rfl)
@[simp] theorem imm_lst : (D.lst ds).imm = false := (rfl)
@[simp] theorem imms_map {α : Type} {f : α → D} {xs : List α} : D.imms (xs.map f) = xs.all fun x => (f x).imm := by rw [D.imms_eq, List.all_map]; rfl
@[simp] theorem no_lf {q : Kd → Bool} : (O.lf k d).no q = !q k := (rfl)
@[simp] theorem no_lst {q : Kd → Bool} : (O.lst os).no q = O.nos q os := (rfl)
@[simp] theorem no_tup {q : Kd → Bool} : (O.tup os).no q = O.nos q os := (rfl)
@[simp] theorem nos_nil {q : Kd → Bool} : O.nos q [] = true := (rfl)
@[simp] theorem nos_cons {q : Kd → Bool} : O.nos q (o :: os) = (o.no q && O.nos q os) := (rfl)
@[simp] theorem nos_append {q : Kd → Bool} : O.nos q (os ++ ps) = (O.nos q os && O.nos q ps) := by simp [O.nos_eq]
@[simp] theorem nos_map {α : Type} {q : Kd → Bool} {f : α → O} {xs : List α} : O.nos q (xs.map f) = xs.all fun x => (f x).no q := by rw [O.nos_eq, List.all_map]; rfl
@[simp] theorem nos_rep {q : Kd → Bool} : O.nos q (List.replicate n o) = (decide (n = 0) || o.no q) := by
  rw [O.nos_eq]
  induction n with
  | zero => rfl
  | succ n ih => rw [List.replicate_succ, List.all_cons, ih]; cases o.no q <;> simp
@[simp] theorem isTb_fz : isTb .fz = false := (rfl)
@[simp] theorem isTb_bo : isTb .bo = false := (rfl)
@[simp] theorem isTb_tb : isTb .tb = true := (rfl)
@[simp] theorem notFz_fz : notFz .fz = false := (rfl)
@[simp] theorem notFz_bo : notFz .bo = true := (rfl)
@[simp] theorem notFz_tb : notFz .tb = true := (rfl)
@[simp] theorem own_lf : (O.lf k d).own = d.imm := (rfl)
@[simp] theorem own_lst : (O.lst os).own = O.owns os := (rfl)
@[simp] theorem own_tup : (O.tup os).own = O.owns os := (rfl)
@[simp] theorem owns_nil : O.owns [] = true := (rfl)
@[simp] theorem owns_cons : O.owns (o :: os) = (o.own && O.owns os) := (rfl)
@[simp] theorem owns_append : O.owns (os ++ ps) = (O.owns os && O.owns ps) := by simp [O.owns_eq]
@[simp] theorem owns_map {α : Type} {f : α → O} {xs : List α} : O.owns (xs.map f) = xs.all fun x => (f x).own := by rw [O.owns_eq, List.all_map]; rfl
@[simp] theorem frz_bo : frzO (.lf .bo d) = some (.lf .bo d) := (rfl)
@[simp] theorem frz_lst : frzO (.lst os) = if O.nos notFz os then some (.lf .fz (.lst (O.ers os))) else none := (rfl)
@[simp] theorem frz_tup : frzO (.tup os) = if O.nos notFz os then some (.lf .fz (.tup (O.ers os))) else none := by
  show (if O.nos notFz os then some (lfk .fz (.tup (O.ers os))) else none) = _
  rw [lfk_fz]
@[simp] theorem guard_some {α : Type} {c : Prop} [Decidable c] {x y : α} : (if c then some x else none) = some y ↔ c ∧ x = y := by split <;> simp [*]
@[simp] theorem toArg_lf_bo {d : D} : toArg (.lf .bo d) = lfk .bo d := (rfl)
@[simp] theorem toArg_lf_tb {d : D} : toArg (.lf .tb d) = lfk .bo d := (rfl)
@[simp] theorem toArg_lst : toArg (.lst os) = if O.nos notFz os then .lf .fz (.lst (O.ers os)) else .lf .bo (.lst (O.ers os)) := (rfl)
@[simp] theorem toArg_tup : toArg (.tup os) = if O.nos notFz os then .lf .fz (.tup (O.ers os)) else lfk .bo (.tup (O.ers os)) := by
  show (if O.nos notFz os then lfk .fz (.tup (O.ers os)) else lfk .bo (.tup (O.ers os))) = _
  rw [lfk_fz]
@[simp] theorem startE_eq : startE n os = os.map some ++ List.replicate (n - os.length) none := (rfl)
@[simp] theorem elems_lf_lst : elems (.lf k (.lst ds)) = some (ds.map (lfk k)) := (rfl)
@[simp] theorem elems_lf_tup : elems (.lf k (.tup ds)) = some (ds.map (lfk k)) := (rfl)
@[simp] theorem elems_lst : elems (.lst os) = some os := (rfl)
@[simp] theorem elems_tup : elems (.tup os) = some os := (rfl)
@[simp] theorem elems_str {z : Str} : elems (.lf k (.str z)) = none := (rfl)
@[simp] theorem isL_lst : (D.lst ds).isL = true := (rfl)
@[simp] theorem isL_tup : (D.tup ds).isL = false := (rfl)
@[simp] theorem isTp_tup : (D.tup ds).isTp = true := (rfl)
@[simp] theorem isTp_lst : (D.lst ds).isTp = false := (rfl)
@[simp] theorem atI_map {α β : Type} {f : α → β} {xs : List α} {i : Int} : atI (xs.map f) i = (atI xs i).map f := by
  unfold atI
  rw [List.length_map]
  cases ixN xs.length i with
  | none => rfl
  | some j => simp
@[simp] theorem atI_cast {α : Type} {xs : List α} {n : Nat} : atI xs (n : Int) = xs[n]? := by
  unfold atI ixN
  by_cases h : n < xs.length
  · simp [h]
  · simp [h, List.getElem?_eq_none (Nat.le_of_not_lt h)]
@[simp] theorem atI_lit {α : Type} {xs : List α} {n : Nat} : atI xs (no_index (OfNat.ofNat n) : Int) = xs[(OfNat.ofNat n : Nat)]? := atI_cast (n := n)
theorem atI_last {α : Type} {xs : List α} : atI xs (-1) = xs[xs.length - 1]? := by
  unfold atI ixN
  cases xs with
  | nil => rfl
  | cons a r =>
    have h1 : ¬ (0 : Int) ≤ -1 := by omega
    have h2 : -(((a :: r).length : Nat) : Int) ≤ -1 := by simp only [List.length_cons]; omega
    have h3 : (-1 + (((a :: r).length : Nat) : Int)).toNat = (a :: r).length - 1 := by simp only [List.length_cons]; omega
    simp only [h1, h2, if_true, if_false, false_and, h3]
    rfl
@[simp] theorem atI_neg1 {α : Type} {xs : List α} : atI xs (-1) = xs.getLast? := by rw [atI_last, List.getLast?_eq_getElem?]
theorem atI_lt {α : Type} {xs : List α} {i : Int} (h : 0 ≤ i) (h2 : i < xs.length) : ∃ x, x ∈ xs ∧ atI xs i = some x ∧ xs[i.toNat]? = some x := by
  obtain ⟨n, rfl⟩ : ∃ n : Nat, i = n := ⟨i.toNat, by omega⟩
  have hn : n < xs.length := by omega
  refine ⟨xs[n], List.getElem_mem hn, ?_, ?_⟩
  · rw [atI_cast]; exact List.getElem?_eq_getElem hn
  · simp [hn]
def optR {α : Type} (z : Option α) : R α := match z with
  | some a => .ok a
  | none => .no
@[simp] theorem optR_some {α : Type} {a : α} : optR (some a) = .ok a := (rfl)
@[simp] theorem wR_optR {α : Type} {z : Option α} {Q : α → Prop} {E : Exn → Prop} : wR (optR z) Q E ↔ ∃ a, z = some a ∧ Q a := by cases z <;> simp [optR]
@[simp] theorem optR_map {α β : Type} {f : α → β} {z : Option α} : optR (z.map f) = (optR z).bind fun a => .ok (f a) := by cases z <;> rfl
theorem gIx_els (h : elems o = some os) : gIx o (oi a) = optR (atI os a) := by
  unfold gIx optR
  rw [h]
  show (match atI os a with
    | some o => R.ok o
    | none => R.no) = _
  cases atI os a <;> rfl
@[simp] theorem gIx_lf_lst : gIx (.lf k (.lst ds)) (oi a) = optR ((atI ds a).map (lfk k)) := by rw [gIx_els elems_lf_lst, atI_map]
@[simp] theorem gIx_lf_tup : gIx (.lf k (.tup ds)) (oi a) = optR ((atI ds a).map (lfk k)) := by rw [gIx_els elems_lf_tup, atI_map]
@[simp] theorem gIx_lst : gIx (.lst os) (oi a) = optR (atI os a) := gIx_els elems_lst
@[simp] theorem gIx_tup : gIx (.tup os) (oi a) = optR (atI os a) := gIx_els elems_tup
@[simp] theorem gIx_scrD {ns : List Int} : gIx (scrD ns) (oi a) = optR ((atI ns a).map oi) := by
  unfold gIx
  show (match atI (ns.map D.int) a with
      | some d => if d.imm then R.ok (O.lf .fz d) else .no
      | none => .no) = _
  rw [atI_map]
  cases atI ns a with
  | none => rfl
  | some v => rfl
@[simp] theorem gLen_lf_lst : gLen (.lf k (.lst ds)) = .ok (oi ds.length) := (rfl)
@[simp] theorem gLen_lf_tup : gLen (.lf k (.tup ds)) = .ok (oi ds.length) := (rfl)
@[simp] theorem gLen_lst : gLen (.lst os) = .ok (oi os.length) := by
  show R.ok (oi ((O.ers os).length : Nat)) = _
  rw [O.ers_eq, List.length_map]
@[simp] theorem gLen_tup : gLen (.tup os) = .ok (oi os.length) := by
  show R.ok (oi ((O.ers os).length : Nat)) = _
  rw [O.ers_eq, List.length_map]
@[simp] theorem gList_lf_lst : gList (.lf k (.lst ds)) = .ok (.lst (ds.map (lfk k))) := (rfl)
@[simp] theorem gList_lf_tup : gList (.lf k (.tup ds)) = .ok (.lst (ds.map (lfk k))) := (rfl)
@[simp] theorem gList_lst : gList (.lst os) = .ok (.lst os) := (rfl)
@[simp] theorem gTuple_lf_lst : gTuple (.lf k (.lst ds)) = .ok (.tup (ds.map (lfk k))) := (rfl)
@[simp] theorem gTuple_lst : gTuple (.lst os) = .ok (.tup os) := (rfl)
@[simp] theorem szOk_iff : szOk n = decide (n ≤ 16777216) := (rfl)
theorem gPlus_els (h1 : elems o = some os) (h2 : elems p = some ps) (l1 : o.er.isL = true) (l2 : p.er.isL = true) : gPlus o p = if os.length + ps.length ≤ 16777216 then .ok (.lst (os ++ ps)) else .no := by
  unfold gPlus
  rw [h1, h2]
  simp [l1, l2]
theorem gPlus_elt (h1 : elems o = some os) (h2 : elems p = some ps) (l1 : o.er.isTp = true) (l2 : p.er.isTp = true) (l3 : o.er.isL = false) : gPlus o p = if os.length + ps.length ≤ 16777216 then .ok (.tup (os ++ ps)) else .no := by
  unfold gPlus
  rw [h1, h2]
  simp [l1, l2, l3]
theorem gPlus_1 : gPlus (.lf k (.lst ds)) (.lf k' (.lst ds')) = if ds.length + ds'.length ≤ 16777216 then .ok (.lst (ds.map (lfk k) ++ ds'.map (lfk k'))) else .no := by rw [gPlus_els elems_lf_lst elems_lf_lst rfl rfl]; simp
@[simp] theorem gPlus_1_g : gPlus (.lf k (.lst ds)) (.lf k' (.lst ds')) = gd (ds.length + ds'.length ≤ 16777216) (.ok (.lst (ds.map (lfk k) ++ ds'.map (lfk k')))) := by
  rw [gPlus_1]
  simp only [gd_eq]
theorem gPlus_2 : gPlus (.lst os) (.lf k' (.lst ds')) = if os.length + ds'.length ≤ 16777216 then .ok (.lst (os ++ ds'.map (lfk k'))) else .no := by rw [gPlus_els elems_lst elems_lf_lst rfl rfl]; simp
@[simp] theorem gPlus_2_g : gPlus (.lst os) (.lf k' (.lst ds')) = gd (os.length + ds'.length ≤ 16777216) (.ok (.lst (os ++ ds'.map (lfk k')))) := by
  rw [gPlus_2]
  simp only [gd_eq]
theorem gPlus_3 : gPlus (.lf k (.lst ds)) (.lst ps) = if ds.length + ps.length ≤ 16777216 then .ok (.lst (ds.map (lfk k) ++ ps)) else .no := by rw [gPlus_els elems_lf_lst elems_lst rfl rfl]; simp
@[simp] theorem gPlus_3_g : gPlus (.lf k (.lst ds)) (.lst ps) = gd (ds.length + ps.length ≤ 16777216) (.ok (.lst (ds.map (lfk k) ++ ps))) := by
  rw [gPlus_3]
  simp only [gd_eq]
theorem gPlus_4 : gPlus (.lst os) (.lst ps) = if os.length + ps.length ≤ 16777216 then .ok (.lst (os ++ ps)) else .no := by rw [gPlus_els elems_lst elems_lst rfl rfl]
@[simp] theorem gPlus_4_g : gPlus (.lst os) (.lst ps) = gd (os.length + ps.length ≤ 16777216) (.ok (.lst (os ++ ps))) := by
  rw [gPlus_4]
  simp only [gd_eq]
theorem gPlus_5 : gPlus (.lf k (.tup ds)) (.lf k' (.tup ds')) = if ds.length + ds'.length ≤ 16777216 then .ok (.tup (ds.map (lfk k) ++ ds'.map (lfk k'))) else .no := by rw [gPlus_elt elems_lf_tup elems_lf_tup rfl rfl rfl]; simp
@[simp] theorem gPlus_5_g : gPlus (.lf k (.tup ds)) (.lf k' (.tup ds')) = gd (ds.length + ds'.length ≤ 16777216) (.ok (.tup (ds.map (lfk k) ++ ds'.map (lfk k')))) := by
  rw [gPlus_5]
  simp only [gd_eq]
theorem gPlus_6 : gPlus (.lf k (.tup ds)) (.tup ps) = if ds.length + ps.length ≤ 16777216 then .ok (.tup (ds.map (lfk k) ++ ps)) else .no := by rw [gPlus_elt elems_lf_tup elems_tup rfl rfl rfl]; simp
@[simp] theorem gPlus_6_g : gPlus (.lf k (.tup ds)) (.tup ps) = gd (ds.length + ps.length ≤ 16777216) (.ok (.tup (ds.map (lfk k) ++ ps))) := by
  rw [gPlus_6]
  simp only [gd_eq]
theorem gPlus_7 : gPlus (.tup os) (.lf k' (.tup ds')) = if os.length + ds'.length ≤ 16777216 then .ok (.tup (os ++ ds'.map (lfk k'))) else .no := by rw [gPlus_elt elems_tup elems_lf_tup rfl rfl rfl]; simp
@[simp] theorem gPlus_7_g : gPlus (.tup os) (.lf k' (.tup ds')) = gd (os.length + ds'.length ≤ 16777216) (.ok (.tup (os ++ ds'.map (lfk k')))) := by
  rw [gPlus_7]
  simp only [gd_eq]
theorem gPlus_8 : gPlus (.tup os) (.tup ps) = if os.length + ps.length ≤ 16777216 then .ok (.tup (os ++ ps)) else .no := by rw [gPlus_elt elems_tup elems_tup rfl rfl rfl]
@[simp] theorem gPlus_8_g : gPlus (.tup os) (.tup ps) = gd (os.length + ps.length ≤ 16777216) (.ok (.tup (os ++ ps))) := by
  rw [gPlus_8]
  simp only [gd_eq]
theorem gLst_ev : gLst os = if os.length ≤ 16777216 then .ok (.lst os) else .no := by unfold gLst; simp
@[simp] theorem gLst_ev_g : gLst os = gd (os.length ≤ 16777216) (.ok (.lst os)) := by
  rw [gLst_ev]
  simp only [gd_eq]
theorem gTup_ev : VL.gTup os = if os.length ≤ 16777216 then .ok (.tup os) else .no := by unfold VL.gTup; simp
@[simp] theorem gTup_ev_g : VL.gTup os = gd (os.length ≤ 16777216) (.ok (.tup os)) := by
  rw [gTup_ev]
  simp only [gd_eq]
@[simp] theorem cutA_map {α β : Type} {f : α → β} {xs : List α} {lo hi : Option Int} : cutA (xs.map f) lo hi = (cutA xs lo hi).map f := by
  unfold cutA
  rw [List.length_map, ← List.map_drop, ← List.map_take]
@[simp] theorem gSl_lf_lst {lo hi : Option Int} : gSl (.lf k (.lst ds)) lo hi = .ok (.lst ((cutA ds lo hi).map (lfk k))) := by
  unfold gSl
  rw [elems_lf_lst]
  simp
@[simp] theorem gSl_lf_tup {lo hi : Option Int} : gSl (.lf k (.tup ds)) lo hi = .ok (.tup ((cutA ds lo hi).map (lfk k))) := by
  unfold gSl
  rw [elems_lf_tup]
  simp
@[simp] theorem gSl_lst {lo hi : Option Int} : gSl (.lst os) lo hi = .ok (.lst (cutA os lo hi)) := by
  unfold gSl
  rw [elems_lst]
  simp
@[simp] theorem oNo_ev' : oNo de = .ok none := (rfl)
def asI (o : O) : R (Option Int) := match o.er with
  | .int i => .ok (some i)
  | _ => .no
@[simp] theorem asI_oi : asI (oi a) = .ok (some a) := (rfl)
@[simp] theorem oYes_ev' {m : DEnv → R O} : oYes m de = (m de).bind asI := (rfl)
@[simp] theorem eSl_ev {m : DEnv → R O} {l u : DEnv → R (Option Int)} : eSl m l u de = (m de).bind fun o => (l de).bind fun lo => (u de).bind fun hi => gSl o lo hi := (rfl)
@[simp] theorem cutA_no {α : Type} {xs : List α} : cutA xs none none = xs := by
  unfold cutA
  rw [HT.sIx_none, HT.sIx_none, List.drop_zero, Nat.sub_zero, List.take_length]
theorem cutA_to {α : Type} {xs : List α} : cutA xs none (some (n : Int)) = xs.take n := by
  unfold cutA
  rw [HT.sIx_nat, HT.sIx_none, List.drop_zero, Nat.sub_zero, ← List.take_eq_take_min]
theorem cutA_from {α : Type} {xs : List α} : cutA xs (some (n : Int)) none = xs.drop n := by
  unfold cutA
  rw [HT.sIx_nat, HT.sIx_none]
  by_cases h : n ≤ xs.length
  · rw [Nat.min_eq_left h, List.take_of_length_le (by simp)]
  · rw [Nat.min_eq_right (by omega), List.drop_length, List.drop_eq_nil_of_le (by omega), List.take_nil]
theorem cutA_ft {α : Type} {xs : List α} : cutA xs (some (i : Int)) (some (j : Int)) = (xs.drop i).take (j - i) := by
  unfold cutA
  rw [HT.sIx_nat, HT.sIx_nat]
  by_cases h : i ≤ xs.length
  · rw [Nat.min_eq_left h]
    by_cases h2 : j ≤ xs.length
    · rw [Nat.min_eq_left h2]
    · rw [Nat.min_eq_right (by omega), List.take_of_length_le (by simp), List.take_of_length_le (by simp; omega)]
  · rw [show min i xs.length = xs.length by omega, List.drop_length, List.drop_eq_nil_of_le (by omega), List.take_nil, List.take_nil]
theorem cutA_to' {α : Type} {xs : List α} (h : 0 ≤ a) : cutA xs none (some a) = xs.take a.toNat := by
  obtain ⟨n, rfl⟩ : ∃ n : Nat, a = n := ⟨a.toNat, by omega⟩
  rw [cutA_to]; rfl
theorem cutA_from' {α : Type} {xs : List α} (h : 0 ≤ a) : cutA xs (some a) none = xs.drop a.toNat := by
  obtain ⟨n, rfl⟩ : ∃ n : Nat, a = n := ⟨a.toNat, by omega⟩
  rw [cutA_from]; rfl
theorem cutA_ft' {α : Type} {xs : List α} (h : 0 ≤ a) (h2 : 0 ≤ b) : cutA xs (some a) (some b) = (xs.drop a.toNat).take (b.toNat - a.toNat) := by
  obtain ⟨n, rfl⟩ : ∃ n : Nat, a = n := ⟨a.toNat, by omega⟩
  obtain ⟨m, rfl⟩ : ∃ n : Nat, b = n := ⟨b.toNat, by omega⟩
  rw [cutA_ft]; rfl
theorem cutA_to_n {α : Type} {xs : List α} : cutA xs none (some (no_index (OfNat.ofNat n) : Int)) = xs.take (OfNat.ofNat n) := cutA_to (n := n)
theorem cutA_from_n {α : Type} {xs : List α} : cutA xs (some (no_index (OfNat.ofNat n) : Int)) none = xs.drop (OfNat.ofNat n) := cutA_from (n := n)
theorem gMod_ev : gMod (oi a) (oi b) = if 0 < b then .ok (oi (a % b)) else .no := by
  show (if cModB a b then R.ok (oi (a % b)) else .no) = _
  unfold cModB
  by_cases h : 0 < b
  · simp [h]
  · simp [h]
@[simp] theorem gMod_ev_g : gMod (oi a) (oi b) = gd (0 < b) (.ok (oi (a % b))) := by
  rw [gMod_ev]
  simp only [gd_eq]
def mulOk (a b : Int) : Prop := CMul a b ∨ CMulW a b
instance : Decidable (mulOk a b) := by unfold mulOk; exact inferInstance
theorem gMul_ev : gMul (oi a) (oi b) = if mulOk a b then .ok (oi (a * b)) else .no := by
  show (if cMulB a b then R.ok (oi (a * b)) else .no) = _
  unfold cMulB
  by_cases h : mulOk a b
  · rw [if_pos h, if_pos (by rw [Bool.or_eq_true]; exact h.imp (decide_eq_true ·) (decide_eq_true ·))]
  · rw [if_neg h, if_neg (by rw [Bool.or_eq_true]; exact fun q => h (q.imp of_decide_eq_true of_decide_eq_true))]
theorem gTimes_ev : gTimes (oi a) (oi b) = if mulOk a b then .ok (oi (a * b)) else .no := gMul_ev
@[simp] theorem gTimes_ev_g : gTimes (oi a) (oi b) = gd (mulOk a b) (.ok (oi (a * b))) := by
  rw [gTimes_ev]
  simp only [gd_eq]
theorem mulOk_r (h : -(2 ^ 64) < b) (h2 : b < 2 ^ 64) : mulOk a b := .inl (.inr ⟨h, h2⟩)
theorem mulOk_l (h : -(2 ^ 64) < a) (h2 : a < 2 ^ 64) : mulOk a b := .inl (.inl ⟨h, h2⟩)
@[simp] theorem mulOk_litL {n : Nat} (h : n < 2 ^ 64) : mulOk (no_index (OfNat.ofNat n) : Int) b := mulOk_l (by show -(2 ^ 64) < (n : Int); omega) (by show (n : Int) < 2 ^ 64; omega)
@[simp] theorem mulOk_lit {n : Nat} (h : n < 2 ^ 64) : mulOk a (no_index (OfNat.ofNat n) : Int) := by
  exact mulOk_r (by show -(2 ^ 64) < (n : Int); omega) (by show (n : Int) < 2 ^ 64; omega)
theorem gTimes_els (h : elems o = some os) (l : o.er.isL = true) : gTimes o (oi a) = if allLf os = true ∧ -(2 ^ 63) ≤ a ∧ a < 2 ^ 63 ∧ os.length * a.toNat ≤ 16777216 then .ok (.lst (List.replicate a.toNat os).flatten) else .no := by
  unfold gTimes
  rw [h]
  show (if (o.er.isL && allLf os && decide (-(2 ^ 63) ≤ a) && decide (a < 2 ^ 63) && szOk (os.length * a.toNat)) = true then R.ok (O.lst (List.replicate a.toNat os).flatten) else .no) = _
  rw [l]
  by_cases q : allLf os = true ∧ -(2 ^ 63) ≤ a ∧ a < 2 ^ 63 ∧ os.length * a.toNat ≤ 16777216
  · rw [if_pos q, if_pos (by simp only [Bool.true_and, Bool.and_eq_true, decide_eq_true_eq, szOk_iff]; exact ⟨⟨⟨q.1, q.2.1⟩, q.2.2.1⟩, q.2.2.2⟩)]
  · rw [if_neg q, if_neg]
    simp only [Bool.true_and, Bool.and_eq_true, decide_eq_true_eq, szOk_iff]
    exact fun z => q ⟨z.1.1.1, z.1.1.2, z.1.2, z.2⟩
theorem gTimes_lst : gTimes (.lst os) (oi a) = if allLf os = true ∧ -(2 ^ 63) ≤ a ∧ a < 2 ^ 63 ∧ os.length * a.toNat ≤ 16777216 then .ok (.lst (List.replicate a.toNat os).flatten) else .no := gTimes_els elems_lst rfl
@[simp] theorem gTimes_lst_g : gTimes (.lst os) (oi a) = gd (allLf os = true ∧ -(2 ^ 63) ≤ a ∧ a < 2 ^ 63 ∧ os.length * a.toNat ≤ 16777216) (.ok (.lst (List.replicate a.toNat os).flatten)) := by
  rw [gTimes_lst]
  simp only [gd_eq]
theorem gTimes_lf_lst : gTimes (.lf k (.lst ds)) (oi a) = if allLf (ds.map (lfk k)) = true ∧ -(2 ^ 63) ≤ a ∧ a < 2 ^ 63 ∧ ds.length * a.toNat ≤ 16777216 then .ok (.lst (List.replicate a.toNat (ds.map (lfk k))).flatten) else .no := by
  rw [gTimes_els elems_lf_lst rfl]; simp
@[simp] theorem gTimes_lf_lst_g : gTimes (.lf k (.lst ds)) (oi a) = gd (allLf (ds.map (lfk k)) = true ∧ -(2 ^ 63) ≤ a ∧ a < 2 ^ 63 ∧ ds.length * a.toNat ≤ 16777216) (.ok (.lst (List.replicate a.toNat (ds.map (lfk k))).flatten)) := by
  rw [gTimes_lf_lst]
  simp only [gd_eq]
@[simp] theorem allLf_nil : allLf [] = true := (rfl)
@[simp] theorem allLf_lf : allLf (.lf k d :: os) = allLf os := (rfl)
@[simp] theorem allLf_map_lfk : allLf (ds.map (lfk k)) = true := by
  induction ds with
  | nil => rfl
  | cons a r ih => rw [List.map_cons]; unfold lfk; split <;> exact ih
@[simp] theorem allLf_map_lf {α : Type} {f : α → D} {g : α → Kd} {xs : List α} : allLf (xs.map fun x => .lf (g x) (f x)) = true := by
  induction xs with
  | nil => rfl
  | cons a r ih => exact ih
end
end VL
namespace VL
open PySem PySem.Spec PyProof.Rows L2
section
variable {env e : VEnv} {de : DEnv} {n i j : Nat} {k k' : Kd} {d d' : D} {ds ds' : List D} {o p : O} {os ps : List O} {a b : Int} {m m1 m2 body : VEnv → RS} {me mi ma mb : DEnv → R O} {Q : Ct → VEnv → Prop} {E : Exn → VEnv → Prop} {x : Exn}
theorem joinK {c : Prop} [Decidable c] (K : Ct → VEnv → Prop) {e1 e2 : VEnv} : (if c then K .next e1 else K .next e2) ↔ K .next (if c then e1 else e2) := by split <;> rfl
theorem joinA {c A P Q : Prop} [Decidable c] : (if c then A ∧ P else Q) ↔ (c → A) ∧ (if c then P else Q) := by split <;> simp [*]
theorem joinB {c A P Q : Prop} [Decidable c] : (if c then P else A ∧ Q) ↔ (¬ c → A) ∧ (if c then P else Q) := by split <;> simp [*]
@[simp] theorem ite_cons {α : Type} {c : Prop} [Decidable c] {x y : α} {xs ys : List α} : (if c then x :: xs else y :: ys) = (if c then x else y) :: (if c then xs else ys) := by split <;> rfl
@[simp] theorem ite_some {α : Type} {c : Prop} [Decidable c] {x y : α} : (if c then some x else some y) = some (if c then x else y) := by split <;> rfl
@[simp] theorem ite_lf {c : Prop} [Decidable c] {x y : D} : (if c then O.lf k x else O.lf k y) = .lf k (if c then x else y) := by split <;> rfl
@[simp] theorem ite_int {c : Prop} [Decidable c] {x y : Int} : (if c then D.int x else D.int y) = .int (if c then x else y) := by split <;> rfl
@[simp] theorem ite_dlst {c : Prop} [Decidable c] {x y : List D} : (if c then D.lst x else D.lst y) = .lst (if c then x else y) := by split <;> rfl
@[simp] theorem ite_dstr {c : Prop} [Decidable c] {x y : Str} : (if c then D.str x else D.str y) = .str (if c then x else y) := by split <;> rfl
@[simp] theorem ite_olst {c : Prop} [Decidable c] {x y : List O} : (if c then O.lst x else O.lst y) = .lst (if c then x else y) := by split <;> rfl
theorem wS_try {E0 : Errs} {C : String} : wS (sTryAs E0 C i body m env) Q E ↔ wS (body env) Q (fun x e => E0.has x.cls = true ∧ if subE x.cls C then (O.nos notFz x.xs = true ∧ i < e.length ∧ wS (sOut i (m (e.set i (some (.xn x.cls x.fs (O.ers x.xs)))))) Q E) else badE x.cls = true ∧ E x e) := by
  unfold sTryAs
  cases body env with
  | ok c e => simp
  | no => simp
  | ex x e =>
    show wS (if E0.has x.cls = true then (if subE x.cls C = true then (if (O.nos notFz x.xs && decide (i < e.length)) = true then sOut i (m (e.set i (some (.xn x.cls x.fs (O.ers x.xs))))) else .no) else (if badE x.cls = true then .ex x e else .no)) else .no) Q E ↔ _
    simp only [wS_ex]
    split
    · rename_i h
      rw [h]
      simp only [true_and]
      split
      · rename_i h2
        split
        · rename_i h3
          simp at h3
          simp [h3]
        · rename_i h3
          simp at h3
          simp
          intro q1 q2
          have := h3 q1
          omega
      · split
        · rename_i q; simp [q]
        · rename_i q; simp [q]
    · rename_i h
      simp [h]
@[simp] theorem wS_sOut {r : RS} : wS (sOut i r) Q E ↔ wS r (fun c e => nxE (e.set i none) = true ∧ (match c with | .ret o => o.nx = true | _ => True) ∧ Q c (e.set i none)) (fun _ _ => False) := by
  cases r with
  | ok c e =>
    cases c with
    | ret o =>
      show wS (if (o.nx && nxE (e.set i none)) = true then RX.ok (.ret o) (e.set i none) else .no) Q E ↔ _
      split
      · rename_i h; simp at h; simp [h]
      · rename_i h; simp at h; simp; intro q1 q2; have := h q2; rw [this] at q1; cases q1
    | next =>
      show wS (if (nxE (e.set i none)) = true then RX.ok .next (e.set i none) else .no) Q E ↔ _
      split
      · rename_i h; simp [h]
      · rename_i h; simp [h]
    | brk =>
      show wS (if (nxE (e.set i none)) = true then RX.ok .brk (e.set i none) else .no) Q E ↔ _
      split
      · rename_i h; simp [h]
      · rename_i h; simp [h]
    | cont =>
      show wS (if (nxE (e.set i none)) = true then RX.ok .cont (e.set i none) else .no) Q E ↔ _
      split
      · rename_i h; simp [h]
      · rename_i h; simp [h]
  | ex x e => exact ⟨fun h => h.out.elim, fun h => h.out.elim⟩
  | no => exact ⟨fun h => h.out.elim, fun h => h.out.elim⟩
@[simp] theorem nxE_nil : nxE [] = true := (rfl)
@[simp] theorem nxE_cons {z : Option O} {e : VEnv} : nxE (z :: e) = (nxO z && nxE e) := (rfl)
@[simp] theorem nxO_none : nxO none = true := (rfl)
@[simp] theorem nxO_some : nxO (some o) = o.nx := (rfl)
@[simp] theorem nx_lf : (O.lf k d).nx = true := (rfl)
@[simp] theorem nx_lst : (O.lst os).nx = O.nxs os := (rfl)
@[simp] theorem nx_tup : (O.tup os).nx = O.nxs os := (rfl)
@[simp] theorem nxs_nil : O.nxs [] = true := (rfl)
@[simp] theorem nxs_cons : O.nxs (o :: os) = (o.nx && O.nxs os) := (rfl)
@[simp] theorem nxs_append : O.nxs (os ++ ps) = (O.nxs os && O.nxs ps) := by simp [O.nxs_eq]
@[simp] theorem nxs_map {α : Type} {f : α → O} {xs : List α} : O.nxs (xs.map f) = xs.all fun x => (f x).nx := by rw [O.nxs_eq, List.all_map]; rfl
theorem gIsE_xn {E0 : Errs} {C D0 : String} {fs : List String} : gIsE E0 D0 (.xn C fs ds) = if E0.has C then .ok (ob (subE C D0)) else .no := (rfl)
@[simp] theorem gIsE_xn_g {E0 : Errs} {C D0 : String} {fs : List String} : gIsE E0 D0 (.xn C fs ds) = gd (E0.has C) (.ok (ob (subE C D0))) := by
  rw [gIsE_xn]
  simp only [gd_eq]
theorem gIsV_xn {E0 : Errs} {C : String} {fs : List String} : gIsV E0 (.xn C fs ds) = if E0.has C then .ok (ob true) else .no := (rfl)
@[simp] theorem gIsV_xn_g {E0 : Errs} {C : String} {fs : List String} : gIsV E0 (.xn C fs ds) = gd (E0.has C) (.ok (ob true)) := by
  rw [gIsV_xn]
  simp only [gd_eq]
theorem gIsT_xn {E0 : Errs} {C : String} {Ds fs : List String} : gIsT E0 Ds (.xn C fs ds) = if E0.has C then .ok (ob (Ds.any (subE C))) else .no := (rfl)
@[simp] theorem gIsT_xn_g {E0 : Errs} {C : String} {Ds fs : List String} : gIsT E0 Ds (.xn C fs ds) = gd (E0.has C) (.ok (ob (Ds.any (subE C)))) := by
  rw [gIsT_xn]
  simp only [gd_eq]
theorem gXf_xn {E0 : Errs} {C f : String} {fs : List String} : gXf E0 f (.xn C fs ds) = if E0.fl C f then optR ((lkD (Str.ofString f) (fs.map Str.ofString) ds).map (lfk .fz)) else .no := by
  unfold gXf
  show (if E0.fl C f = true then (match lkD (Str.ofString f) (fs.map Str.ofString) ds with
    | some d => R.ok (lfk .fz d)
    | none => .no) else .no) = _
  cases lkD (Str.ofString f) (fs.map Str.ofString) ds <;> rfl
@[simp] theorem gXf_xn_g {E0 : Errs} {C f : String} {fs : List String} : gXf E0 f (.xn C fs ds) = gd (E0.fl C f) (optR ((lkD (Str.ofString f) (fs.map Str.ofString) ds).map (lfk .fz))) := by
  rw [gXf_xn]
  simp only [gd_eq]
@[simp] theorem lkD_cons {f q : Str} {ks : List Str} : lkD f (q :: ks) (d :: ds) = if f == q then some d else lkD f ks ds := (rfl)
@[simp] theorem gIsN_ev : gIsN ma de = (ma de).bind fun o => (optR o.er.isNon).bind fun b => .ok (ob b) := by
  unfold gIsN e1
  cases ma de with
  | ok o => show _ = (optR o.er.isNon).bind _; cases h : o.er.isNon <;> simp [R.bind, h, optR]
  | ex x => rfl
  | no => rfl
@[simp] theorem gNotN_ev : gNotN ma de = (ma de).bind fun o => (optR o.er.isNon).bind fun b => .ok (ob (!b)) := by
  unfold gNotN e1
  cases ma de with
  | ok o => show _ = (optR o.er.isNon).bind _; cases h : o.er.isNon <;> simp [R.bind, h, optR]
  | ex x => rfl
  | no => rfl
@[simp] theorem isNon_non : D.non.isNon = some true := (rfl)
@[simp] theorem isNon_int : (D.int a).isNon = some false := (rfl)
@[simp] theorem isNon_lst : (D.lst ds).isNon = some false := (rfl)
@[simp] theorem isNon_tup : (D.tup ds).isNon = some false := (rfl)
@[simp] theorem isNon_str {z : Str} : (D.str z).isNon = some false := (rfl)
@[simp] theorem isNon_bl {b : Bool} : (D.bl b).isNon = some false := (rfl)
@[simp] theorem gIsi_ev {T : String} : gIsi T o = (optR (tyD o.er)).bind fun t => .ok (ob (isTy t T)) := by
  unfold gIsi
  cases tyD o.er <;> rfl
@[simp] theorem tyD_int : tyD (.int a) = some "int" := (rfl)
@[simp] theorem tyD_bl {b : Bool} : tyD (.bl b) = some "bool" := (rfl)
@[simp] theorem tyD_str {z : Str} : tyD (.str z) = some "str" := (rfl)
@[simp] theorem tyD_lst : tyD (.lst ds) = some "list" := (rfl)
@[simp] theorem tyD_tup : tyD (.tup ds) = some "tuple" := (rfl)
@[simp] theorem tyD_non : tyD .non = some "NoneType" := (rfl)
@[simp] theorem gInt_bl {b : Bool} : gInt (ob b) = .ok (oi (if b then 1 else 0)) := (rfl)
@[simp] theorem iSeqM_ev {asg : O → Asg} : iSeqM asg ma de = (ma de).bind fun o => gd ((seqF o).isSome = true) (.ok (((seqF o).getD (.tb, [])).2.map fun d => asg (lfk ((seqF o).getD (.tb, [])).1 d))) := by
  unfold iSeqM
  cases ma de with
  | ok o =>
    show (match seqF o with | some (k, ds) => R.ok (ds.map fun d => asg (lfk k d)) | none => .no) = gd ((seqF o).isSome = true) (.ok (((seqF o).getD (.tb, [])).2.map fun d => asg (lfk ((seqF o).getD (.tb, [])).1 d)))
    cases h : seqF o with
    | none => simp
    | some q => simp
  | ex x => rfl
  | no => rfl
@[simp] theorem seqF_fz_lst : seqF (.lf .fz (.lst ds)) = some (.fz, ds) := (rfl)
@[simp] theorem seqF_bo_lst : seqF (.lf .bo (.lst ds)) = some (.bo, ds) := (rfl)
@[simp] theorem seqF_fz_tup : seqF (.lf .fz (.tup ds)) = some (.fz, ds) := (rfl)
@[simp] theorem seqF_bo_tup : seqF (.lf .bo (.tup ds)) = some (.bo, ds) := (rfl)
@[simp] theorem seqF_lst : seqF (.lst os) = if O.nos notFz os then some (.fz, O.ers os) else none := by
  show (if O.nos notFz os = true then (D.lst (O.ers os)).seq.map fun ds => (Kd.fz, ds) else none) = _
  rfl
def intD : D → Option Int
  | .int n => some n
  | _ => none
@[simp] theorem intD_int : intD (.int a) = some a := (rfl)
@[simp] theorem intD_ite {c : Prop} [Decidable c] : intD (if c then .int a else .int b) = some (if c then a else b) := by split <;> rfl
theorem iR1_ev : iR1 i ma de = (ma de).bind fun o => (optR (intD o.er)).bind fun n => if -(2 ^ 62) ≤ n ∧ n < 2 ^ 62 then .ok ((List.range n.toNat).map fun (q : Nat) => setA i (oi (q : Int))) else .no := by
  unfold iR1
  cases ma de with
  | ok o =>
    show (match o.er with
      | .int n => if (decide (-(2 ^ 62) ≤ n) && decide (n < 2 ^ 62)) = true then R.ok ((List.range n.toNat).map fun (q : Nat) => setA i (.lf .fz (.int (0 + (q : Int))))) else .no
      | _ => .no) = _
    cases h : o.er <;> simp [h, intD, optR, R.bind]
  | ex x => rfl
  | no => rfl
@[simp] theorem iR1_ev_g : iR1 i ma de = (ma de).bind fun o => (optR (intD o.er)).bind fun n => gd (-(2 ^ 62) ≤ n ∧ n < 2 ^ 62) (.ok ((List.range n.toNat).map fun (q : Nat) => setA i (oi (q : Int)))) := by
  rw [iR1_ev]
  simp only [gd_eq]
theorem iR2_ev : iR2 i ma mb de = (ma de).bind fun o => (mb de).bind fun p => (optR (intD o.er)).bind fun l => (optR (intD p.er)).bind fun r => if -(2 ^ 62) ≤ l ∧ l < 2 ^ 62 ∧ -(2 ^ 62) ≤ r ∧ r < 2 ^ 62 then .ok ((List.range (r - l).toNat).map fun (z : Nat) => setA i (oi (l + (z : Int)))) else .no := by
  unfold iR2
  cases ma de with
  | ok o =>
    cases mb de with
    | ok p =>
      simp only [bind_ok]
      cases h : o.er <;> cases h2 : p.er <;> simp [h, h2, intD, R.bind, optR, and_assoc]
    | ex x => rfl
    | no => rfl
  | ex x => rfl
  | no => rfl
@[simp] theorem iR2_ev_g : iR2 i ma mb de = (ma de).bind fun o => (mb de).bind fun p => (optR (intD o.er)).bind fun l => (optR (intD p.er)).bind fun r => gd (-(2 ^ 62) ≤ l ∧ l < 2 ^ 62 ∧ -(2 ^ 62) ≤ r ∧ r < 2 ^ 62) (.ok ((List.range (r - l).toNat).map fun (z : Nat) => setA i (oi (l + (z : Int))))) := by
  rw [iR2_ev]
  simp only [gd_eq]
@[simp] theorem iEnM_ev {js : List Nat} : iEnM js ma de = (ma de).bind fun o => gd ((seqF o).isSome = true ∧ o.er.isL = true) (.ok (((seqF o).getD (.tb, [])).2.mapIdx fun i d => setL js [oi (i : Nat), lfk ((seqF o).getD (.tb, [])).1 d])) := by
  unfold iEnM
  cases ma de with
  | ok o =>
    show (match seqF o, o.er.isL with
      | some (k, ds), true => R.ok (ds.mapIdx fun i d => setL js [.lf .fz (.int (i : Nat)), lfk k d])
      | _, _ => .no) = gd ((seqF o).isSome = true ∧ o.er.isL = true) (.ok (((seqF o).getD (.tb, [])).2.mapIdx fun i d => setL js [oi (i : Nat), lfk ((seqF o).getD (.tb, [])).1 d]))
    cases h : seqF o with
    | none => simp
    | some q =>
      obtain ⟨k, ds⟩ := q
      cases h2 : o.er.isL <;> simp
  | ex x => rfl
  | no => rfl
@[simp] theorem setL_nil : setL [] [] env = some env := (rfl)
@[simp] theorem setL_cons {js : List Nat} : setL (j :: js) (o :: os) env = if j < env.length then setL js os (env.set j (some o)) else none := (rfl)
@[simp] theorem setT_lf {js : List Nat} : setT js (.lf k (.tup ds)) env = setL js (ds.map (lfk k)) env := (rfl)
@[simp] theorem wX_app {P : O → VEnv → Prop} : wX (xApp (pName i) ma env) P E ↔ ∃ os, env[i]? = some (some (.lst os)) ∧ wR (ma (dl env)) (fun o => o.no isTb = true ∧ os.length + 1 ≤ 16777216 ∧ P (.lf .fz .non) (env.set i (some (.lst (os ++ [o]))))) (fun x => O.nos isTb x.xs = true ∧ E x env) := by
  unfold xApp pName
  cases h : env[i]? with
  | none => simp
  | some z =>
    cases z with
    | none => simp
    | some o =>
      have e2 : getP env i [] = some o := by unfold getP; rw [h]; rfl
      have e3 : ∀ s, setP env i [] s = env.set i (some s) := fun s => by unfold setP; rw [h]; rfl
      simp only [e2, e3, Option.some.injEq]
      cases o with
      | lst os =>
        simp only [O.lst.injEq, exists_eq_left']
        cases ma (dl env) with
        | ok o =>
          simp only [wR_ok]
          show wX (if (o.no isTb && szOk (os.length + 1)) = true then RX.ok (.lf .fz .non) (env.set i (some (.lst (os ++ [o])))) else .no) P E ↔ _
          split
          · rename_i q; simp at q; simp [q]
          · rename_i q; simp at q; simp; intro q1 q2; have := q q1; omega
        | ex x =>
          simp only [wR_ex]
          show wX (if O.nos isTb x.xs = true then .ex x env else .no) P E ↔ _
          split
          · rename_i q; simp [q, wX]
          · rename_i q; simp [q]
        | no => simp
      | _ => simp
theorem wS_setIx : wS (sSetIx me (pName i) mi env) Q E ↔ wR (me (dl env)) (fun o => ∃ os j, env[i]? = some (some (.lst os)) ∧ wR (mi (dl env)) (fun y => ∃ v, y.er = .int v ∧ ixN os.length v = some j ∧ o.no isTb = true ∧ Q .next (env.set i (some (.lst (os.set j o))))) (fun _ => False)) (fun x => O.nos isTb x.xs = true ∧ E x env) := by
  unfold sSetIx pName
  cases me (dl env) with
  | no => simp
  | ex x =>
    simp only [wR_ex]
    show wS (if O.nos isTb x.xs = true then .ex x env else .no) Q E ↔ _
    split
    · rename_i q; simp [q]
    · rename_i q; simp [q]
  | ok o =>
    simp only [wR_ok]
    cases h : env[i]? with
    | none => simp
    | some z =>
      cases z with
      | none => simp
      | some p =>
        have e2 : getP env i [] = some p := by unfold getP; rw [h]; rfl
        have e3 : ∀ s, setP env i [] s = env.set i (some s) := fun s => by unfold setP; rw [h]; rfl
        simp only [e2, e3, Option.some.injEq]
        cases p with
        | lst os =>
          cases mi (dl env) with
          | ok y =>
            simp only [wR_ok, O.lst.injEq, exists_and_left, exists_eq_left']
            cases y.er with
            | int v =>
              simp only [D.int.injEq, exists_eq_left']
              cases ixN os.length v with
              | none => simp
              | some j =>
                simp only [Option.some.injEq, exists_eq_left']
                split
                · rename_i q; simp [q]
                · rename_i q; simp [q]
            | _ => simp
          | _ => simp
        | _ => simp
theorem ixN_nat {l : Nat} : ixN l (n : Int) = if n < l then some n else none := by
  unfold ixN
  by_cases h : n < l
  · simp [h]
  · simp [h]
@[simp] theorem wS_ext : wS (sExt i me env) Q E ↔ ∃ os, env[i]? = some (some (.lst os)) ∧ wR (me (dl env)) (fun o => ∃ ps, elems o = some ps ∧ o.er.isL = true ∧ O.nos isTb ps = true ∧ o.no isTb = true ∧ os.length + ps.length ≤ 16777216 ∧ Q .next (env.set i (some (.lst (os ++ ps))))) (fun x => O.nos isTb x.xs = true ∧ E x env) := by
  unfold sExt
  cases h : env[i]? with
  | none => simp
  | some z =>
    cases z with
    | none => simp
    | some o =>
      cases o with
      | lst os =>
        simp only [Option.some.injEq, O.lst.injEq, exists_eq_left']
        cases me (dl env) with
        | ok o =>
          simp only [wR_ok]
          cases elems o with
          | none => simp
          | some ps =>
            simp only [Option.some.injEq, exists_eq_left']
            split
            · rename_i q; simp at q; simp [q]
            · rename_i q; simp at q; simp; intro q1 q2 q3 q4; have := q q1 q2 q3; omega
        | ex x =>
          simp only [wR_ex]
          split
          · rename_i q; simp [q]
          · rename_i q; simp [q]
        | no => simp
      | _ => simp
@[simp] theorem wS_aug {fn : Int → Int → Int} : wS (sAug fn i me env) Q E ↔ ∃ k q, env[i]? = some (some (.lf k (.int q))) ∧ wR (me (dl env)) (fun o => ∃ w, o.er = .int w ∧ Q .next (env.set i (some (oi (fn q w))))) (fun _ => False) := by
  unfold sAug
  cases h : env[i]? with
  | none => simp
  | some z =>
    cases z with
    | none => simp
    | some o =>
      cases o with
      | lf k d =>
        cases d with
        | int q =>
          simp only [Option.some.injEq, O.lf.injEq, D.int.injEq]
          cases me (dl env) with
          | ok o =>
            cases h2 : o.er <;> simp [h2]
            constructor
            · intro h; exact ⟨_, _, ⟨rfl, rfl⟩, h⟩
            · rintro ⟨_, _, ⟨rfl, rfl⟩, h⟩; exact h
          | ex x => simp
          | no => simp
        | _ => simp
      | _ => simp
end
mutual
/-- plain data without bools, no deeper than n -/
def D.pl : Nat → D → Bool
  | _, .non => true
  | _, .int _ => true
  | _, .str z => PySem.PyData.strOk z
  | 0, _ => false
  | n + 1, .lst xs => D.pls n xs
  | n + 1, .tup xs => D.pls n xs
  | _, _ => false
def D.pls : Nat → List D → Bool
  | _, [] => true
  | n, d :: ds => d.pl n && D.pls n ds
end
theorem D.pls_eq {n : Nat} {ds : List D} : D.pls n ds = ds.all (D.pl n) := by
  induction ds with
  | nil => simp [D.pls]
  | cons d ds ih => simp [D.pls, ih]
noncomputable instance instDecEqD : DecidableEq D := fun _ _ => Classical.propDecidable _
mutual
theorem pl_py : ∀ {n : Nat} {d : D}, d.pl n = true → ∃ p, d.py = some p ∧ p.canLay0 = true ∧ p.depth ≤ n
  | n, .non, h => ⟨.none, by simp only [D.py], rfl, by simp [PyData.depth]⟩
  | n, .int i, h => ⟨.int i, by simp only [D.py], rfl, by simp [PyData.depth]⟩
  | n, .str z, h => ⟨.str z, by simp only [D.py], by cases n <;> simpa [D.pl, PyData.canLay0] using h, by simp [PyData.depth]⟩
  | 0, .lst xs, h => by simp [D.pl] at h
  | 0, .tup xs, h => by simp [D.pl] at h
  | 0, .bl b, h => by simp [D.pl] at h
  | n + 1, .bl b, h => by simp [D.pl] at h
  | 0, .dct _ _, h => by simp [D.pl] at h
  | n + 1, .dct _ _, h => by simp [D.pl] at h
  | 0, .dcT _ _, h => by simp [D.pl] at h
  | n + 1, .dcT _ _, h => by simp [D.pl] at h
  | 0, .obj _ _ _, h => by simp [D.pl] at h
  | n + 1, .obj _ _ _, h => by simp [D.pl] at h
  | 0, .scr _, h => by simp [D.pl] at h
  | n + 1, .scr _, h => by simp [D.pl] at h
  | 0, .kt, h => by simp [D.pl] at h
  | 0, .opq, h => by simp [D.pl] at h
  | n + 1, .kt, h => by simp [D.pl] at h
  | n + 1, .opq, h => by simp [D.pl] at h
  | n + 1, .lst xs, h => by
    simp only [D.pl] at h
    obtain ⟨ps, h1, h2, h3⟩ := pls_py h
    exact ⟨.list ps, by simp [D.py, h1], by simp [PyData.canLay0, h2], by simp [PyData.depth]; omega⟩
  | n + 1, .tup xs, h => by
    simp only [D.pl] at h
    obtain ⟨ps, h1, h2, h3⟩ := pls_py h
    exact ⟨.tuple ps, by simp [D.py, h1], by simp [PyData.canLay0, h2], by simp [PyData.depth]; omega⟩
theorem pls_py : ∀ {n : Nat} {ds : List D}, D.pls n ds = true → ∃ ps, D.pys ds = some ps ∧ PyData.canLayAll0 ps = true ∧ PyData.depthAll ps ≤ n
  | n, [], h => ⟨[], by simp only [D.pys], rfl, by simp [PyData.depthAll]⟩
  | n, d :: ds, h => by
    simp only [D.pls, Bool.and_eq_true] at h
    obtain ⟨p, h1, h2, h3⟩ := pl_py h.1
    obtain ⟨ps, h4, h5, h6⟩ := pls_py h.2
    exact ⟨p :: ps, by simp [D.pys, h1, h4], by simp [PyData.canLayAll0, h2, h5], by simp [PyData.depthAll]; omega⟩
end
mutual
theorem pl_eqv : ∀ {n : Nat} {x y : D} {p q : PyData}, x.pl n = true → y.pl n = true → x.py = some p → y.py = some q → PyData.eqv p q = decide (x = y)
  | n, x, .bl b, p, q, hx, hy, ex, ey => by cases n <;> simp [D.pl] at hy
  | n, x, .dct _ _, p, q, hx, hy, ex, ey => by cases n <;> simp [D.pl] at hy
  | n, x, .dcT _ _, p, q, hx, hy, ex, ey => by cases n <;> simp [D.pl] at hy
  | n, x, .obj _ _ _, p, q, hx, hy, ex, ey => by cases n <;> simp [D.pl] at hy
  | n, x, .scr _, p, q, hx, hy, ex, ey => by cases n <;> simp [D.pl] at hy
  | n, x, .kt, p, q, hx, hy, ex, ey => by cases n <;> simp [D.pl] at hy
  | n, x, .opq, p, q, hx, hy, ex, ey => by cases n <;> simp [D.pl] at hy
  | n, .bl b, y, p, q, hx, hy, ex, ey => by cases n <;> simp [D.pl] at hx
  | n, .dct _ _, y, p, q, hx, hy, ex, ey => by cases n <;> simp [D.pl] at hx
  | n, .dcT _ _, y, p, q, hx, hy, ex, ey => by cases n <;> simp [D.pl] at hx
  | n, .obj _ _ _, y, p, q, hx, hy, ex, ey => by cases n <;> simp [D.pl] at hx
  | n, .scr _, y, p, q, hx, hy, ex, ey => by cases n <;> simp [D.pl] at hx
  | n, .kt, y, p, q, hx, hy, ex, ey => by cases n <;> simp [D.pl] at hx
  | n, .opq, y, p, q, hx, hy, ex, ey => by cases n <;> simp [D.pl] at hx
  | n, .non, .non, p, q, hx, hy, ex, ey => by simp only [D.py] at ex ey; cases ex; cases ey; simp [PyData.eqv]
  | n, .non, .int _, p, q, hx, hy, ex, ey => by simp only [D.py] at ex ey; cases ex; cases ey; simp [PyData.eqv]
  | n, .non, .str _, p, q, hx, hy, ex, ey => by simp only [D.py] at ex ey; cases ex; cases ey; simp [PyData.eqv]
  | n, .int _, .non, p, q, hx, hy, ex, ey => by simp only [D.py] at ex ey; cases ex; cases ey; simp [PyData.eqv]
  | n, .int a, .int b, p, q, hx, hy, ex, ey => by
    simp only [D.py] at ex ey; cases ex; cases ey
    by_cases h : a = b
    · subst h; simp [PyData.eqv]
    · simp [PyData.eqv, h]
  | n, .int _, .str _, p, q, hx, hy, ex, ey => by simp only [D.py] at ex ey; cases ex; cases ey; simp [PyData.eqv]
  | n, .str _, .non, p, q, hx, hy, ex, ey => by simp only [D.py] at ex ey; cases ex; cases ey; simp [PyData.eqv]
  | n, .str _, .int _, p, q, hx, hy, ex, ey => by simp only [D.py] at ex ey; cases ex; cases ey; simp [PyData.eqv]
  | n, .str a, .str b, p, q, hx, hy, ex, ey => by
    simp only [D.py] at ex ey; cases ex; cases ey
    by_cases h : a = b
    · subst h; simp [PyData.eqv]
    · simp [PyData.eqv, h]
  | 0, .lst _, y, p, q, hx, hy, ex, ey => by simp [D.pl] at hx
  | 0, .tup _, y, p, q, hx, hy, ex, ey => by simp [D.pl] at hx
  | 0, x, .lst _, p, q, hx, hy, ex, ey => by simp [D.pl] at hy
  | 0, x, .tup _, p, q, hx, hy, ex, ey => by simp [D.pl] at hy
  | n + 1, .lst xs, .non, p, q, hx, hy, ex, ey => by
    simp only [D.py, Option.map_eq_some_iff] at ex ey; obtain ⟨ps, _, rfl⟩ := ex; cases ey; simp [PyData.eqv]
  | n + 1, .lst xs, .int _, p, q, hx, hy, ex, ey => by
    simp only [D.py, Option.map_eq_some_iff] at ex ey; obtain ⟨ps, _, rfl⟩ := ex; cases ey; simp [PyData.eqv]
  | n + 1, .lst xs, .str _, p, q, hx, hy, ex, ey => by
    simp only [D.py, Option.map_eq_some_iff] at ex ey; obtain ⟨ps, _, rfl⟩ := ex; cases ey; simp [PyData.eqv]
  | n + 1, .tup xs, .non, p, q, hx, hy, ex, ey => by
    simp only [D.py, Option.map_eq_some_iff] at ex ey; obtain ⟨ps, _, rfl⟩ := ex; cases ey; simp [PyData.eqv]
  | n + 1, .tup xs, .int _, p, q, hx, hy, ex, ey => by
    simp only [D.py, Option.map_eq_some_iff] at ex ey; obtain ⟨ps, _, rfl⟩ := ex; cases ey; simp [PyData.eqv]
  | n + 1, .tup xs, .str _, p, q, hx, hy, ex, ey => by
    simp only [D.py, Option.map_eq_some_iff] at ex ey; obtain ⟨ps, _, rfl⟩ := ex; cases ey; simp [PyData.eqv]
  | n + 1, .non, .lst xs, p, q, hx, hy, ex, ey => by
    simp only [D.py, Option.map_eq_some_iff] at ex ey; obtain ⟨ps, _, rfl⟩ := ey; cases ex; simp [PyData.eqv]
  | n + 1, .int _, .lst xs, p, q, hx, hy, ex, ey => by
    simp only [D.py, Option.map_eq_some_iff] at ex ey; obtain ⟨ps, _, rfl⟩ := ey; cases ex; simp [PyData.eqv]
  | n + 1, .str _, .lst xs, p, q, hx, hy, ex, ey => by
    simp only [D.py, Option.map_eq_some_iff] at ex ey; obtain ⟨ps, _, rfl⟩ := ey; cases ex; simp [PyData.eqv]
  | n + 1, .non, .tup xs, p, q, hx, hy, ex, ey => by
    simp only [D.py, Option.map_eq_some_iff] at ex ey; obtain ⟨ps, _, rfl⟩ := ey; cases ex; simp [PyData.eqv]
  | n + 1, .int _, .tup xs, p, q, hx, hy, ex, ey => by
    simp only [D.py, Option.map_eq_some_iff] at ex ey; obtain ⟨ps, _, rfl⟩ := ey; cases ex; simp [PyData.eqv]
  | n + 1, .str _, .tup xs, p, q, hx, hy, ex, ey => by
    simp only [D.py, Option.map_eq_some_iff] at ex ey; obtain ⟨ps, _, rfl⟩ := ey; cases ex; simp [PyData.eqv]
  | n + 1, .lst xs, .tup ys, p, q, hx, hy, ex, ey => by
    simp only [D.py, Option.map_eq_some_iff] at ex ey; obtain ⟨ps, _, rfl⟩ := ey; obtain ⟨ps2, _, rfl⟩ := ex; simp [PyData.eqv]
  | n + 1, .tup xs, .lst ys, p, q, hx, hy, ex, ey => by
    simp only [D.py, Option.map_eq_some_iff] at ex ey; obtain ⟨ps, _, rfl⟩ := ey; obtain ⟨ps2, _, rfl⟩ := ex; simp [PyData.eqv]
  | n + 1, .lst xs, .lst ys, p, q, hx, hy, ex, ey => by
    simp only [D.py, Option.map_eq_some_iff] at ex ey; obtain ⟨ps, e1, rfl⟩ := ex; obtain ⟨qs, e2, rfl⟩ := ey
    simp only [D.pl] at hx hy
    show PyData.eqvAll ps qs = _
    rw [pls_eqv hx hy e1 e2]; simp
  | n + 1, .tup xs, .tup ys, p, q, hx, hy, ex, ey => by
    simp only [D.py, Option.map_eq_some_iff] at ex ey; obtain ⟨ps, e1, rfl⟩ := ex; obtain ⟨qs, e2, rfl⟩ := ey
    simp only [D.pl] at hx hy
    show PyData.eqvAll ps qs = _
    rw [pls_eqv hx hy e1 e2]; simp
theorem pls_eqv : ∀ {n : Nat} {xs ys : List D} {ps qs : List PyData}, D.pls n xs = true → D.pls n ys = true → D.pys xs = some ps → D.pys ys = some qs → PyData.eqvAll ps qs = decide (xs = ys)
  | n, [], [], ps, qs, hx, hy, ex, ey => by simp only [D.pys] at ex ey; cases ex; cases ey; simp [PyData.eqvAll]
  | n, [], y :: ys, ps, qs, hx, hy, ex, ey => by
    simp only [D.pys] at ex ey; cases ex
    split at ey
    · cases ey; simp [PyData.eqvAll]
    · cases ey
  | n, x :: xs, [], ps, qs, hx, hy, ex, ey => by
    simp only [D.pys] at ex ey; cases ey
    split at ex
    · cases ex; simp [PyData.eqvAll]
    · cases ex
  | n, x :: xs, y :: ys, ps, qs, hx, hy, ex, ey => by
    simp only [D.pys] at ex ey
    simp only [D.pls, Bool.and_eq_true] at hx hy
    split at ex
    · rename_i p1 ps1 e1 e2
      cases ex
      split at ey
      · rename_i q1 qs1 e3 e4
        cases ey
        simp only [PyData.eqvAll]
        rw [pl_eqv hx.1 hy.1 e1 e3, pls_eqv hx.2 hy.2 e2 e4]
        by_cases h1 : x = y
        · by_cases h2 : xs = ys
          · simp [h1, h2]
          · simp [h1, h2]
        · simp [h1]
      · cases ey
    · cases ex
end
theorem eqD_pl {x y : D} (hx : x.pl 60 = true) (hy : y.pl 60 = true) : eqD x y = some (decide (x = y)) := by
  obtain ⟨p, e1, c1, d1⟩ := pl_py hx
  obtain ⟨q, e2, c2, d2⟩ := pl_py hy
  unfold eqD
  rw [e1, e2]
  have s1 : SeqAt.shaped p = true := by unfold SeqAt.shaped; rw [c1, Bool.true_and]; exact decide_eq_true (by omega)
  have s2 : SeqAt.shaped q = true := by unfold SeqAt.shaped; rw [c2, Bool.true_and]; exact decide_eq_true (by omega)
  simp only [s1, s2, Bool.and_self, if_true, Option.some.injEq]
  exact pl_eqv hx hy e1 e2
section
variable {n : Nat} {o p : O} {ds : List D}
@[simp] theorem pl_int {a : Int} : (D.int a).pl n = true := by cases n <;> simp [D.pl]
@[simp] theorem pl_str {a : Str} : (D.str a).pl n = PySem.PyData.strOk a := by cases n <;> simp [D.pl]
@[simp] theorem pl_non : D.non.pl n = true := by cases n <;> simp [D.pl]
@[simp] theorem pl_lst : (D.lst ds).pl n = (decide (0 < n) && D.pls (n - 1) ds) := by cases n <;> simp [D.pl]
@[simp] theorem pl_tup : (D.tup ds).pl n = (decide (0 < n) && D.pls (n - 1) ds) := by cases n <;> simp [D.pl]
@[simp] theorem pls_nil : D.pls n [] = true := by simp [D.pls]
@[simp] theorem pls_cons {d : D} : D.pls n (d :: ds) = (d.pl n && D.pls n ds) := by simp [D.pls]
@[simp] theorem pls_append {ds' : List D} : D.pls n (ds ++ ds') = (D.pls n ds && D.pls n ds') := by simp [D.pls_eq]
@[simp] theorem pls_map {α : Type} {f : α → D} {xs : List α} : D.pls n (xs.map f) = xs.all fun x => (f x).pl n := by rw [D.pls_eq, List.all_map]; rfl
@[simp] theorem gEq_pl (h1 : o.er.pl 60 = true) (h2 : p.er.pl 60 = true) : gEq o p = .ok (ob (decide (o.er = p.er))) := by
  unfold gEq; rw [eqD_pl h1 h2]
@[simp] theorem gNe_pl (h1 : o.er.pl 60 = true) (h2 : p.er.pl 60 = true) : gNe o p = .ok (ob (!decide (o.er = p.er))) := by
  unfold gNe; rw [eqD_pl h1 h2]
end
end VL
namespace VL
open PySem PySem.Spec PyProof.Rows L2
section
variable {α β : Type} {env : VEnv} {e de : DEnv} {n i j : Nat} {k : Kd} {d : D} {ds : List D} {o p : O} {os : List O} {a b : Int} {ma mb me : DEnv → R O} {t : DEnv → R Bool} {asg : O → AsgE} {fl : Bool} {x : Exn} {E : Exn → Prop}
@[simp] theorem dl_len : (dl env).length = env.length := by unfold dl; rw [List.length_map]
@[simp] theorem wipeE_nil : wipeE e [] = e := (rfl)
@[simp] theorem wipeE_cons {vs : List Nat} {v : Nat} : wipeE e (v :: vs) = (wipeE e vs).set v none := (rfl)
@[simp] theorem lentO_lf : lentO (.lf k d) = .lf k d := (rfl)
@[simp] theorem lentO_lst : lentO (.lst os) = .lf .tb (.lst (O.ers os)) := (rfl)
@[simp] theorem lentO_tup : lentO (.tup os) = .lf .tb (.tup (O.ers os)) := (rfl)
@[simp] theorem lentO_lfk : lentO (lfk k d) = lfk k d := by unfold lfk; split <;> rfl
@[simp] theorem asgN_ev : asgN j o e = some (e.set j (some (lentO o))) := (rfl)
@[simp] theorem asgL_nil : asgL [] [] e = some e := (rfl)
@[simp] theorem asgL_cons {js : List Nat} : asgL (j :: js) (o :: os) e = asgL js os (e.set j (some (lentO o))) := (rfl)
@[simp] theorem asgT_lf {js : List Nat} : asgT js (.lf k (.tup ds)) e = asgL js (ds.map (lfk k)) e := (rfl)
@[simp] theorem asgT_tup {js : List Nat} : asgT js (.tup os) e = asgL js os e := (rfl)
theorem eVar_setN {z : Option O} : eVar i (e.set j z) = if i = j then (if i < e.length then (match z with
    | some (.lf k d) => .ok (lfk k d)
    | some (.xn C fs ds) => .ok (.xn C fs ds)
    | _ => .no) else .no) else eVar i e := by
  unfold eVar
  rw [List.getElem?_set]
  by_cases h : i = j
  · subst h
    simp only [if_true]
    by_cases h2 : i < e.length
    · rw [if_pos h2, if_pos h2]
      cases z with
      | none => rfl
      | some o => cases o <;> rfl
    · rw [if_neg h2, if_neg h2]
  · rw [if_neg (Ne.symm h), if_neg h]
@[simp] theorem eVar_set_none : eVar i (e.set j none) = if i = j then .no else eVar i e := by
  rw [eVar_setN]
  split
  · split <;> rfl
  · rfl
@[simp] theorem eVar_set_lf : eVar i (e.set j (some (.lf k d))) = if i = j then (if i < e.length then .ok (lfk k d) else .no) else eVar i e := eVar_setN
@[simp] theorem eVar_set_lfk : eVar i (e.set j (some (lfk k d))) = if i = j then (if i < e.length then .ok (lfk k d) else .no) else eVar i e := by
  unfold lfk
  split
  · rename_i h
    rw [eVar_set_lf, lfk_fz]
  · rename_i h
    rw [eVar_set_lf]
    unfold lfk
    rw [if_neg h]
@[simp] theorem seqE_lf_lst : seqE (.lf k (.lst ds)) = some (true, k, ds) := (rfl)
@[simp] theorem seqE_lf_tup : seqE (.lf k (.tup ds)) = some (true, k, ds) := (rfl)
@[simp] theorem seqE_lst : seqE (.lst os) = some (false, .tb, O.ers os) := (rfl)
@[simp] theorem seqE_tup : seqE (.tup os) = some (false, .tb, O.ers os) := (rfl)
@[simp] theorem jSq_ev : jSq ma de = (ma de).bind fun o => gd ((seqE o).isSome = true) (.ok (((seqE o).getD (false, .tb, [])).1, ((seqE o).getD (false, .tb, [])).2.2.map (lfk ((seqE o).getD (false, .tb, [])).2.1))) := by
  unfold jSq
  cases ma de with
  | ok o =>
    show (match seqE o with | some (fl, k, ds) => R.ok (fl, ds.map (lfk k)) | none => .no) = gd ((seqE o).isSome = true) (.ok (((seqE o).getD (false, .tb, [])).1, ((seqE o).getD (false, .tb, [])).2.2.map (lfk ((seqE o).getD (false, .tb, [])).2.1)))
    cases h : seqE o with
    | none => simp
    | some q => simp
  | ex x => rfl
  | no => rfl
theorem jR1_ev : jR1 ma de = (ma de).bind fun o => (optR (intD o.er)).bind fun n => if -(2 ^ 62) ≤ n ∧ n < 2 ^ 62 then .ok (true, (List.range n.toNat).map fun (q : Nat) => oi (q : Int)) else .no := by
  unfold jR1
  cases ma de with
  | ok o =>
    show (match o.er with
      | .int n => if (decide (-(2 ^ 62) ≤ n) && decide (n < 2 ^ 62)) = true then R.ok (true, (List.range n.toNat).map fun (q : Nat) => O.lf .fz (.int (0 + (q : Int)))) else .no
      | _ => .no) = _
    cases h : o.er <;> simp [h, intD, optR, R.bind]
  | ex x => rfl
  | no => rfl
@[simp] theorem jR1_ev_g : jR1 ma de = (ma de).bind fun o => (optR (intD o.er)).bind fun n => gd (-(2 ^ 62) ≤ n ∧ n < 2 ^ 62) (.ok (true, (List.range n.toNat).map fun (q : Nat) => oi (q : Int))) := by
  rw [jR1_ev]
  simp only [gd_eq]
theorem jR2_ev : jR2 ma mb de = (ma de).bind fun o => (mb de).bind fun p => (optR (intD o.er)).bind fun l => (optR (intD p.er)).bind fun r => if -(2 ^ 62) ≤ l ∧ l < 2 ^ 62 ∧ -(2 ^ 62) ≤ r ∧ r < 2 ^ 62 then .ok (true, (List.range (r - l).toNat).map fun (z : Nat) => oi (l + (z : Int))) else .no := by
  unfold jR2
  cases ma de with
  | ok o =>
    cases mb de with
    | ok p =>
      simp only [bind_ok]
      cases h : o.er <;> cases h2 : p.er <;> simp [h, h2, intD, R.bind, optR, and_assoc]
    | ex x => rfl
    | no => rfl
  | ex x => rfl
  | no => rfl
@[simp] theorem jR2_ev_g : jR2 ma mb de = (ma de).bind fun o => (mb de).bind fun p => (optR (intD o.er)).bind fun l => (optR (intD p.er)).bind fun r => gd (-(2 ^ 62) ≤ l ∧ l < 2 ^ 62 ∧ -(2 ^ 62) ≤ r ∧ r < 2 ^ 62) (.ok (true, (List.range (r - l).toNat).map fun (z : Nat) => oi (l + (z : Int)))) := by
  rw [jR2_ev]
  simp only [gd_eq]
theorem gLc_ev {vs : List Nat} {src : DEnv → R (Bool × List O)} : gLc vs src asg t me de = (src de).bind fun q => if q.2.length ≤ 16777216 then (lcL q.1 asg t me (wipeE de vs) q.2).bind fun os => .ok (.lst os) else .no := by
  unfold gLc
  simp
@[simp] theorem gLc_ev_g {vs : List Nat} {src : DEnv → R (Bool × List O)} : gLc vs src asg t me de = (src de).bind fun q => gd (q.2.length ≤ 16777216) ((lcL q.1 asg t me (wipeE de vs) q.2).bind fun os => .ok (.lst os)) := by
  rw [gLc_ev]
  simp only [gd_eq]
@[simp high] theorem ers_oi' {ns : List Int} : O.ers (ns.map oi) = ns.map D.int := ers_oi
@[simp high] theorem ers_lfk' {k : Kd} {ds : List D} : O.ers (ds.map (lfk k)) = ds := by
  rw [O.ers_eq, List.map_map]
  have : (O.er ∘ lfk k) = id := funext fun d => lfk_er k d
  rw [this, List.map_id]
@[simp high] theorem ers_lfk'' {k : Kd} {f : α → D} {xs : List α} : O.ers (xs.map (lfk k ∘ f)) = xs.map f := by
  rw [← List.map_map, ers_lfk']
@[simp] theorem lfk_comp_int {k : Kd} : (lfk k ∘ D.int) = oi := (rfl)
@[simp] theorem ers_rep : O.ers (List.replicate n o) = List.replicate n o.er := by rw [O.ers_eq, List.map_replicate]
@[simp] theorem owns_rep : O.owns (List.replicate n o) = (decide (n = 0) || o.own) := by
  rw [O.owns_eq]
  induction n with
  | zero => rfl
  | succ n ih => rw [List.replicate_succ, List.all_cons, ih]; cases o.own <;> simp
@[simp] theorem lcL_nil : lcL fl asg t me e [] = .ok [] := (rfl)
theorem lcL_cons {r : List O} : lcL fl asg t me e (o :: r) = (optR (asg o e)).bind fun e1 => (match t e1 with
      | .ok false => lcL fl asg t me e r
      | .ok true => (match me e1 with
        | .ok y => if y.own || fl then (lcL fl asg t me e r).bind fun ys => R.ok (y :: ys) else R.no
        | _ => R.no)
      | _ => R.no : R (List O)) := by
  show (match asg o e with
    | none => .no
    | some e => match t e with
      | .ok false => lcL fl asg t me _ r
      | .ok true => match me e with
        | .ok y => if y.own || fl then (lcL fl asg t me _ r).bind fun ys => .ok (y :: ys) else .no
        | _ => .no
      | _ => .no : R (List O)) = _
  cases asg o e <;> rfl
def lcF (fl : Bool) (t : α → R Bool) (m : α → R O) : List α → R (List O)
  | [] => .ok []
  | x :: r => match t x with
      | .ok false => lcF fl t m r
      | .ok true => (match m x with
        | .ok y => if y.own || fl then (lcF fl t m r).bind fun ys => .ok (y :: ys) else .no
        | _ => .no)
      | _ => .no
@[simp] theorem lcL_lcF {xs : List α} {φ : α → O} : lcL fl asg t me e (xs.map φ) = lcF fl (fun x => (optR (asg (φ x) e)).bind t) (fun x => (optR (asg (φ x) e)).bind me) xs := by
  induction xs with
  | nil => rfl
  | cons x r ih =>
    rw [List.map_cons, lcL_cons, ih]
    show _ = (match (optR (asg (φ x) e)).bind t with
      | .ok false => lcF fl (fun x => (optR (asg (φ x) e)).bind t) (fun x => (optR (asg (φ x) e)).bind me) r
      | .ok true => (match (optR (asg (φ x) e)).bind me with
        | .ok y => if y.own || fl then (lcF fl (fun x => (optR (asg (φ x) e)).bind t) (fun x => (optR (asg (φ x) e)).bind me) r).bind fun ys => .ok (y :: ys) else .no
        | _ => .no)
      | _ => .no : R (List O))
    cases asg (φ x) e <;> rfl
theorem lcF_gen {q : α → Bool} {c : α → Prop} {g : α → O} {xs : List α} : lcF fl (fun x => .ok (q x)) (fun x => gd (c x) (.ok (g x))) xs = gd (∀ x ∈ xs, q x = true → c x ∧ ((g x).own || fl) = true) (.ok ((xs.filter q).map g)) := by
  induction xs with
  | nil => rw [gd_pos (by simp)]; rfl
  | cons x r ih =>
    show (match (R.ok (q x) : R Bool) with
      | .ok false => lcF fl (fun x => .ok (q x)) (fun x => gd (c x) (.ok (g x))) r
      | .ok true => (match gd (c x) (.ok (g x)) with
        | .ok y => if y.own || fl then (lcF fl (fun x => .ok (q x)) (fun x => gd (c x) (.ok (g x))) r).bind fun ys => .ok (y :: ys) else .no
        | _ => .no)
      | _ => .no : R (List O)) = _
    cases hq : q x with
    | false =>
      simp only []
      rw [ih, List.filter_cons_of_neg (by simp [hq])]
      congr 1
      simp [hq]
    | true =>
      simp only []
      rw [List.filter_cons_of_pos hq]
      by_cases hc : c x
      · rw [gd_pos hc]
        by_cases ho : ((g x).own || fl) = true
        · simp only [ho, if_true]
          rw [ih, bind_gd]
          congr 1
          simp only [List.mem_cons, forall_eq_or_imp, hq, hc, ho, true_and, forall_const, and_self]
        · simp only [ho]
          rw [gd_neg (fun z => ho (z x List.mem_cons_self hq).2)]
          rfl
      · rw [gd_neg hc, gd_neg (fun z => hc (z x List.mem_cons_self hq).1)]
@[simp] theorem lcF_1 {q : α → Bool} {g : α → O} {xs : List α} : lcF fl (fun x => .ok (q x)) (fun x => .ok (g x)) xs = gd (∀ x ∈ xs, q x = true → ((g x).own || fl) = true) (.ok ((xs.filter q).map g)) := by
  have := lcF_gen (fl := fl) (q := q) (c := fun _ => True) (g := g) (xs := xs)
  simpa using this
@[simp] theorem lcF_2 {q : α → Bool} {c : α → Prop} {g : α → O} {xs : List α} : lcF fl (fun x => .ok (q x)) (fun x => gd (c x) (.ok (g x))) xs = gd (∀ x ∈ xs, q x = true → c x ∧ ((g x).own || fl) = true) (.ok ((xs.filter q).map g)) := lcF_gen
@[simp high] theorem lcF_3 {g : α → O} {xs : List α} : lcF fl (fun _ => .ok true) (fun x => .ok (g x)) xs = gd (∀ x ∈ xs, ((g x).own || fl) = true) (.ok (xs.map g)) := by
  have := lcF_gen (fl := fl) (q := fun _ => true) (c := fun _ => True) (g := g) (xs := xs)
  rw [show xs.filter (fun _ => true) = xs from List.filter_eq_self.mpr fun _ _ => rfl] at this
  simpa using this
@[simp high] theorem lcF_4 {c : α → Prop} {g : α → O} {xs : List α} : lcF fl (fun _ => .ok true) (fun x => gd (c x) (.ok (g x))) xs = gd (∀ x ∈ xs, c x ∧ ((g x).own || fl) = true) (.ok (xs.map g)) := by
  have := lcF_gen (fl := fl) (q := fun _ => true) (c := c) (g := g) (xs := xs)
  rw [show xs.filter (fun _ => true) = xs from List.filter_eq_self.mpr fun _ _ => rfl] at this
  simpa using this
theorem lcF_of {t : α → R Bool} {m : α → R O} {xs : List α} (q : α → Bool) (g : α → O) (ht : ∀ x ∈ xs, t x = .ok (q x)) (hm : ∀ x ∈ xs, q x = true → m x = .ok (g x)) (ho : ∀ x ∈ xs, q x = true → ((g x).own || fl) = true) : lcF fl t m xs = .ok ((xs.filter q).map g) := by
  induction xs with
  | nil => rfl
  | cons x r ih =>
    have ih := ih (fun y hy => ht y (List.mem_cons_of_mem _ hy)) (fun y hy => hm y (List.mem_cons_of_mem _ hy)) (fun y hy => ho y (List.mem_cons_of_mem _ hy))
    have mm := List.mem_cons_self (a := x) (l := r)
    show (match t x with
      | .ok false => lcF fl t m r
      | .ok true => (match m x with
        | .ok y => if y.own || fl then (lcF fl t m r).bind fun ys => .ok (y :: ys) else .no
        | _ => .no)
      | _ => .no : R (List O)) = _
    rw [ht x mm]
    cases hq : q x with
    | false => rw [List.filter_cons_of_neg (by simp [hq])]; exact ih
    | true =>
      rw [List.filter_cons_of_pos hq]
      simp only [hm x mm hq, ho x mm hq, if_true, ih]
      rfl
theorem lcF_ofM {m : α → R O} {xs : List α} (g : α → O) (hm : ∀ x ∈ xs, m x = .ok (g x)) (ho : ∀ x ∈ xs, ((g x).own || fl) = true) : lcF fl (fun _ => .ok true) m xs = .ok (xs.map g) := by
  have := lcF_of (fl := fl) (t := fun _ => .ok true) (xs := xs) (fun _ => true) g (fun _ _ => rfl) (fun x hx _ => hm x hx) (fun x hx _ => ho x hx)
  rwa [show xs.filter (fun _ => true) = xs from List.filter_eq_self.mpr fun _ _ => rfl] at this
@[simp] theorem lcF_nil {t : α → R Bool} {m : α → R O} : lcF fl t m [] = .ok [] := (rfl)
@[simp] theorem lcF_map {t : β → R Bool} {m : β → R O} {f : α → β} {xs : List α} : lcF fl t m (xs.map f) = lcF fl (fun x => t (f x)) (fun x => m (f x)) xs := by
  induction xs with
  | nil => rfl
  | cons x r ih =>
    show (match t (f x) with
      | .ok false => lcF fl t m (r.map f)
      | .ok true => (match m (f x) with
        | .ok y => if y.own || fl then (lcF fl t m (r.map f)).bind fun ys => .ok (y :: ys) else .no
        | _ => .no)
      | _ => .no : R (List O)) = _
    rw [ih]; rfl
@[simp] theorem gSum_ev : gSum o = (optR (listInts o.er)).bind fun ns => .ok (oi ns.sum) := by
  unfold gSum
  cases listInts o.er <;> rfl
@[simp] theorem listInts_map {f : α → Int} {xs : List α} : listInts (.lst (xs.map fun x => D.int (f x))) = some (xs.map f) := by
  show intsOf _ = _
  have : (xs.map fun x => D.int (f x)) = (xs.map f).map D.int := by rw [List.map_map]; rfl
  rw [this, intsOf_map]
@[simp] theorem listInts_int {ns : List Int} : listInts (.lst (ns.map D.int)) = some ns := intsOf_map ns
@[simp] theorem listInts_cons : listInts (.lst (.int a :: ds)) = (listInts (.lst ds)).map (a :: ·) := by
  show intsOf (.int a :: ds) = _
  simp only [intsOf]
  rfl
@[simp] theorem listInts_nil : listInts (.lst []) = some [] := (rfl)
@[simp] theorem intsOf_nil : intsOf [] = some [] := (rfl)
@[simp] theorem intsOf_cons : intsOf (.int a :: ds) = (intsOf ds).map (a :: ·) := by
  simp only [intsOf]
theorem gMax_ev : gMax o = (optR (listInts o.er)).bind fun ns => if ns ≠ [] then .ok (oi (maxI ns)) else .no := by
  unfold gMax
  cases h : listInts o.er with
  | none => rfl
  | some ns => cases ns <;> simp
@[simp] theorem gMax_ev_g : gMax o = (optR (listInts o.er)).bind fun ns => gd (ns ≠ []) (.ok (oi (maxI ns))) := by
  rw [gMax_ev]
  simp only [gd_eq]
theorem gMin_ev : gMin o = (optR (listInts o.er)).bind fun ns => if ns ≠ [] then .ok (oi (minI ns)) else .no := by
  unfold gMin
  cases h : listInts o.er with
  | none => rfl
  | some ns => cases ns <;> simp
@[simp] theorem gMin_ev_g : gMin o = (optR (listInts o.er)).bind fun ns => gd (ns ≠ []) (.ok (oi (minI ns))) := by
  rw [gMin_ev]
  simp only [gd_eq]
@[simp] theorem gMax2_int : gMax2 (oi a) (oi b) = .ok (oi (max a b)) := (rfl)
@[simp] theorem gMin2_int : gMin2 (oi a) (oi b) = .ok (oi (min a b)) := (rfl)
@[simp] theorem gMaxD_ev : gMaxD o (oi a) = (optR (listInts o.er)).bind fun ns => .ok (oi (if ns.isEmpty then a else maxI ns)) := by
  unfold gMaxD
  cases listInts o.er <;> rfl
theorem eMeth_ev {chk : O → Bool} {g : O → O → R O} : eMeth chk g ma mb de = (ma de).bind fun x => if chk x then (mb de).bind fun y => g x y else .no := (rfl)
@[simp] theorem eMeth_ev_g {chk : O → Bool} {g : O → O → R O} : eMeth chk g ma mb de = (ma de).bind fun x => gd (chk x) ((mb de).bind fun y => g x y) := by
  rw [eMeth_ev]
  simp only [gd_eq]
@[simp] theorem isLO_ev : isLO o = o.er.isL := (rfl)
@[simp] theorem gCnt_ev : gCnt o (oi a) = (optR (listInts o.er)).bind fun ns => .ok (oi (ns.count a : Nat)) := by
  unfold gCnt listInts
  cases o.er <;> simp [optR, R.bind]
  cases h : intsOf _ <;> rfl
theorem gPow_ev : gPow (oi a) (oi b) = if 0 ≤ b ∧ b ≤ 1000000 ∧ a.natAbs < 2 ^ 64 then .ok (oi (a ^ b.toNat)) else .no := by
  show (if decide (CPow a b) = true then R.ok (oi (a ^ b.toNat)) else .no) = _
  by_cases h : CPow a b
  · have h' : 0 ≤ b ∧ b ≤ 1000000 ∧ a.natAbs < 2 ^ 64 := h
    rw [if_pos (decide_eq_true h), if_pos h']
  · have h' : ¬ (0 ≤ b ∧ b ≤ 1000000 ∧ a.natAbs < 2 ^ 64) := h
    rw [if_neg (by simpa using h), if_neg h']
@[simp] theorem gPow_ev_g : gPow (oi a) (oi b) = gd (0 ≤ b ∧ b ≤ 1000000 ∧ a.natAbs < 2 ^ 64) (.ok (oi (a ^ b.toNat))) := by
  rw [gPow_ev]
  simp only [gd_eq]
@[simp] theorem log2_lit {n : Nat} (h : n < 2 ^ 64) : Nat.log2 n < 9000 := by
  by_cases h0 : n = 0
  · subst h0; decide
  · have := (Nat.log2_lt h0).mpr h; omega
theorem gDiv_ite : gDiv (oi a) (oi b) = if 0 < b ∧ b.natAbs.log2 < 9000 then .ok (oi (a / b)) else .no := by
  show (if cDivB a b = true then R.ok (oi (a / b)) else .no) = _
  unfold cDivB
  by_cases h : CDivW a b
  · have h' : 0 < b ∧ b.natAbs.log2 < 9000 := h
    rw [if_pos (decide_eq_true h), if_pos h']
  · have h' : ¬ (0 < b ∧ b.natAbs.log2 < 9000) := h
    rw [if_neg (by simpa using h), if_neg h']
@[simp] theorem gDiv_ite_g : gDiv (oi a) (oi b) = gd (0 < b ∧ b.natAbs.log2 < 9000) (.ok (oi (a / b))) := by
  rw [gDiv_ite]
  simp only [gd_eq]
end
end VL
namespace VL
open PySem PySem.Spec PyProof.Rows L2
class KOk (k : Kd) : Prop where
  ne : k ≠ .tb
instance : KOk .fz := ⟨nofun⟩
instance : KOk .bo := ⟨nofun⟩
def argK : Kd → Kd
  | .fz => .fz
  | _ => .bo
instance {k : Kd} : KOk (argK k) := ⟨by cases k <;> exact nofun⟩
section
variable {α : Type} {k : Kd} {ds : List D} {o : O} {os : List O} {a : Int} {z : Str} {xs : List α} {env : VEnv} {i : Nat}
@[simp] theorem seqF_ok [h : KOk k] : seqF (.lf k (.lst ds)) = some (k, ds) := by
  cases k
  · rfl
  · rfl
  · exact absurd rfl h.ne
@[simp] theorem seqF_ok_tup [h : KOk k] : seqF (.lf k (.tup ds)) = some (k, ds) := by
  cases k
  · rfl
  · rfl
  · exact absurd rfl h.ne
@[simp] theorem isTb_ok [h : KOk k] : isTb k = false := by
  cases k
  · rfl
  · rfl
  · exact absurd rfl h.ne
@[simp] theorem toArg_ok [h : KOk k] {d : D} : toArg (.lf k d) = lfk k d := by
  cases k
  · rw [lfk_fz]; rfl
  · rfl
  · exact absurd rfl h.ne
@[simp] theorem frz_ok [h : KOk k] : frzO (.lf k (.lst ds)) = some (.lf k (.lst ds)) := by
  cases k
  · exact frz_lf
  · rfl
  · exact absurd rfl h.ne
@[simp] theorem asT_ev : asT o = optR (truD o.er) := by unfold asT; cases truD o.er <;> rfl
@[simp] theorem truD_non : truD .non = some false := (rfl)
@[simp] theorem truD_bl {b : Bool} : truD (.bl b) = some b := (rfl)
@[simp] theorem truD_int : truD (.int a) = some (a != 0) := (rfl)
@[simp] theorem truD_lst : truD (.lst ds) = some (!ds.isEmpty) := (rfl)
@[simp] theorem truD_tup : truD (.tup ds) = some (!ds.isEmpty) := (rfl)
def blD : D → Option Bool
  | .bl b => some b
  | _ => none
@[simp] theorem blD_bl {b : Bool} : blD (.bl b) = some b := (rfl)
@[simp] theorem asB_ev : asB o = optR (blD o.er) := by unfold asB; cases o.er <;> rfl
@[simp] theorem isTy_ev {t T : String} : isTy t T = (t == T || (t == "bool" && T == "int")) := (rfl)
@[simp] theorem cntT_nil {T : Nat} : cntT T [] = List.replicate T 0 := by
  unfold cntT
  simp only [List.count_nil, Int.ofNat_eq_natCast, Int.natCast_zero]
  rw [List.map_const', List.length_range]
theorem split_at {xs : List α} {j : Nat} {x : α} (h : xs[j]? = some x) : xs = xs.take j ++ x :: xs.drop (j + 1) := by
  obtain ⟨hj, rfl⟩ := List.getElem?_eq_some_iff.mp h
  rw [← List.drop_eq_getElem_cons hj, List.take_append_drop]
@[simp] theorem mapIdx_map' {β γ : Type} {f : α → β} {g : Nat → β → γ} : (xs.map f).mapIdx g = xs.mapIdx fun i x => g i (f x) := by
  apply List.ext_getElem?
  intro i
  rw [List.getElem?_mapIdx, List.getElem?_mapIdx, List.getElem?_map]
  cases xs[i]? <;> rfl
theorem wS_forE {body : VEnv → RS} {Q : Ct → VEnv → Prop} {E : Exn → VEnv → Prop} {f : Nat → α → Asg} (I : List α → VEnv → Prop) (h0 : I [] env) (hs : ∀ (pre : List α) (x : α) (post : List α) (e : VEnv), xs = pre ++ x :: post → I pre e → ∃ e1, f pre.length x e = some e1 ∧ wS (body e1) (loopK (I (pre ++ [x])) Q) E) (h1 : ∀ e, I xs e → Q .next e) : wS (forL body (xs.mapIdx f) env) Q E := by
  refine wS_forI (fun j e => I (xs.take j) e) (by simpa using h0) (fun j a e ha hI => ?_) (fun e h => h1 e (by simpa using h))
  rw [List.getElem?_mapIdx] at ha
  cases q : xs[j]? with
  | none => rw [q] at ha; cases ha
  | some x =>
    rw [q] at ha
    cases ha
    have hj : j < xs.length := (List.getElem?_eq_some_iff.mp q).1
    obtain ⟨e1, h2, h3⟩ := hs (xs.take j) x (xs.drop (j + 1)) e (split_at q) hI
    rw [List.length_take, Nat.min_eq_left (by omega)] at h2
    refine ⟨e1, h2, ?_⟩
    have e2 : xs.take (j + 1) = xs.take j ++ [x] := by
      rw [List.take_add_one, q]; rfl
    show wS (body e1) (loopK (fun e => I (xs.take (j + 1)) e) Q) E
    rw [e2]
    exact h3
theorem len1 {xs : List α} (h : xs.length = 1) : ∃ x0, xs = [x0] := by
  match xs, h with
  | [x0], _ => exact ⟨x0, rfl⟩
theorem len2 {xs : List α} (h : xs.length = 2) : ∃ x0 x1, xs = [x0, x1] := by
  match xs, h with
  | [x0, x1], _ => exact ⟨x0, x1, rfl⟩
theorem len3 {xs : List α} (h : xs.length = 3) : ∃ x0 x1 x2, xs = [x0, x1, x2] := by
  match xs, h with
  | [x0, x1, x2], _ => exact ⟨x0, x1, x2, rfl⟩
theorem len4 {xs : List α} (h : xs.length = 4) : ∃ x0 x1 x2 x3, xs = [x0, x1, x2, x3] := by
  match xs, h with
  | [x0, x1, x2, x3], _ => exact ⟨x0, x1, x2, x3, rfl⟩
theorem len8 {xs : List α} (h : xs.length = 8) : ∃ x0 x1 x2 x3 x4 x5 x6 x7, xs = [x0, x1, x2, x3, x4, x5, x6, x7] := by
  match xs, h with
  | [x0, x1, x2, x3, x4, x5, x6, x7], _ => exact ⟨x0, x1, x2, x3, x4, x5, x6, x7, rfl⟩
end
end VL
namespace VL
open PySem PySem.Spec PyProof.Rows L2
def aKw (mA : DEnv → R (List O)) (me : DEnv → R O) : DEnv → R (List O) := fun env => (mA env).bind fun os => (me env).bind fun o => .ok (os ++ [o])
def aDef (d : D) (mA : DEnv → R (List O)) : DEnv → R (List O) := fun env => (mA env).bind fun os => .ok (os ++ [.lf .fz d])
def OkK (P : Program) (w : World) (K : PySem.W.Frag) (mg : Str → Option Value) (base : Heap) (x : Str) (N ps : List Str) (kw : Str) (dv : V) (j : Nat) (m : VEnv → RS) (k : Nat) : Prop :=
  ∃ f fd, mg x = some (.ref f) ∧ PySem.W.keepIn K (.ref f) = true ∧ (∃ ds, Vals [dv] ds ∧ Binds K fd ps ds) ∧ KBn K fd ps j [kw] (fun us ws => us ++ ws) (fun vs zs => vs ++ zs) ∧ FnOk P w K mg base (CXv mg P w) k f fd ps (SpV K mg N ps.length [] m)
section
variable {X : Cx} {CX : CXT} {k n j : Nat} {f : Addr} {fd : FuncData} {N ps ks : List Str} {sp : Sp} {E : L2.St → XK} {x kw : Str} {p pos kpos : Pos} {e a : Expr} {es : List Expr} {kws : List Keyword} {t tk : TA} {g : List Value → List Value → List Value} {gV : List V → List V → List V} {mA : DEnv → R (List O)} {me : DEnv → R O} {m : VEnv → RS}
theorem run_fnNS {pins : List (Addr × Obj)} {σ : L2.St} {H : Hp} {s : Shared} {Q : VK} {us ws : List Value} {vs zs : List V} (F : FnOk X.prog X.w X.K X.mg X.base CX k f fd ps sp) (hr : Room k X.A) (hb : KBn X.K fd ps n ks g gV) (hx : PassesAt CX X σ (E σ))
    (I : Inv X pins σ H s) (r : Vals vs us) (rz : Vals zs ws) (l1 : vs.length = n) (l2 : zs.length = ks.length) (h : sp (gV vs zs) H Q (E σ)) : wpAny (model X.prog X.w) X.A (call (.ref f) us (ks.zip ws)) (EP X pins σ Q) X.xe s := by
  have r2 := hb.rel r rz
  refine wpAny_call (codeAny_mono (F.run X.A X.stack s H ⟨us, ks.zip ws⟩ (g us ws) (gV vs zs) Q (E σ) hr I.env0 (hb.to s us ws I.kIn (r.length.symm.trans l1) (rz.length.symm.trans l2)) r2 h) fun r s' hq => ?_)
  cases r with
  | error e => exact hx pins H s e s' I hq
  | ok fl =>
    cases fl with
    | ret u => exact I.after hq
    | next => exact False.elim hq
    | brk => exact False.elim hq
    | cont => exact False.elim hq
end
def FnK (K : PySem.W.Frag) (mg : Str → Option Value) (x : Str) (st : Stmt) (ps : List Str) (kw : Str) (dv : V) (j : Nat) : Prop := ∃ f fd, mg x = some (.ref f) ∧ Fun K x x st f fd ∧ (∃ ds, Vals [dv] ds ∧ Binds K fd ps ds) ∧ KBn K fd ps j [kw] (fun us ws => us ++ ws) (fun vs zs => vs ++ zs)
theorem FnK.ok {P : Program} {w : World} {K : PySem.W.Frag} {mg : Str → Option Value} {base : Heap} {x : Str} {st : Stmt} {N ps : List Str} {kw : Str} {dv : V} {j k : Nat} {m : VEnv → RS} (T : FnK K mg x st ps kw dv j) (S : FnScope N ps (defScope st))
    (hb : ∀ (f : Addr) (cdv : Value) (A : Around) (outer : List Env) (s : Shared) (H : Hp) (E : XK), Room k (A.deeper (envOfC x (defScope st) s.heap.objs.size f cdv)) → VB (cxOf (CXv mg P w) P w K mg base N x (defScope st) f cdv A outer s H E) [] (defBody st) m) : OkK P w K mg base x N ps kw dv j m (k + 1) := by
  obtain ⟨f, fd, hm, F, hd, hbn⟩ := T
  exact ⟨f, fd, hm, F.kp, hd, hbn, fn_v F S (hb f)⟩
end VL
namespace VL
open PySem PySem.Spec PyProof.Rows L2
def takeAll : List Nat → VEnv → Option (List O × VEnv)
  | [], env => some ([], env)
  | j :: js, env => match env[j]? with
    | some (some o) => (takeAll js (env.set j none)).map fun q => (o :: q.1, q.2)
    | _ => none
section
variable {X : Cx} {P : List Nat} {es : List Expr} {js : List Nat} {pos pos2 : Pos} {x : Str}
def xMvL (js : List Nat) : VEnv → RX O := fun env => match takeAll js env with
  | some (os, env') => if szOk os.length then .ok (.lst os) env' else .no
  | none => .no
def xMvT (js : List Nat) : VEnv → RX O := fun env => match takeAll js env with
  | some (os, env') => if szOk os.length then .ok (.tup os) env' else .no
  | none => .no
end
end VL
namespace VL
open PySem PySem.Spec PyProof.Rows L2
section
variable {de : DEnv} {mA : DEnv → R (List O)} {me : DEnv → R O} {d : D}
@[simp] theorem aKw_ev : aKw mA me de = (mA de).bind fun os => (me de).bind fun o => .ok (os ++ [o]) := (rfl)
@[simp] theorem aDef_ev : aDef d mA de = (mA de).bind fun os => .ok (os ++ [.lf .fz d]) := (rfl)
variable {env : VEnv} {js : List Nat} {j : Nat} {E : Exn → VEnv → Prop} {P : O → VEnv → Prop} {o : O}
@[simp] theorem takeAll_nil : takeAll [] env = some ([], env) := (rfl)
theorem takeAll_cons (h : env[j]? = some (some o)) : takeAll (j :: js) env = (takeAll js (env.set j none)).map fun q => (o :: q.1, q.2) := by
  unfold takeAll; rw [h]; cases js <;> rfl
@[simp] theorem takeAll_some {r : List O × VEnv} : takeAll (j :: js) env = some r ↔ ∃ o, env[j]? = some (some o) ∧ ∃ q, takeAll js (env.set j none) = some q ∧ (o :: q.1, q.2) = r := by
  cases h : env[j]? with
  | none => unfold takeAll; rw [h]; simp
  | some z =>
    cases z with
    | none => unfold takeAll; rw [h]; simp
    | some o => rw [takeAll_cons h]; simp
@[simp] theorem wX_mvL : wX (xMvL js env) P E ↔ ∃ q, takeAll js env = some q ∧ q.1.length ≤ 16777216 ∧ P (.lst q.1) q.2 := by
  unfold xMvL
  cases h : takeAll js env with
  | none => simp
  | some q =>
    obtain ⟨os, e⟩ := q
    simp only [Option.some.injEq, exists_eq_left']
    split
    · rename_i hz; simp at hz; simp [hz]
    · rename_i hz; simp at hz; simp; omega
@[simp] theorem wX_mvT : wX (xMvT js env) P E ↔ ∃ q, takeAll js env = some q ∧ q.1.length ≤ 16777216 ∧ P (.tup q.1) q.2 := by
  unfold xMvT
  cases h : takeAll js env with
  | none => simp
  | some q =>
    obtain ⟨os, e⟩ := q
    simp only [Option.some.injEq, exists_eq_left']
    split
    · rename_i hz; simp at hz; simp [hz]
    · rename_i hz; simp at hz; simp; omega
end
end VL
namespace VL
open PySem PySem.Spec PyProof.Rows L2
structure ClsO (K : PySem.W.Frag) (mg : Str → Option Value) (E : Errs) : Prop where
  one : ∀ p ∈ E, ∀ Ca, mg (Str.ofString p.1) = some (.ref Ca) → Cls K Ca ∧ ∀ f ∈ p.2, NoAttr K Ca (Str.ofString f)
def lkO (f : Str) : List Str → List O → Option O
  | k :: ks, d :: ds => if f == k then some d else lkO f ks ds
  | _, _ => none
theorem lkO_rep {w : Wd} {H : Hp} {f : Str} : ∀ {kvs : List (Str × V)} {ks : List Str} {ds : List O} {d : O} {F : Addr → Prop}, kvs.map (·.1) = ks → RepOs w H ds (kvs.map (·.2)) F → lkO f ks ds = some d → ∃ v F', kvs.lookup f = some v ∧ RepO w H d v F' ∧ VL.Sub F' F
  | [], ks, ds, d, F, e, h, l => by subst e; simp [lkO] at l
  | (k, v) :: kvs, [], ds, d, F, e, h, l => by simp at e
  | (k, v) :: kvs, k' :: ks, [], d, F, e, h, l => by simp [lkO] at l
  | (k, v) :: kvs, k' :: ks, d' :: ds, d, F, e, h, l => by
    simp only [List.map_cons, List.cons.injEq] at e
    obtain ⟨rfl, e⟩ := e
    simp only [List.map_cons, RepOs] at h
    obtain ⟨v', r, F1, F2, ev, s1, s2, dd, h1, h2⟩ := h
    obtain ⟨rfl, rfl⟩ := List.cons.inj ev
    simp only [lkO] at l
    rw [List.lookup_cons]
    cases q : f == k with
    | true => simp only [q, if_true] at l; cases l; exact ⟨_, F1, rfl, h1, s1⟩
    | false =>
      simp only [q, Bool.false_eq_true, if_false] at l
      obtain ⟨u, F', e', r', s'⟩ := lkO_rep e h2 l
      exact ⟨u, F', e', r', fun b z => s2 b (s' b z)⟩
def gFld (E : Errs) (f : String) (o : O) : R O := match o with
  | .lf k (.obj C fs ds) => if E.fl C f then (match lkD (Str.ofString f) (fs.map Str.ofString) ds with
    | some d => .ok (lfk k d)
    | none => .no) else .no
  | .obj C fs os => if E.fl C f then (match lkO (Str.ofString f) (fs.map Str.ofString) os with
    | some d => .ok d
    | none => .no) else .no
  | _ => .no
section
variable {X : Cx} {P : List Nat} {E : Errs} {a b o : Expr} {es : List Expr} {ma mb mo : DEnv → R O} {mA : DEnv → R (List O)} {pos p apos : Pos} {x : Str}
theorem ve_fld (f : String) (hE : ClsO X.K X.mg E) (ha : VE X a ma) (hx : x = Str.ofString f := by rfl) (hb : attributeBase a x X.env (eval a X.env) = eval a X.env := by rfl) : VE X (.Attribute a x pos) (e1 (gFld E f) ma) := fun W tk w hc => (pe_fld (ha W tk w hc) hb).imp fun σ H Q h => by
  obtain ⟨env, G, h⟩ := rE_to h
  refine rE_of G (Out.bind (Same.refl H) h fun o1 v H1 F1 _ s1 p1 f1 h1 => ?_)
  unfold gFld at h1
  subst hx
  split at h1
  · rename_i k C fs ds
    split at h1
    · rename_i hC
      split at h1
      · rename_i d ed
        simp only [RepO, Rep] at p1
        obtain ⟨a', Ca, dx, kvs, rfl, sa, hC', hH, hk, hr⟩ := p1
        obtain ⟨pC, hp, rfl, hfl⟩ := Errs.fl_ hC
        obtain ⟨c, no⟩ := hE.one pC hp Ca (clM_at hc hC')
        obtain ⟨v, lv, rd⟩ := lkD_rep hk hr ed
        exact ⟨a', Ca, dx, kvs, v, rfl, hH, c, no f hfl, lv, h1 v H1 (fun _ => False) (Same.refl H1) (lfk_rep rd) fun _ z => z.elim⟩
      · exact h1.elim
    · exact h1.elim
  · rename_i C fs os
    split at h1
    · rename_i hC
      split at h1
      · rename_i d ed
        simp only [RepO] at p1
        obtain ⟨a', Ca, dx, kvs, G', rfl, hC', hH, hk, fa, ga, sg, hr⟩ := p1
        obtain ⟨pC, hp, rfl, hfl⟩ := Errs.fl_ hC
        obtain ⟨c, no⟩ := hE.one pC hp Ca (clM_at hc hC')
        obtain ⟨v, F', lv, rd, sF⟩ := lkO_rep hk hr ed
        exact ⟨a', Ca, dx, kvs, v, rfl, hH, c, no f hfl, lv, h1 v H1 F' (Same.refl H1) rd fun b z => f1 b (sg b (sF b z))⟩
      · exact h1.elim
    · exact h1.elim
  · exact h1.elim
def tMethV (C : Addr) (m : Str) (sp : Sp) (E : L2.St → XK) (ta : TE) (t : TA) : TE := fun σ H Q => ta σ H fun x H1 => ∃ a dx fs, x = .ref a ∧ H1 a = some (.ins C dx fs) ∧ fs.lookup m = none ∧ t σ H1 fun vs H2 => sp (x :: vs) H2 Q (E σ)
section
variable {CX : CXT} {k : Nat} {f C : Addr} {fd : FuncData} {ps : List Str} {sp : Sp} {E' : L2.St → XK} {m : Str} {e : Expr} {ta : TE} {t : TA}
theorem pe_methV {pl : Sem Bool} (he : PE X o ta) (c : Cls X.K C) (hm : Meth X.K C m f) (F : FnOk X.prog X.w X.K X.mg X.base CX k f fd ps sp) (hr : Room k X.A) (hb : Binds X.K fd ps []) (hx : ∀ σ, PassesAt CX X σ (E' σ)) (ha : PA X (e :: es) t)
    (hst : starEach (e :: es) X.env = (false, eval e X.env) :: starEach es X.env := by rfl) (hpl : (backTo pos (starEach es X.env)).any (·.1) = false := by rfl)
    (ht : eval (.Call (.Attribute o m apos) (e :: es) [] pos) X.env = (do
      let ov ← eval o X.env
      standAt apos.atName
      let (f, first) ← holding [ov] (getMethod ov m pl)
      callWith pos f first (backTo pos (starEach (e :: es) X.env)) (backToKw pos (keywordEach [] X.env))) := by rfl) :
    PE X (.Call (.Attribute o m apos) (e :: es) [] pos) (tMethV C m sp E' ta t) := by
  refine ⟨fun pins s σ H Q I h => ?_⟩
  refine PySem.W.methodCall_KW (pl := pl) (thn (he.run pins s σ H _ I h) fun u s1 ⟨x, H1, I1, rx, a, dx, fs, ex, ea, l, q⟩ => ?_) ht
  subst ex
  obtain rfl : u = Value.ref a := rx
  refine getmeth_ok I1 ea c hm l ?_
  refine PySem.W.callWith_K (first := [.ref a]) (h₀ := X.base) I.ok.mod.kin hm.kp (thn (ha.run pos pins s1 σ H1 _ I1 q) fun us s2 ⟨vs, H2, I2, r, q2⟩ => ⟨I2.kIn, ?_⟩) hst hpl
  exact run_fnS (us := .ref a :: us) (vs := .ref a :: vs) F hr hb (hx σ) I2 (.cons rfl r) q2
theorem pe_methV0 {pl : Sem Bool} (he : PE X o ta) (c : Cls X.K C) (hm : Meth X.K C m f) (F : FnOk X.prog X.w X.K X.mg X.base CX k f fd ps sp) (hr : Room k X.A) (hb : Binds X.K fd ps []) (hx : ∀ σ, PassesAt CX X σ (E' σ))
    (ht : eval (.Call (.Attribute o m apos) [] [] pos) X.env = (do
      let ov ← eval o X.env
      standAt apos.atName
      let (f, first) ← holding [ov] (getMethod ov m pl)
      callWith pos f first (backTo pos (starEach [] X.env)) (backToKw pos (keywordEach [] X.env))) := by rfl) :
    PE X (.Call (.Attribute o m apos) [] [] pos) (tMethV C m sp E' ta tNil) := by
  refine ⟨fun pins s σ H Q I h => ?_⟩
  refine PySem.W.methodCall_KW (pl := pl) (thn (he.run pins s σ H _ I h) fun u s1 ⟨x, H1, I1, rx, a, dx, fs, ex, ea, l, q⟩ => ?_) ht
  subst ex
  obtain rfl : u = Value.ref a := rx
  refine getmeth_ok I1 ea c hm l ?_
  exact PySem.W.callWith_K0 (first := [.ref a]) I1.kIn hm.kp (run_fnS (us := [.ref a]) (vs := [.ref a]) F hr hb (hx σ) I1 (.cons rfl .nil) q)
end
def isObj (C mn : String) (o : O) : Bool := match o.er with
  | .obj C' fs _ => C' == C && !(fs.map Str.ofString).contains (Str.ofString mn)
  | _ => false
def aRecv (C mn : String) (mo : DEnv → R O) (mA : DEnv → R (List O)) : DEnv → R (List O) := fun env => (mo env).bind fun o => if isObj C mn o then (mA env).bind fun os => .ok (o :: os) else .no
theorem lookup_keys {k : Str} : ∀ {kvs : List (Str × V)}, (kvs.map (·.1)).contains k = false → kvs.lookup k = none
  | [], _ => rfl
  | (g, x) :: r, h => by
    simp only [List.map_cons, List.contains_cons, Bool.or_eq_false_iff] at h
    rw [List.lookup_cons, h.1]
    exact lookup_keys h.2
theorem isObj_at {w : Wd} {H : Hp} {C mn : String} {o : O} {v : V} {F : Addr → Prop} (e : isObj C mn o = true) (h : RepO w H o v F) : ∃ a Ca dx kvs, v = .ref a ∧ w.cl.b.at_ C = some Ca ∧ H a = some (.ins Ca dx kvs) ∧ kvs.lookup (Str.ofString mn) = none := by
  have z := RepO.at h
  unfold isObj at e
  split at e
  · rename_i C' fs ds eo
    rw [eo] at z
    simp only [Rep] at z
    obtain ⟨a, Ca, dx, kvs, rfl, _, c, hH, hk, _⟩ := z
    simp only [Bool.and_eq_true, beq_iff_eq, Bool.not_eq_true'] at e
    obtain ⟨rfl, e⟩ := e
    exact ⟨a, Ca, dx, kvs, rfl, c, hH, lookup_keys (by rw [hk]; exact e)⟩
  · cases e
def OkM (P : Program) (w : World) (K : PySem.W.Frag) (mg : Str → Option Value) (base : Heap) (C mn : String) (N ps : List Str) (m : VEnv → RS) (k : Nat) : Prop :=
  ∃ Ca f fd, mg (Str.ofString C) = some (.ref Ca) ∧ Cls K Ca ∧ Meth K Ca (Str.ofString mn) f ∧ Binds K fd ps [] ∧ FnOk P w K mg base (CXv mg P w) k f fd ps (SpV K mg N ps.length [] m)
theorem recv_eq {C mn : String} {n : Nat} {m : VEnv → RS} {env : DEnv} : eN (callM n m) (aRecv C mn mo mA) env = (mo env).bind fun o => if isObj C mn o then (mA env).bind fun os => callM n m (o :: os) else .no := by
  unfold eN aRecv
  rw [R.bind_bind]
  congr 1
  funext o
  split
  · rw [R.bind_bind]; rfl
  · rfl
theorem ve_mth {k j : Nat} {N ps : List Str} {m : VEnv → RS} {pl : Sem Bool} (C mn : String) (F : OkM X.prog X.w X.K X.mg X.base C mn N ps m k) (hr : Room k X.A) (ho : VE X o mo) (ha : VA X (a :: es) mA) (hl : ALen mA j) {n : Nat} (hNn : N.length = n := by rfl) (hj : j + 1 = ps.length := by rfl) (hx : x = Str.ofString mn := by rfl)
    (hst : starEach (a :: es) X.env = (false, eval a X.env) :: starEach es X.env := by rfl) (hpl : (backTo pos (starEach es X.env)).any (·.1) = false := by rfl)
    (ht : eval (.Call (.Attribute o x apos) (a :: es) [] pos) X.env = (do
      let ov ← eval o X.env
      standAt apos.atName
      let (f, first) ← holding [ov] (getMethod ov x pl)
      callWith pos f first (backTo pos (starEach (a :: es) X.env)) (backToKw pos (keywordEach [] X.env))) := by rfl) : VE X (.Call (.Attribute o x apos) (a :: es) [] pos) (eN (callM n m) (aRecv C mn mo mA)) := fun W tk w hcl => by
  subst hNn
  subst hx
  obtain ⟨Ca, f, fd, hm, c, M, hb, F⟩ := F
  refine (pe_methV (E' := WE W) (pl := pl) (ho W tk w hcl) c M F hr hb (fun σ => passAt tk σ) (ha W tk w hcl) hst hpl ht).imp fun σ H Q h => ?_
  obtain ⟨env, G, h⟩ := rE_to h
  rw [recv_eq] at h
  refine rE_of G (Out.bind (Same.refl H) h fun o1 v H1 F1 _ s1 p1 f1 h1 => ?_)
  split at h1
  · rename_i hO
    obtain ⟨a1, Ca1, dx, kvs, rfl, hc1, hH, hk⟩ := isObj_at hO p1
    have e1 := clM_at hcl hc1
    rw [hm] at e1
    cases e1
    refine ⟨a1, dx, kvs, rfl, hH, hk, rA_of (G.same s1) (Out.bind s1 h1 fun os vs H2 F2 e2 s2 p2 f2 h2 => ?_)⟩
    have l2 : vs.length = j := by rw [RepOs.length p2]; exact hl env os e2
    refine call_out (X := X) (W := W) (σ := σ) (os := o1 :: os) (vs := .ref a1 :: vs) (F1 := fun a => F1 a ∨ F2 a) hcl G.zt G.bt (G.same (s1.trans s2)).al (s1.trans s2) ?_ (fun a z => z.elim (fun q => (f1.up s2) a q) fun q => (f2.base s1) a q) (by simp [l2, hj]) h2
    simp only [RepOs]
    exact ⟨_, vs, F1, F2, rfl, fun _ z => .inl z, fun _ z => .inr z, fun a z z2 => (f1 a z).2.ne (f2 a z2).1, RepO.same s2 p1, p2⟩
  · exact h1.elim
theorem ve_mth0 {k : Nat} {N ps : List Str} {m : VEnv → RS} {pl : Sem Bool} (C mn : String) (F : OkM X.prog X.w X.K X.mg X.base C mn N ps m k) (hr : Room k X.A) (ho : VE X o mo) {n : Nat} (hNn : N.length = n := by rfl) (hj : 1 = ps.length := by rfl) (hx : x = Str.ofString mn := by rfl)
    (ht : eval (.Call (.Attribute o x apos) [] [] pos) X.env = (do
      let ov ← eval o X.env
      standAt apos.atName
      let (f, first) ← holding [ov] (getMethod ov x pl)
      callWith pos f first (backTo pos (starEach [] X.env)) (backToKw pos (keywordEach [] X.env))) := by rfl) : VE X (.Call (.Attribute o x apos) [] [] pos) (eN (callM n m) (aRecv C mn mo aNil)) := fun W tk w hcl => by
  subst hNn
  subst hx
  obtain ⟨Ca, f, fd, hm, c, M, hb, F⟩ := F
  refine (pe_methV0 (E' := WE W) (pl := pl) (ho W tk w hcl) c M F hr hb (fun σ => passAt tk σ) ht).imp fun σ H Q h => ?_
  obtain ⟨env, G, h⟩ := rE_to h
  rw [recv_eq] at h
  refine rE_of G (Out.bind (Same.refl H) h fun o1 v H1 F1 _ s1 p1 f1 h1 => ?_)
  split at h1
  · rename_i hO
    obtain ⟨a1, Ca1, dx, kvs, rfl, hc1, hH, hk⟩ := isObj_at hO p1
    have e1 := clM_at hcl hc1
    rw [hm] at e1
    cases e1
    refine ⟨a1, dx, kvs, rfl, hH, hk, ?_⟩
    refine call_out (X := X) (W := W) (σ := σ) (os := [o1]) (vs := [.ref a1]) (F1 := F1) hcl G.zt G.bt (G.same s1).al s1 ?_ f1 (by simp [hj]) (by exact h1)
    simp only [RepOs]
    exact ⟨_, [], F1, fun _ => False, rfl, fun _ z => z, fun _ z => z.elim, fun _ _ z => z, p1, rfl⟩
  · exact h1.elim
end
def FnM (K : PySem.W.Frag) (mg : Str → Option Value) (C mn : String) (qual : Str) (st : Stmt) (ps : List Str) : Prop := ∃ Ca f fd, mg (Str.ofString C) = some (.ref Ca) ∧ Cls K Ca ∧ Meth K Ca (Str.ofString mn) f ∧ Fun K (Str.ofString mn) qual st f fd ∧ Binds K fd ps []
theorem FnM.ok {P : Program} {w : World} {K : PySem.W.Frag} {mg : Str → Option Value} {base : Heap} {C mn : String} {qual : Str} {st : Stmt} {N ps : List Str} {k : Nat} {m : VEnv → RS} (T : FnM K mg C mn qual st ps) (S : FnScope N ps (defScope st))
    (hb : ∀ (f : Addr) (cdv : Value) (A : Around) (outer : List Env) (s : Shared) (H : Hp) (E : XK), Room k (A.deeper (envOfC qual (defScope st) s.heap.objs.size f cdv)) → VB (cxOf (CXv mg P w) P w K mg base N qual (defScope st) f cdv A outer s H E) [] (defBody st) m) : OkM P w K mg base C mn N ps m (k + 1) := by
  obtain ⟨Ca, f, fd, hm, c, M, F, hbn⟩ := T
  exact ⟨Ca, f, fd, hm, c, M, hbn, fn_v F S (hb f)⟩
def clsOneB (K : PySem.W.Frag) (Ca : Addr) (fs : List String) : Bool := PySem.W.plainGet K Ca Str.empty && PySem.W.hasDictIn K Ca && PySem.W.plainOver K Ca && decide (PySem.W.findIn K (.ref Ca) "__setattr__" = some (some (.builtin "object.__setattr__"))) && fs.all fun f => decide (PySem.W.findIn K (.ref Ca) (Str.ofString f) = some none)
theorem cls_of {K : PySem.W.Frag} {Ca : Addr} {fs : List String} (e : clsOneB K Ca fs = true) : Cls K Ca ∧ ∀ f ∈ fs, NoAttr K Ca (Str.ofString f) := by
  unfold clsOneB at e
  simp only [Bool.and_eq_true, decide_eq_true_eq, List.all_eq_true] at e
  obtain ⟨⟨⟨⟨h1, h2⟩, h3⟩, h4⟩, h5⟩ := e
  exact ⟨⟨h1, h2, h3, h4⟩, h5⟩
def clsB (K : PySem.W.Frag) (E : List ((String × List String) × Addr)) : Bool := E.all fun p => clsOneB K p.2 p.1.2
theorem clsO_of {K : PySem.W.Frag} {mg : Str → Option Value} {E : List ((String × List String) × Addr)} (hm : NamesAt mg E) (e : clsB K E = true) : ClsO K mg (E.map (·.1)) := by
  refine ⟨fun p hp Ca hc => ?_⟩
  obtain ⟨q, hq, rfl⟩ := List.mem_map.mp hp
  have z := hm.mem _ hq
  rw [z] at hc
  cases hc
  exact cls_of (List.all_eq_true.mp e _ hq)
def methB (K : PySem.W.Frag) (Ca f : Addr) (mn : String) : Bool := decide (PySem.W.findIn K (.ref Ca) (Str.ofString mn) = some (some (.ref f))) && PySem.W.isFn K (.ref f) && PySem.W.keepIn K (.ref f)
theorem meth_of {K : PySem.W.Frag} {Ca f : Addr} {mn : String} (e : methB K Ca f mn = true) : Meth K Ca (Str.ofString mn) f := by
  unfold methB at e
  simp only [Bool.and_eq_true, decide_eq_true_eq] at e
  exact ⟨e.1.1, e.1.2, e.2⟩
theorem fnM_of {K : PySem.W.Frag} {h : Heap} {mg : Str → Option Value} {C mn : String} {qual x : Str} {st : Stmt} {ps : List Str} {Ca f : Addr} {oc kV dc pm cd ct : Value} {od an : Option Addr} {sl : Array (Option Value)} (hm : mg (Str.ofString C) = some (.ref Ca)) (hc : Cls K Ca) (hme : methB K Ca f mn = true) (hx : x = Str.ofString mn)
    (l : K.lookup f = some ⟨oc, od, .func (PySem.W.fnOf x qual (defArgs st) (defBody st) (defScope st) .none kV dc pm an cd ct), sl⟩) (c : PySem.W.codeIn K cd qual = true)
    (hb : ∀ (kV doc pm : Value) (an : Option Addr) (cdv ct : Value) (us : List Value), us.length = ps.length → bindArgs (PySem.W.fnOf x qual (defArgs st) (defBody st) (defScope st) .none kV doc pm an cdv ct) ⟨us, []⟩ = pure (ps.zip us)) : FnM K mg C mn qual st ps := by
  subst hx
  have M := meth_of hme
  exact ⟨Ca, f, _, hm, hc, M, fun_mk l c M.kp, (fun_mk l c M.kp).binds hb⟩
end VL
namespace VL
open PySem PySem.Spec PyProof.Rows L2
def tMakeV (C : Addr) (sp : Sp) (E : L2.St → XK) (t : TA) : TE := fun σ H Q => t σ H fun vs H1 => ∀ x dx, H1 x = none → H1 dx = none → dx ≠ x →
  sp (.ref x :: vs) (upd (upd H1 dx (.own x)) x (.ins C dx [])) (fun v H2 => v = .non ∧ Q (.ref x) H2) (E σ)
section
variable {X : Cx} {CX : CXT} {k : Nat} {f C : Addr} {fd : FuncData} {ps : List Str} {sp : Sp} {E : L2.St → XK} {x : Str} {p pos : Pos} {e : Expr} {es : List Expr} {t : TA}
theorem run_makeV {pins : List (Addr × Obj)} {σ : L2.St} {H : Hp} {s : Shared} {Q : VK} {us : List Value} {vs : List V} (M : Mk X.K C f) (F : FnOk X.prog X.w X.K X.mg X.base CX k f fd ps sp) (hr : Room (k + 1) X.A) (hb : Binds X.K fd ps [])
    (hx : PassesAt CX X σ (E σ)) (I : Inv X pins σ H s) (r : Vals vs us)
    (h : ∀ x dx, H x = none → H dx = none → dx ≠ x → sp (.ref x :: vs) (upd (upd H dx (.own x)) x (.ins C dx [])) (fun v H2 => v = .non ∧ Q (.ref x) H2) (E σ)) :
    wpAny (model X.prog X.w) X.A (call (.ref C) us) (EP X pins σ Q) X.xe s := by
  have hq := h (s.heap.objs.size + 1) s.heap.objs.size (I.hok.fresh (Nat.le_succ _)) (I.hok.fresh (Nat.le_refl _)) (Nat.ne_of_lt (Nat.lt_succ_self _))
  have I2 := Inv.made (C := C) I
  have r2 : Vals (V.ref (s.heap.objs.size + 1) :: vs) (Value.ref (s.heap.objs.size + 1) :: us) := .cons rfl r
  have hl : ((Value.ref (s.heap.objs.size + 1) :: us) ++ []).length = ps.length := by
    have e := r2.length
    rw [F.len _ _ _ _ hq] at e
    rw [List.append_nil]
    exact e.symm
  have hb2 := hb _ (Value.ref (s.heap.objs.size + 1) :: us) I2.kIn hl
  rw [List.append_nil] at hb2
  refine wpAny_call (make_map (f := f) I.kIn M.makes M.init (beq_iff_eq.mp M.fn) (codeAny_mono (F.run _ X.stack _ _ ⟨Value.ref (s.heap.objs.size + 1) :: us, []⟩ (Value.ref (s.heap.objs.size + 1) :: us) _ _ (E σ) (hr.make C us [])
    (I2.env0.make C us []) hb2 r2 hq) fun r s' hq' => ?_))
  cases r with
  | error e => exact hx pins _ _ e s' I2 hq'
  | ok fl =>
    cases fl with
    | ret u =>
      obtain ⟨v, H', I3, rv, ev, q3⟩ := I2.after hq'
      subst ev
      exact ⟨rv, ⟨V.ref (s.heap.objs.size + 1), H', I3, rfl, q3⟩⟩
    | next => exact False.elim hq'
    | brk => exact False.elim hq'
    | cont => exact False.elim hq'
theorem pe_makeV (M : Mk X.K C f) (F : FnOk X.prog X.w X.K X.mg X.base CX k f fd ps sp) (hr : Room (k + 1) X.A) (hg : Gl X x) (hm : X.mg x = some (.ref C)) (hb : Binds X.K fd ps []) (hx : ∀ σ, PassesAt CX X σ (E σ))
    (ha : PA X (e :: es) t) (hdb : (x == ("__debug__" : Str)) = false := by decide) (he : starEach (e :: es) X.env = (false, eval e X.env) :: starEach es X.env := by rfl) (hpl : (backTo pos (starEach es X.env)).any (·.1) = false := by rfl) :
    PE X (.Call (.Name x p) (e :: es) [] pos) (tMakeV C sp E t) := by
  refine ⟨fun pins s σ H Q I h => ?_⟩
  refine wpAny_Call_Name_kw (ld_glob I hg hm ?_ hdb)
  refine PySem.W.callWith_K (h₀ := X.base) I.ok.mod.kin M.kp (thn (ha.run pos pins s σ H _ I h) fun us s1 ⟨vs, H1, I1, r, q⟩ => ⟨I1.kIn, ?_⟩) he hpl
  exact run_makeV M F hr hb (hx σ) I1 r q
end
def makeM (C : String) (n : Nat) (m : VEnv → RS) (os : List O) : R O := match m (startE n (.obj C [] [] :: os.map toArg)) with
  | .ok .next env' => (match env'[0]? with
    | some (some o) => if o.own then .ok o else .no
    | _ => .no)
  | .ok _ _ => .no
  | .ex x _ => if O.owns x.xs then .ex x else .no
  | .no => .no
def makeF (w : Wd) (H1 : Hp) (F1 : Addr → Prop) (x : Addr) : Fm := ⟨⟨w.cl.b, fun _ _ _ => False⟩, H1, fun a => a = x, fun a => w.Z a ∨ F1 a, fun a => w.T a ∨ F1 a, [(0, .ref x)]⟩
section
variable {X : Cx}
theorem make_out {W : WX} {σ : L2.St} {N : List Str} {n : Nat} {m : VEnv → RS} {w : Wd} {H0 H1 : Hp} {os : List O} {vs : List V} {F1 : Addr → Prop} {Q : VK} {C : String} {Ca x dx : Addr} (hcl : ClOk X w.cl) (hC : X.mg (Str.ofString C) = some (.ref Ca)) (zt : VL.Sub w.Z w.T) (bt : VL.Sub w.B w.T) (al : AlT w H1) (s1 : Same H0 H1) (p1 : RepOs w H1 os vs F1) (f1 : Fresh H0 H1 F1) (hn : vs.length + 1 = n)
    (hx : H1 x = none) (hd : H1 dx = none) (ne : dx ≠ x)
    (h : Out w W σ H0 H1 (RepO w) (makeM C N.length m os) Q) : SpV X.K X.mg N n [0] m (.ref x :: vs) (upd (upd H1 dx (.own x)) x (.ins Ca dx [])) (fun v H2 => v = .non ∧ Q (.ref x) H2) (fun cls d H => W cls d σ H) := by
  generalize hHn : upd (upd H1 dx (.own x)) x (.ins Ca dx []) = Hn
  have sm1 : Same H1 Hn := Same.of fun b o e => by
    rw [← hHn, upd_ne (ne_of_none e hx), upd_ne (ne_of_none e hd)]; exact e
  have hHx : Hn x = some (.ins Ca dx []) := by rw [← hHn, upd_same]
  have p2 := RepOs.same sm1 p1
  have f2 : ∀ a, F1 a → NT (Hn a) := fun a z => (f1 a z).2.same sm1
  have xT : ∀ a, w.T a → a ≠ x := fun a z e => al.1 a z (by rw [e]; exact hx)
  have xF : ∀ a, F1 a → a ≠ x := fun a z e => (f1 a z).2.ne (by rw [e]; exact hx)
  refine ⟨by simp [hn], makeF w Hn F1 x, startE N.length (.obj C [] [] :: os.map toArg), ⟨hcl.1, fun _ _ _ q => q⟩, rfl, ?_, ?_⟩
  · refine ⟨(makeF w Hn F1 x).Z0, fun i a => i = 0 ∧ a = x, fun i o e => ?_, fun i j a n z z2 => n (z.1.trans z2.1.symm), fun i a z => ?_, fun a z => z.elim (fun q => fun e => al.1 a (zt a q) (sm1.free e)) fun q => (f2 a q).ne, fun a z => z.elim (fun q => fun e => al.1 a q (sm1.free e)) fun q => (f2 a q).ne, fun a u e _ => Same.refl Hn a u e, ⟨fun _ n => n, fun P q t => sm1.tab (al.2 P q t)⟩, fun _ _ z => .inl z.2, fun _ z => .inl z, fun _ z => z, fun p hp => ?_, ?_⟩
    · have e1 := startE_get e
      cases i with
      | zero =>
        simp only [List.getElem?_cons_zero, Option.some.injEq] at e1
        subst e1
        refine ⟨.ref x, start_get rfl, ?_⟩
        simp only [RepO]
        exact ⟨x, Ca, dx, [], fun _ => False, rfl, clM_of (X := X) (c := (makeF w Hn F1 x).cl) ⟨hcl.1, fun _ _ _ q => q.elim⟩ hC, hHx, rfl, by simp, fun z => z, fun _ z => z.elim, by simp [RepOs]⟩
      | succ i =>
        simp only [List.getElem?_cons_succ, List.getElem?_map] at e1
        cases q : os[i]? with
        | none => rw [q] at e1; cases e1
        | some o' =>
          rw [q] at e1
          cases e1
          obtain ⟨v, F', ev, r, s⟩ := RepOs.get p2 q
          exact ⟨v, start_get (by simpa using ev), RepO.mono (fun _ z => z.elim) (toArg_rep (F1 := F1) zt bt s r)⟩
    · obtain ⟨rfl, rfl⟩ := z
      exact ⟨fun z => z.elim (fun q => xT a (zt a q) rfl) fun q => xF a q rfl, fun z => z.elim (fun q => xT a q rfl) fun q => xF a q rfl, ⟨_, hHx, True.intro⟩⟩
    · have : p = (0, .ref x) := by simpa [makeF] using hp
      subst this
      exact start_get rfl
    · unfold L2.start startE
      simp [RepOs.length p1]
  · have sm : ∀ {Z2 : Addr → Prop} {Fs2 : Nat → Addr → Prop} {env' : VEnv} {σ' : L2.St} {H' : Hp}, GoodAt (makeF w Hn F1 x) Z2 Fs2 env' σ' H' → Same H1 H' := fun g b u e => (sm1 b u e).thn fun o eo => g.keep b o eo fun z => ne_of_none e hx z
    have nx : ∀ {a : Addr}, a = x ∨ Hn a = none → H0 a = none := fun {a} z => z.elim (fun e => by rw [e]; exact s1.free hx) fun e => s1.free (sm1.free e)
    unfold makeM at h
    unfold FOut
    cases e : m (startE N.length (.obj C [] [] :: os.map toArg)) with
    | no => rw [e] at h; exact h
    | ok c env' =>
      rw [e] at h
      cases c with
      | next =>
        intro σ' H' g
        obtain ⟨Z2, Fs2, g⟩ := g
        refine ⟨rfl, ?_⟩
        simp only at h
        split at h
        · rename_i o eo
          split at h
          · rename_i hw
            obtain ⟨v, ev, r⟩ := g.rep 0 o eo
            have pv := g.pin (0, .ref x) (by simp [makeF])
            simp only at pv
            rw [ev] at pv
            cases pv
            exact h _ H' (Fs2 0) (sm g) (RepO.own (w := (makeF w Hn F1 x).w Z2) (w' := w) rfl hw r) fun b z => ⟨nx (g.fnew 0 b z), (g.own 0 b z).2.2⟩
          · exact h.elim
        · exact h.elim
      | brk => exact h
      | cont => exact h
      | ret o => exact h.elim
    | ex y env' =>
      rw [e] at h
      intro cls d σ' H' gx
      simp only at h
      split at h
      · rename_i hw
        obtain ⟨Z2, Fs2, F2, g2, r2, x2⟩ := gx
        refine h cls d H' F2 (sm g2) ?_ fun b z => ⟨nx (x2 b z).2.2.2.1, (x2 b z).2.2.1⟩
        obtain ⟨Ca', c, ec, q⟩ := r2
        refine ⟨Ca', c, ec, ?_⟩
        rcases q with q | ⟨a', kvs, G', e1, e2, e3, fa, ga, sg, rr⟩
        · exact .inl q
        · exact .inr ⟨a', kvs, G', e1, e2, e3, fa, ga, sg, RepOs.own (w := (makeF w Hn F1 x).w Z2) (w' := w) rfl hw rr⟩
      · exact h.elim
def OkI (P : Program) (w : World) (K : PySem.W.Frag) (mg : Str → Option Value) (base : Heap) (C : String) (N ps : List Str) (m : VEnv → RS) (k : Nat) : Prop :=
  ∃ Ca f fd, mg (Str.ofString C) = some (.ref Ca) ∧ Mk K Ca f ∧ Binds K fd ps [] ∧ FnOk P w K mg base (CXv mg P w) k f fd ps (SpV K mg N ps.length [0] m)
variable {a : Expr} {es : List Expr} {mA : DEnv → R (List O)} {pos p : Pos} {x : Str}
theorem ve_make {k j : Nat} {N ps : List Str} {m : VEnv → RS} (C : String) (F : OkI X.prog X.w X.K X.mg X.base C N ps m k) (hr : Room (k + 1) X.A) (ha : VA X (a :: es) mA) (hl : ALen mA j) {n : Nat} (hNn : N.length = n := by rfl) (hj : j + 1 = ps.length := by rfl) (hx : x = Str.ofString C := by rfl)
    (hg : Gl X x := by rfl) (hdb : (x == ("__debug__" : Str)) = false := by decide) (he : starEach (a :: es) X.env = (false, eval a X.env) :: starEach es X.env := by rfl) (hpl : (backTo pos (starEach es X.env)).any (·.1) = false := by rfl) : VE X (.Call (.Name x p) (a :: es) [] pos) (eN (makeM C n m) mA) := fun W tk w hcl => by
  subst hNn
  subst hx
  obtain ⟨Ca, f, fd, hm, M, hb, F⟩ := F
  refine (pe_makeV (E := WE W) M F hr hg hm hb (fun σ => passAt tk σ) (ha W tk w hcl) hdb he hpl).imp fun σ H Q h => ?_
  obtain ⟨env, G, h⟩ := rE_to h
  refine rA_of G (Out.bind (Same.refl H) h fun os vs H1 F1 e1 s1 p1 f1 h1 => ?_)
  exact fun x dx hx hd ne => make_out (X := X) (W := W) (σ := σ) hcl hm G.zt G.bt (G.same s1).al s1 p1 f1 (by rw [RepOs.length p1, hl env os e1, hj]) hx hd ne h1
end
def FnI (K : PySem.W.Frag) (mg : Str → Option Value) (C : String) (qual : Str) (st : Stmt) (ps : List Str) : Prop := ∃ Ca f fd, mg (Str.ofString C) = some (.ref Ca) ∧ Mk K Ca f ∧ Fun K "__init__" qual st f fd ∧ Binds K fd ps []
theorem FnI.ok {P : Program} {w : World} {K : PySem.W.Frag} {mg : Str → Option Value} {base : Heap} {C : String} {qual : Str} {st : Stmt} {N ps : List Str} {k : Nat} {m : VEnv → RS} (T : FnI K mg C qual st ps) (S : FnScope N ps (defScope st))
    (hb : ∀ (f : Addr) (cdv : Value) (A : Around) (outer : List Env) (s : Shared) (H : Hp) (E : XK), Room k (A.deeper (envOfC qual (defScope st) s.heap.objs.size f cdv)) → VB (cxOf (CXv mg P w) P w K mg base N qual (defScope st) f cdv A outer s H E) [0] (defBody st) m) : OkI P w K mg base C N ps m (k + 1) := by
  obtain ⟨Ca, f, fd, hm, M, F, hbn⟩ := T
  exact ⟨Ca, f, fd, hm, M, hbn, fn_v F S (hb f)⟩
def mkB (K : PySem.W.Frag) (Ca f : Addr) : Bool := PySem.W.makesIn K Ca && decide (PySem.W.findIn K (.ref Ca) "__init__" = some (some (.ref f))) && PySem.W.isFn K (.ref f) && PySem.W.keepIn K (.ref Ca) && PySem.W.keepIn K (.ref f)
theorem fnI_of {K : PySem.W.Frag} {h : Heap} {mg : Str → Option Value} {C : String} {qual : Str} {st : Stmt} {ps : List Str} {Ca f : Addr} {oc kV dc pm cd ct : Value} {od an : Option Addr} {sl : Array (Option Value)} (hm : mg (Str.ofString C) = some (.ref Ca)) (hme : mkB K Ca f = true)
    (l : K.lookup f = some ⟨oc, od, .func (PySem.W.fnOf "__init__" qual (defArgs st) (defBody st) (defScope st) .none kV dc pm an cd ct), sl⟩) (c : PySem.W.codeIn K cd qual = true)
    (hb : ∀ (kV doc pm : Value) (an : Option Addr) (cdv ct : Value) (us : List Value), us.length = ps.length → bindArgs (PySem.W.fnOf "__init__" qual (defArgs st) (defBody st) (defScope st) .none kV doc pm an cdv ct) ⟨us, []⟩ = pure (ps.zip us)) : FnI K mg C qual st ps := by
  unfold mkB at hme
  simp only [Bool.and_eq_true, decide_eq_true_eq] at hme
  obtain ⟨⟨⟨⟨h1, h2⟩, h3⟩, h4⟩, h5⟩ := hme
  exact ⟨Ca, f, _, hm, ⟨h1, h2, h3, h4⟩, fun_mk l c h5, (fun_mk l c h5).binds hb⟩
def setFO (f : String) (o : O) : List String → List O → List String × List O
  | g :: fs, x :: os => if Str.ofString g = Str.ofString f then (g :: fs, o :: os) else (g :: (setFO f o fs os).1, x :: (setFO f o fs os).2)
  | _, _ => ([f], [o])
theorem setFO_rep {w : Wd} {H : Hp} {f : String} {o : O} {y : V} {F1 : Addr → Prop} : ∀ {kvs : List (Str × V)} {fs : List String} {os : List O} {F : Addr → Prop}, kvs.map (·.1) = fs.map Str.ofString → RepOs w H os (kvs.map (·.2)) F → RepO w H o y F1 → Disj F F1 →
    (putF (Str.ofString f) y kvs).map (·.1) = (setFO f o fs os).1.map Str.ofString ∧ RepOs w H (setFO f o fs os).2 ((putF (Str.ofString f) y kvs).map (·.2)) (fun a => F a ∨ F1 a)
  | [], fs, os, F, e, h, h1, d => by
    have : fs = [] := by cases fs with
      | nil => rfl
      | cons a b => simp at e
    subst this
    refine ⟨rfl, ?_⟩
    simp only [setFO, putF, List.map_cons, List.map_nil, RepOs]
    exact ⟨y, [], F1, fun _ => False, rfl, fun _ z => .inr z, fun _ z => z.elim, fun _ _ z => z, h1, rfl⟩
  | (g, x) :: kvs, [], os, F, e, h, h1, d => by simp at e
  | (g, x) :: kvs, g' :: fs, os, F, e, h, h1, d => by
    simp only [List.map_cons, List.cons.injEq] at e
    obtain ⟨rfl, e⟩ := e
    cases os with
    | nil => simp [RepOs] at h
    | cons o' os =>
      simp only [List.map_cons, RepOs] at h
      obtain ⟨v, r, Fa, Fb, ev, s1, s2, dd, r1, r2⟩ := h
      obtain ⟨rfl, rfl⟩ := List.cons.inj ev
      unfold setFO putF
      by_cases q : Str.ofString g' = Str.ofString f
      · rw [if_pos q, if_pos q]
        refine ⟨by simp [e], ?_⟩
        simp only [List.map_cons, RepOs]
        exact ⟨y, _, F1, Fb, rfl, fun _ z => .inr z, fun a z => .inl (s2 a z), fun a z z2 => d a (s2 a z2) z, h1, r2⟩
      · rw [if_neg q, if_neg q]
        obtain ⟨i1, i2⟩ := setFO_rep (f := f) (o := o) (y := y) (F1 := F1) e r2 h1 fun a z => d a (s2 a z)
        refine ⟨by simp [i1], ?_⟩
        simp only [List.map_cons, RepOs]
        exact ⟨_, _, Fa, fun a => Fb a ∨ F1 a, rfl, fun a z => .inl (s1 a z), fun a z => z.imp (s2 a) id, fun a z z2 => z2.elim (dd a z) (d a (s1 a z)), r1, i2⟩
section
variable {f : Fm} {Z : Addr → Prop} {Fs : Nat → Addr → Prop} {env : VEnv} {σ : L2.St} {H : Hp}
theorem GoodAt.putG {i : Nat} {p : List Nat} {C : String} {fs : List String} {os : List O} (g : GoodAt f Z Fs env σ H) (h : getP env i p = some (.obj C fs os)) : ∃ v0 a Ca dx kvs G, σ[i]? = some (some v0) ∧ walkV H v0 p = some (.ref a) ∧ f.cl.b.at_ C = some Ca ∧ H a = some (.ins Ca dx kvs) ∧ kvs.map (·.1) = fs.map Str.ofString ∧ RepOs (f.w Z) H os (kvs.map (·.2)) G ∧ (∀ b, G b → Fs i b) ∧
    ∀ (fs' : List String) (os' : List O) (kvs' : List (Str × V)) (G' Xf : Addr → Prop), Extra f Z Fs H Xf → (∀ b, G' b → G b ∨ Xf b) → kvs'.map (·.1) = fs'.map Str.ofString → RepOs (f.w Z) H os' (kvs'.map (·.2)) G' →
      ∃ Fs', GoodAt f Z Fs' (setP env i p (.obj C fs' os')) σ (upd H a (.ins Ca dx kvs')) := by
  obtain ⟨v0, vs, Fp, ev, ew, hs, sF, upd_⟩ := g.place h
  simp only [RepO] at hs
  obtain ⟨a, Ca, dx, kvs, G, rfl, hC, ha, hk, fa, ga, sg, q⟩ := hs
  have hS : ∀ k, ¬ (f.w Z).S k a := fun k z => by
    cases k with
    | fz => exact (g.own i a (sF a fa)).1 z
    | bo => exact (g.own i a (sF a fa)).2.1 z
    | tb => exact z
  have nt : ∀ ys, H a ≠ some (.tup ys) := fun ys e => by rw [ha] at e; cases e
  refine ⟨v0, a, Ca, dx, kvs, G, ev, ew, hC, ha, hk, q, fun b z => sF b (sg b z), fun fs' os' kvs' G' Xf x hG hk' hr => ?_⟩
  have nG' : ¬ G' a := fun z => (hG a z).elim ga fun w => (x a w).2.2.2.2 i (sF a fa)
  have hk2 : ∀ b u, H b = some u → ¬ Fp b → (upd H a (.ins Ca dx kvs')) b = some u := fun b u e n => by rw [upd_ne (fun (q : b = a) => n (q ▸ fa))]; exact e
  have hn : ∀ b, H b ≠ none → (upd H a (.ins Ca dx kvs')) b ≠ none := fun b n => by
    by_cases hb : b = a
    · rw [hb, upd_same]; exact fun q => nomatch q
    · rw [upd_ne hb]; exact n
  have hnt : ∀ b, NT (H b) → NT ((upd H a (.ins Ca dx kvs')) b) := fun b n => by
    by_cases hb : b = a
    · rw [hb, upd_same]; exact ⟨_, rfl, True.intro⟩
    · rw [upd_ne hb]; exact n
  refine ⟨_, upd_ (upd H a (.ins Ca dx kvs')) (.obj C fs' os') (fun b => b = a ∨ G' b) Xf x hk2 hn (fun b z => z.elim (fun q => .inl (q ▸ fa)) fun w => (hG b w).imp (sg b) id) (fun b z => ?_) ?_⟩
  · rcases z with rfl | z
    · rw [upd_same]; exact ⟨_, rfl, True.intro⟩
    · refine hnt b ?_
      rcases hG b z with w | w
      · exact (g.own i b (sF b (sg b w))).2.2
      · exact (x b w).2.2.1
  · simp only [RepO]
    exact ⟨a, Ca, dx, kvs', G', rfl, hC, upd_same, hk', .inl rfl, nG', fun _ z => .inr z, RepOs.updD nG' hS nt hr⟩
end
def sSetFld (E : Errs) (f : String) (ma : DEnv → R O) (mp : VEnv → Option (Nat × List Nat)) : VEnv → RS := fun env => match ma (dl env) with
  | .no => .no
  | .ex x => if O.nos isTb x.xs then .ex x env else .no
  | .ok o => match mp env with
    | none => .no
    | some (i, p) => match getP env i p with
      | some (.obj C fs os) => if o.no isTb && E.fl C f && decide (fs.length < 1000) then .ok .next (setP env i p (.obj C (setFO f o fs os).1 (setFO f o fs os).2)) else .no
      | _ => .no
theorem vs_setFld {X : Cx} {P : List Nat} {E : Errs} {e a : Expr} {ma : DEnv → R O} {mp : VEnv → Option (Nat × List Nat)} {pos tpos : Pos} {x : Str} (f : String) (hE : ClsO X.K X.mg E) (he : VE X a ma) (hp : VP X P e mp) (hx : x = Str.ofString f := by rfl) (hs : swapsWith a (some (.Attribute e x tpos)) pos.line X.env = pure false := by rfl) :
    VS X P (.Assign [.Attribute e x tpos] a pos) (sSetFld E f ma mp) := fun W tk fr hf => ⟨fun pins s σ H D I h => by
  obtain ⟨env, ⟨Z, Fs, g⟩, h⟩ := rS_to h
  refine (ps_fld (hp W tk fr hf) (he.ef tk hf) hs).run pins s σ H D I ⟨Z, Fs, rE_of g.goodE ?_⟩
  unfold sSetFld at h
  subst hx
  split at h
  · exact h.elim
  · rename_i x ex
    rw [ex]
    split at h
    · rename_i n
      exact fun cls d H' F s r fx => h cls d σ H' ⟨Z, Fs, F, g.same s, RepX.unlend n r, g.fresh fx⟩
    · exact h.elim
  · rename_i o eo
    rw [eo]
    intro y H1 F1 s1 r1 f1
    split at h
    · exact h.elim
    · rename_i i p em
      refine ⟨Z, Fs, env, g.same s1, ?_⟩
      rw [em]
      intro v0 v H2 ev s2 ew
      split at h
      · rename_i C fs os eg
        split at h
        · rename_i hh
          simp only [Bool.and_eq_true, decide_eq_true_eq] at hh
          obtain ⟨⟨n, hfl⟩, hz⟩ := hh
          have g2 := (g.same s1).same s2
          obtain ⟨v0', a1, Ca, dx, kvs, G, ev', ew', hC, ha1, hk, q, sG, put⟩ := g2.putG eg
          rw [ev] at ev'; cases ev'
          rw [ew] at ew'; cases ew'
          obtain ⟨pC, hpC, rfl, hfl'⟩ := Errs.fl_ hfl
          obtain ⟨c, no⟩ := hE.one pC hpC Ca (clM_at hf.1 hC)
          have x1 : Extra fr Z Fs H2 F1 := fun b z => by
            obtain ⟨x1, x2, x3, x4, x5⟩ := g.fresh f1 b z
            exact ⟨x1, x2, x3.same s2, x4, x5⟩
          have r1' := RepO.same s2 (RepO.unlend n r1)
          obtain ⟨k1, k2⟩ := setFO_rep (f := f) hk q r1' fun b z z2 => (x1 b z2).2.2.2.2 i (sG b z)
          obtain ⟨Fs', g3⟩ := put _ _ _ _ F1 x1 (fun _ z => z) k1 k2
          refine ⟨a1, Ca, dx, kvs, rfl, ha1, c, no f hfl', ?_, h σ _ ⟨Z, Fs', g3⟩⟩
          have : (kvs.map (·.1)).length = (fs.map Str.ofString).length := by rw [hk]
          simp only [List.length_map] at this
          omega
        · exact h.elim
      · exact h.elim⟩
end VL
namespace L2
open PySem PySem.Spec PyProof.Rows
def ItT (t it : Addr) (i : Nat) : HO := .ext fun h => h.IsTupleIter it t i
section
variable {X : Cx}
def spIt (K : PySem.W.Frag) (F : Str) : Sp := fun vs H Q _ => ∃ (a C dx : Addr) (fs : List (Str × V)) (t : Addr) (zs : List V), vs = [.ref a] ∧ H a = some (.ins C dx fs) ∧ Cls K C ∧ NoAttr K C F ∧ fs.lookup F = some (.ref t) ∧ SqT K H t zs ∧
  ∀ it, H it = none → (∀ b, H b ≠ none → b < it) → Q (.ref it) (upd H it (ItT t it 0))
def sIt (K : PySem.W.Frag) (F : Str) (i : Nat) : TS := fun D σ H => ∃ (a C dx : Addr) (fs : List (Str × V)) (t : Addr) (zs : List V), σ[i]? = some (some (.ref a)) ∧ H a = some (.ins C dx fs) ∧ Cls K C ∧ NoAttr K C F ∧ fs.lookup F = some (.ref t) ∧ SqT K H t zs ∧
  ∀ it, H it = none → (∀ b, H b ≠ none → b < it) → D.rt (.ref it) (upd H it (ItT t it 0))
variable {pins : List (Addr × Obj)} {σ : L2.St} {A1 : Around} {q it t : Addr} {zs : List V} {Hd : Hp}
end
end L2
namespace L2
open PySem PySem.Spec PyProof.Rows
structure ItC1 (K : PySem.W.Frag) (C fi : Addr) : Prop where
  it : PySem.W.findIn K (.ref C) "__iter__" = some (some (.ref fi))
  itF : PySem.W.isFn K (.ref fi) = true
  nolen : PySem.W.findIn K (.ref C) "__len__" = some none
  nohint : PySem.W.findIn K (.ref C) "__length_hint__" = some none
theorem cx_false {mg : Str → Option Value} {P : Program} {w : World} {outer : List Env} {H : Hp} {s : Shared} {e : Value} {s' : Shared} (h : VL.CXv mg P w outer H s (fun _ _ _ => False) e s') : False := VL.cxv_false h
section
variable {X : Cx} {pins : List (Addr × Obj)} {σ : L2.St} {A1 : Around} {a q C fi t dx : Addr} {F : Str} {zs : List V} {H : Hp} {s : Shared} {fs : List (Str × V)} {fdI : FuncData} {n : Nat}
end
end L2
namespace VL
open PySem PySem.Spec PyProof.Rows L2
def OkIt (P : Program) (w : World) (K : PySem.W.Frag) (mg : Str → Option Value) (base : Heap) (C F : String) (k : Nat) : Prop :=
  ∃ Ca fi fd, mg (Str.ofString C) = some (.ref Ca) ∧ Cls K Ca ∧ NoAttr K Ca (Str.ofString F) ∧ ItC1 K Ca fi ∧ Binds K fd ["self"] [] ∧ FnOk P w K mg base (CXv mg P w) k fi fd ["self"] (spIt K (Str.ofString F))
section
variable {X : Cx} {a : Expr} {ma : DEnv → R O} {pos q : Pos}
end
def FnIt (K : PySem.W.Frag) (mg : Str → Option Value) (C F : String) (qual : Str) (st : Stmt) : Prop := ∃ Ca f fd, mg (Str.ofString C) = some (.ref Ca) ∧ Cls K Ca ∧ NoAttr K Ca (Str.ofString F) ∧ ItC1 K Ca f ∧ Fun K "__iter__" qual st f fd ∧ Binds K fd ["self"] []
theorem FnIt.ok {P : Program} {w : World} {K : PySem.W.Frag} {mg : Str → Option Value} {base : Heap} {C F : String} {qual : Str} {st : Stmt} {N : List Str} (T : FnIt K mg C F qual st) (S : FnScope N ["self"] (defScope st)) (hN : N = (["self"] : List Str))
    (hb : ∀ (f : Addr) (cdv : Value) (A : Around) (outer : List Env) (s : Shared) (H : Hp) (E : XK), PSs (cxOf (CXv mg P w) P w K mg base N qual (defScope st) f cdv A outer s H E) (defBody st) (sIt K (Str.ofString F) 0)) : OkIt P w K mg base C F 1 := by
  subst hN
  obtain ⟨Ca, f, fd, hm, c, na, I, Fn, hbn⟩ := T
  refine ⟨Ca, f, fd, hm, c, na, I, hbn, okC (k := 0) Fn S (fun vs H Q E h => ?_) (fun cdv A outer s H vs Q E hr h => ?_)⟩
  · obtain ⟨a, _, _, _, _, _, rfl, _⟩ := h
    rfl
  · obtain ⟨a, C', dx, fs, t, zs, rfl, hH, c', n', hl, hs, q⟩ := h
    exact ⟨sIt K (Str.ofString F) 0, hb f cdv A outer s H E, a, C', dx, fs, t, zs, rfl, hH, c', n', hl, hs, q⟩
end VL
namespace VL
open PySem PySem.Spec PyProof.Rows L2
section
variable {X : Cx} {a b : Expr} {ma mb : DEnv → R O} {pos p q p2 : Pos}
end
end VL
namespace VL
open PySem PySem.Spec PyProof.Rows L2
end VL
namespace VL
open PySem PySem.Spec PyProof.Rows L2
def gIsC (C : String) (o : O) : R O := match o.er with
  | .obj C' _ _ => if C' == C then .ok (.lf .fz (.bl true)) else .no
  | _ => .no
end VL
namespace VL
open PySem PySem.Spec PyProof.Rows L2
section
variable {k : Kd} {C : String} {fs : List String} {ds : List D} {os : List O}
@[simp] theorem er_obj : (O.obj C fs os).er = .obj C fs (O.ers os) := (rfl)
@[simp] theorem imm_obj : (D.obj C fs ds).imm = false := (rfl)
@[simp] theorem no_obj {q : Kd → Bool} : (O.obj C fs os).no q = O.nos q os := (rfl)
@[simp] theorem own_obj : (O.obj C fs os).own = O.owns os := (rfl)
@[simp] theorem frz_obj : frzO (.obj C fs os) = if O.nos notFz os then some (.lf .fz (.obj C fs (O.ers os))) else none := (rfl)
@[simp] theorem toArg_obj : toArg (.obj C fs os) = if O.nos notFz os then .lf .fz (.obj C fs (O.ers os)) else .lf .bo (.obj C fs (O.ers os)) := (rfl)
@[simp] theorem lfk_obj : lfk k (.obj C fs ds) = .lf k (.obj C fs ds) := (rfl)
@[simp] theorem lendV_obj : lendV (some (some (.obj C fs os))) = .ok (.lf .tb (.obj C fs (O.ers os))) := (rfl)
@[simp] theorem frz_ok_obj [h : KOk k] : frzO (.lf k (.obj C fs ds)) = some (.lf k (.obj C fs ds)) := by
  cases k with
  | fz => rfl
  | bo => rfl
  | tb => exact absurd rfl h.1
end
section
variable {C mn : String} {mo : DEnv → R O} {mA : DEnv → R (List O)} {de : DEnv}
@[simp] theorem aRecv_ev : aRecv C mn mo mA de = (mo de).bind fun o => gd (isObj C mn o = true) ((mA de).bind fun os => .ok (o :: os)) := by
  unfold aRecv
  congr 1
  funext o
  exact gd_eq
end
def mkK (P : O → Prop) : Ct → VEnv → Prop
  | .next, e => ∃ o, e[0]? = some (some o) ∧ o.own = true ∧ P o
  | _, _ => False
section
variable {P : O → Prop} {e : VEnv} {o : O} {C : String} {n : Nat} {m : VEnv → RS} {os : List O}
@[simp] theorem mkK_next : mkK P .next e ↔ ∃ o, e[0]? = some (some o) ∧ o.own = true ∧ P o := (Iff.rfl)
@[simp] theorem mkK_ret : mkK P (.ret o) e ↔ False := (Iff.rfl)
@[simp] theorem mkK_brk : mkK P .brk e ↔ False := (Iff.rfl)
@[simp] theorem mkK_cont : mkK P .cont e ↔ False := (Iff.rfl)
theorem make_wp {F : Exn → Prop} (h : wS (m (startE n (.obj C [] [] :: os.map toArg))) (mkK P) (fun x _ => O.owns x.xs = true ∧ F x)) : wR (makeM C n m os) P F := by
  unfold makeM
  have h := h.out
  cases q : m (startE n (.obj C [] [] :: os.map toArg)) with
  | ok c e =>
    rw [q] at h
    cases c with
    | next =>
      obtain ⟨o, e1, e2, e3⟩ := h
      simp only
      rw [e1]
      simp only
      rw [if_pos e2]; exact ⟨e3⟩
    | brk => exact h.elim
    | cont => exact h.elim
    | ret o => exact h.elim
  | ex x e =>
    rw [q] at h
    show wR (if O.owns x.xs = true then R.ex x else .no : R O) P F
    rw [if_pos h.1]; exact ⟨h.2⟩
  | no => rw [q] at h; exact ⟨h⟩
theorem make_ok (h : wS (m (startE n (.obj C [] [] :: os.map toArg))) (mkK fun p => p = o) noX) : makeM C n m os = .ok o :=
  wR_eq.mp (make_wp (wS_mono h (fun _ _ q => q) (fun _ _ q => q.elim)))
theorem make_raises {x : Exn} (h : wS (m (startE n (.obj C [] [] :: os.map toArg))) (fun _ _ => False) (fun y _ => y = x ∧ O.owns y.xs = true)) : makeM C n m os = .ex x := by
  unfold makeM
  have h := h.out
  cases q : m (startE n (.obj C [] [] :: os.map toArg)) with
  | ok c e => rw [q] at h; exact h.elim
  | ex y e =>
    rw [q] at h
    have h : y = x ∧ O.owns y.xs = true := h
    obtain ⟨rfl, w⟩ := h
    show (if O.owns y.xs = true then R.ex y else .no : R O) = _
    rw [if_pos w]
  | no => rw [q] at h; exact h.elim
end
section
variable {E : Errs} {f : String} {me : DEnv → R O} {C : String} {fs : List String} {os : List O} {e : VEnv} {Q : Ct → VEnv → Prop} {X : Exn → VEnv → Prop}
theorem wS_fld0 : wS (sSetFld E f me (pName 0) (some (.obj C fs os) :: e)) Q X ↔ wR (me (dl (some (.obj C fs os) :: e))) (fun o => o.no isTb = true ∧ E.fl C f = true ∧ fs.length < 1000 ∧ Q .next (some (.obj C (setFO f o fs os).1 (setFO f o fs os).2) :: e)) (fun x => O.nos isTb x.xs = true ∧ X x (some (.obj C fs os) :: e)) := by
  unfold sSetFld
  cases me (dl (some (.obj C fs os) :: e)) with
  | no => simp
  | ex x =>
    simp only [wR_ex]
    show wS (if O.nos isTb x.xs = true then .ex x _ else .no) Q X ↔ _
    split
    · rename_i q; simp [q]
    · rename_i q; simp [q]
  | ok o =>
    simp only [wR_ok]
    show wS (if (o.no isTb && E.fl C f && decide (fs.length < 1000)) = true then .ok .next (some (.obj C (setFO f o fs os).1 (setFO f o fs os).2) :: e) else .no) Q X ↔ _
    split
    · rename_i q
      simp only [Bool.and_eq_true, decide_eq_true_eq] at q
      simp [q]
    · rename_i q
      simp only [Bool.and_eq_true, decide_eq_true_eq] at q
      rw [wS_no]
      constructor
      · exact False.elim
      · rintro ⟨h1, h2, h3, _⟩
        exact q ⟨⟨h1, h2⟩, h3⟩
end
@[simp] theorem gIsC_ev {C : String} {k : Kd} {fs : List String} {ds : List D} : gIsC C (.lf k (.obj C fs ds)) = .ok (.lf .fz (.bl true)) := by
  show (if (C == C) = true then R.ok (O.lf .fz (.bl true)) else R.no) = _
  rw [if_pos (by simp)]
end VL
namespace VL
open PySem PySem.Spec PyProof.Rows L2
section
variable {X : Cx} {a b c : Expr} {ma mb mc : DEnv → R O} {pos p : Pos} {x : Str}
theorem ve_gstr {z : Str} (hm : ∃ t, X.mg x = some (.str z t)) (hg : Gl X x := by rfl) (hd : (x == ("__debug__" : Str)) = false := by decide) : VE X (.Name x pos) (eC (.str z)) :=
  ve_const (pe_glob hg hm.choose_spec (v := .str z) ⟨_, rfl⟩ hd) fun _ _ _ => rfl
def eCh (g1 g2 : O → O → R O) (ma mb mc : DEnv → R O) : DEnv → R O := fun env => (ma env).bind fun x => (mb env).bind fun y => (g1 x y).bind fun z => (asB z).bind fun k => if k then (mc env).bind fun u => g2 y u else .ok (.lf .fz (.bl false))
theorem seqCh {w : Wd} {W : WX} {σ : L2.St} {H : Hp} {env : DEnv} {r1 r2 : R2} {g1 g2 : O → O → R O} (h1 : Op2 X r1 g1) (h2 : Op2 X r2 g2) (hc : ClOk X w.cl) {Q : VK} (G : GoodE w env σ H) (h : Out w W σ H H (RepO w) (eCh g1 g2 ma mb mc env) Q) :
    tChain r1 r2 (rE w W ma) (rE w W mb) (rE w W mc) σ H Q :=
  rE_of G (Out.bind (Same.refl H) h fun o1 x H1 F1 _ s1 p1 f1 k1 => rE_of (G.same s1) (Out.bind s1 k1 fun o2 y H2 F2 _ s2 p2 f2 k2 => by
    refine h1 w W σ H H2 o1 o2 x y F1 F2 _ hc (s1.trans s2) (RepO.same s2 p1) p2 (fun a z z2 => (f1 a z).2.ne (f2 a z2).1) (f1.up s2) (f2.base s1) ?_
    have s12 := s1.trans s2
    have gen : ∀ r : R O, Out w W σ H H2 (RepO w) (r.bind fun z => (asB z).bind fun k => if k then (mc env).bind fun u => g2 o2 u else .ok (.lf .fz (.bl false))) Q →
        Out w W σ H H2 (RepO w) r (fun z H3 => ∃ k, z = V.bl k ∧ if k = true then rE w W mc σ H3 (fun w' H4 => r2 y w' H4 Q) else Q (.bl false) H3) := fun r hr => by
      cases r with
      | no => exact hr
      | ex x => exact hr
      | ok z =>
        intro v H3 F3 s3 p3 f3
        have hr := Out.step s3 hr
        have q := RepO.at p3
        simp only [R.bind] at hr
        unfold asB at hr
        cases ez : z.er <;> rw [ez] at hr q <;> try exact hr.elim
        rename_i k
        refine ⟨k, q, ?_⟩
        simp only at hr
        cases k with
        | false => exact out_bl hr
        | true =>
          rw [if_pos rfl] at hr ⊢
          have s13 := s12.trans s3
          refine rE_of (G.same s13) (Out.bind s13 hr fun o3 u H4 F4 _ s4 p4 f4 k4 => ?_)
          have s24 := s3.trans s4
          exact h2 w W σ H H4 o2 o3 y u F2 F4 Q hc (s13.trans s4) (RepO.same s24 p2) p4 (fun a z z2 => ((f2.up s3) a z).2.ne (f4 a z2).1) ((f2.base s1).up s24) (f4.base s13) k4
    exact gen _ k2))
theorem ve_ch {op1 op2 : CmpOp} {r1 r2 : R2} {g1 g2 : O → O → R O} (k1 : OpR X (compareOp op1) r1) (k2 : OpR X (compareOp op2) r2) (h1 : Op2 X r1 g1) (h2 : Op2 X r2 g2) (ha : VE X a ma) (hb : VE X b mb) (hc : VE X c mc) (hm : lastMarks [op1, op2] [b, c] = false := by with_unfolding_all rfl) :
    VE X (.Compare a [op1, op2] [b, c] pos) (eCh g1 g2 ma mb mc) := fun W tk w hcl => (pe_chain k1 k2 (ha W tk w hcl) (hb W tk w hcl) (hc W tk w hcl) hm).imp fun σ H Q h => let ⟨env, G, h⟩ := rE_to h; seqCh h1 h2 hcl G h
theorem vt_ch {op1 op2 : CmpOp} {r1 r2 : R2} {g1 g2 : O → O → R O} (k1 : OpR X (compareOp op1) r1) (k2 : OpR X (compareOp op2) r2) (h1 : Op2 X r1 g1) (h2 : Op2 X r2 g2) (ha : VE X a ma) (hb : VE X b mb) (hc : VE X c mc) (hm : lastMarks [op1, op2] [b, c] = false := by with_unfolding_all rfl) :
    VT X (.Compare a [op1, op2] [b, c] pos) (tOfE (eCh g1 g2 ma mb mc)) := fun W tk w hcl => (pt_chain k1 k2 (ha W tk w hcl) (hb W tk w hcl) (hc W tk w hcl) hm).imp fun σ H Q h => by
  obtain ⟨env, G, h⟩ := rT_to h
  refine seqCh (W := W) h1 h2 hcl G (Out.bind (Same.refl H) h fun o v H1 F1 _ s1 p1 f1 h1 => ?_)
  have z := RepO.at p1
  unfold asB at h1
  cases e : o.er <;> rw [e] at h1 z <;> try exact h1.elim
  rename_i b
  exact ⟨b, z, h1 b H1 (fun _ => False) (Same.refl H1) rfl fun _ z => z.elim⟩
theorem ve_leLe (ha : VE X a ma) (hb : VE X b mb) (hc : VE X c mc) (hm : lastMarks [.LtE, .LtE] [b, c] = false := by with_unfolding_all rfl) : VE X (.Compare a [.LtE, .LtE] [b, c] pos) (eCh gLe gLe ma mb mc) := ve_ch op_le op_le o_le o_le ha hb hc hm
theorem vt_leLe (ha : VE X a ma) (hb : VE X b mb) (hc : VE X c mc) (hm : lastMarks [.LtE, .LtE] [b, c] = false := by with_unfolding_all rfl) : VT X (.Compare a [.LtE, .LtE] [b, c] pos) (tOfE (eCh gLe gLe ma mb mc)) := vt_ch op_le op_le o_le o_le ha hb hc hm
theorem hu5_of {k : Nat} (h : Room k X.A) : X.A.units + 65 < cLine := by have := h.un; omega
def D.flat : D → Bool
  | .int _ => true | .str z => true | .non => true | _ => false
def eqF : D → D → Bool
  | .non, .non => true
  | .int a, .int b => a == b
  | .str a, .str b => a == b
  | _, _ => false
def inFl (x : D) (ds : List D) : Option Bool := if x.flat && ds.all D.flat then some (ds.any fun z => eqF z x) else none
def inDp (x : D) (ds : List D) : Option Bool := match x.py, D.pys ds with
    | some p, some ps => if SeqAt.shaped p && SeqAt.shaped (.list ps) then some (ps.any fun z => PyData.eqv z p) else none
    | _, _ => none
def inD (x y : D) : Option Bool := match y with
  | .str z => (match x with
    | .str ⟨⟨[c]⟩⟩ => some (decide (c ∈ z.cps.toList))
    | _ => none)
  | .lst ds => (match inFl x ds with
    | some b => some b
    | none => inDp x ds)
  | .tup ds => inFl x ds
  | _ => none
def gIn (o1 o2 : O) : R O := match inD o1.er o2.er with
  | some b => .ok (.lf .fz (.bl b))
  | none => .no
def gNIn (o1 o2 : O) : R O := match inD o1.er o2.er with
  | some b => .ok (.lf .fz (.bl (!b)))
  | none => .no
def rInG (K : PySem.W.Frag) (f : Bool → Bool) : R2 := fun x y H Q => ((∃ (c : Nat) (z : Str), x = .str ⟨#[c]⟩ ∧ y = .str z ∧ Q (.bl (f (decide (c ∈ z.cps.toList)))) H) ∨ (∃ d ds, Dp K H x d ∧ Dp K H y (.list ds) ∧ SeqAt.shaped d = true ∧ SeqAt.shaped (.list ds) = true ∧ Q (.bl (f (ds.any fun z => PyData.eqv z d))) H)) ∨ (∃ p xs, y = .ref p ∧ (SqL K H p xs ∨ SqT K H p xs) ∧ flatV x = true ∧ xs.all flatV = true ∧ Q (.bl (f (inV x xs))) H)
theorem Rep.flat {cl : Cl} {H : Hp} {S : Addr → Prop} {d : D} {v : V} (h : Rep cl H S d v) (f : d.flat = true) : flatV v = true := by
  cases d <;> first | (simp [D.flat] at f; done) | (simp only [Rep] at h; subst h; rfl)
theorem eqF_at {cl : Cl} {H : Hp} {S S' : Addr → Prop} {d e : D} {v u : V} (h : Rep cl H S d v) (h2 : Rep cl H S' e u) (f : d.flat = true) (f2 : e.flat = true) : eqV v u = eqF d e := by
  cases d <;> first | (simp [D.flat] at f; done) | (cases e <;> first | (simp [D.flat] at f2; done) | (simp only [Rep] at h h2; subst h; subst h2; rfl))
theorem Reps.flat {cl : Cl} {H : Hp} {S S' : Addr → Prop} {e : D} {u : V} (h2 : Rep cl H S' e u) (f2 : e.flat = true) : ∀ {ds : List D} {vs : List V}, Reps cl H S ds vs → ds.all D.flat = true → vs.all flatV = true ∧ (vs.any fun y => eqV y u) = ds.any fun z => eqF z e
  | [], vs, h, _ => by simp only [Reps] at h; subst h; exact ⟨rfl, rfl⟩
  | d :: ds, vs, h, f => by
    simp only [Reps] at h
    obtain ⟨v, r, rfl, h1, h3⟩ := h
    rw [List.all_cons, Bool.and_eq_true] at f
    obtain ⟨a, b⟩ := Reps.flat h2 f2 h3 f.2
    rw [List.all_cons, List.any_cons, List.any_cons, a, b, h1.flat f.1, eqF_at h1 h2 f.1 f2]
    exact ⟨rfl, rfl⟩
theorem inFl_some {x : D} {ds : List D} {b : Bool} (h : inFl x ds = some b) : x.flat = true ∧ ds.all D.flat = true ∧ b = ds.any fun z => eqF z x := by
  unfold inFl at h
  split at h
  · rename_i q
    rw [Bool.and_eq_true] at q
    cases h
    exact ⟨q.1, q.2, rfl⟩
  · cases h
theorem o_inG {f : Bool → Bool} : Op2 X (rInG X.K f) (fun o1 o2 => match inD o1.er o2.er with
    | some b => .ok (.lf .fz (.bl (f b)))
    | none => .no) := by
  intro w W σ H0 H o1 o2 x y F1 F2 Q hc s p1 p2 dj f1 f2 h
  have z1 := RepO.at p1
  have z2 := RepO.at p2
  have h : Out w W σ H0 H (RepO w) (match inD o1.er o2.er with
    | some b => .ok (.lf .fz (.bl (f b)))
    | none => .no) Q := h
  cases e : inD o1.er o2.er with
  | none => rw [e] at h; exact h.elim
  | some b =>
    rw [e] at h
    have h := out_bl h
    unfold inD at e
    split at e
    · rename_i z ez
      split at e
      · rename_i c ec
        cases e
        rw [ec] at z1
        rw [ez] at z2
        exact .inl (.inl ⟨c, z, z1, z2, h⟩)
      · cases e
    · rename_i ds ez
      split at e
      · rename_i b' eb
        cases e
        obtain ⟨f1, f2, rfl⟩ := inFl_some eb
        rw [ez] at z2
        simp only [Rep] at z2
        obtain ⟨a, vs, rfl, _, r, q⟩ := z2
        obtain ⟨g1, g2⟩ := Reps.flat z1 f1 q f2
        exact .inr ⟨a, vs, rfl, .inl (SqL.of r), z1.flat f1, g1, by unfold inV; rw [g2]; exact h⟩
      unfold inDp at e
      split at e
      · rename_i p ps ep eps
        split at e
        · rename_i hs
          cases e
          rw [Bool.and_eq_true] at hs
          refine .inl (.inr ⟨p, ps, Rep.dp z1 ep, Rep.dp z2 ?_, hs.1, hs.2, h⟩)
          rw [ez]
          simp only [D.py, eps, Option.map_some]
        · cases e
      · cases e
    · rename_i ds ez
      obtain ⟨f1, f2, rfl⟩ := inFl_some e
      rw [ez] at z2
      simp only [Rep] at z2
      obtain ⟨a, vs, rfl, r, q⟩ := z2
      obtain ⟨g1, g2⟩ := Reps.flat z1 f1 q f2
      exact .inr ⟨a, vs, rfl, .inr (SqT.of r), z1.flat f1, g1, by unfold inV; rw [g2]; exact h⟩
    · cases e
theorem op_inG (hu : X.A.units + 65 < cLine) : OpR X (compareOp .In) (rInG X.K id) := OpR.or (OpR.or op_in_sign (op_inD hu)) op_in_seq
theorem op_nInG (hu : X.A.units + 65 < cLine) : OpR X (compareOp .NotIn) (rInG X.K not) := OpR.or (OpR.or op_notIn_sign (op_notInD hu)) op_notIn_seq
end
section
variable {X : Cx} {a b : Expr} {ma mb : DEnv → R O} {pos : Pos}
theorem ve_in (hu : X.A.units + 65 < cLine) (ha : VE X a ma) (hb : VE X b mb) (hm : behindInMarks .In b = false := by rfl) : VE X (.Compare a [.In] [b] pos) (e2 gIn ma mb) := ve_cmp (op_inG hu) (o_inG (f := id)) ha hb hm
theorem vt_in (hu : X.A.units + 65 < cLine) (ha : VE X a ma) (hb : VE X b mb) (hm : behindInMarks .In b = false := by rfl) : VT X (.Compare a [.In] [b] pos) (tOfE (e2 gIn ma mb)) := vt_cmp (op_inG hu) (o_inG (f := id)) ha hb hm
theorem vt_nin (hu : X.A.units + 65 < cLine) (ha : VE X a ma) (hb : VE X b mb) (hm : behindInMarks .NotIn b = false := by rfl) : VT X (.Compare a [.NotIn] [b] pos) (tOfE (e2 gNIn ma mb)) := vt_cmp (op_nInG hu) (o_inG (f := not)) ha hb hm
def sgO (c : Nat) : O := .lf .fz (.str ⟨#[c]⟩)
def jStr (ma : DEnv → R O) : DEnv → R (Bool × List O) := fun env => (ma env).bind fun o => match o.er with
  | .str z => .ok (true, z.cps.toList.map sgO)
  | _ => .no
theorem vj_str {tg : Expr} (ha : VE X a ma) : VJ X tg a (jStr ma) := fun W tk w hc => by
  refine ⟨_, pi_str (ha W tk w hc), fun env σ H Q G h => rE_of G ?_⟩
  unfold jStr at h
  cases e : ma env with
  | no => rw [e] at h; exact h
  | ex x => rw [e] at h; exact h
  | ok o =>
    rw [e] at h
    intro v H1 F1 s1 p1 f1
    simp only [R.bind] at h
    have q := RepO.at p1
    cases eo : o.er <;> rw [eo] at h q <;> try exact h.elim
    rename_i z
    refine ⟨z, q, h _ H1 (fun _ => False) s1 (fun _ z => z.elim) (fun _ _ z => z) ⟨fun i o H2 eo s2 => ?_, fun H2 s2 => ?_⟩⟩
    · rw [List.getElem?_map] at eo
      cases ei : z.cps.toList[i]? with
      | none => rw [ei] at eo; cases eo
      | some c =>
        rw [ei] at eo
        cases eo
        have ei' : z.cps[i]? = some c := by rw [← Array.getElem?_toList]; exact ei
        refine ⟨(Array.getElem?_eq_some_iff.mp ei').1, fun x H3 y => ?_⟩
        obtain ⟨rfl, c', ec, rfl⟩ := y
        rw [ei'] at ec
        cases ec
        exact ⟨Same.refl _, by simp [sgO, RepO, Rep]⟩
    · show z.cps.size ≤ _
      simp
def strsOf : List D → Option (List Str)
  | [] => some []
  | .str z :: r => (strsOf r).map (z :: ·)
  | _ :: _ => none
theorem Reps.strs {cl : Cl} {H : Hp} {S : Addr → Prop} : ∀ {ds : List D} {vs : List V} {zs : List Str}, strsOf ds = some zs → Reps cl H S ds vs → vs = zs.map V.str
  | [], vs, zs, e, h => by cases e; simpa [Reps] using h
  | .str i :: r, vs, zs, e, h => by
    simp only [strsOf] at e
    cases q : strsOf r with
    | none => rw [q] at e; cases e
    | some m =>
      rw [q] at e; cases e
      simp only [Reps, Rep] at h
      obtain ⟨v, r', rfl, rfl, h2⟩ := h
      rw [Reps.strs q h2]; rfl
  | .non :: _, _, _, h, _ | .int _ :: _, _, _, h, _ | .bl _ :: _, _, _, h, _ | .lst _ :: _, _, _, h, _ | .tup _ :: _, _, _, h, _ | .dct _ _ :: _, _, _, h, _ | .dcT _ _ :: _, _, _, h, _ | .obj _ _ _ :: _, _, _, h, _ | .scr _ :: _, _, _, h, _ | .kt :: _, _, _, h, _ | .opq :: _, _, _, h, _ => by simp [strsOf] at h
def gJoin (o1 o2 : O) : R O := match o1.er with
  | .str a => (match o2.er.seq with
    | some ds => (match strsOf ds with
      | some ys => if decide ((ys.map (·.length)).sum + ys.length * a.length ≤ 16777216) then .ok (.lf .fz (.str (Txt.join a ys))) else .no
      | none => .no)
    | none => .no)
  | _ => .no
def isSO (o : O) : Bool := match o.er with
  | .str _ => true
  | _ => false
theorem ve_join {apos : Pos} (ho : VE X a ma) (he : VE X b mb) (hs : starEach [b] X.env = [(false, eval b X.env)] := by rfl) (hbase : attributeBase a "join" X.env (eval a X.env) = eval a X.env := by rfl) (hline : (apos.endLine == pos.line) = true := by rfl) :
    VE X (.Call (.Attribute a "join" apos) [b] [] pos) (eMeth isSO gJoin ma mb) := fun W tk w hc =>
  (pe_join (ho W tk w hc) (he W tk w hc) hs hbase hline).imp fun σ H Q h => by
    obtain ⟨env, G, h⟩ := rE_to h
    refine rE_of G ?_
    unfold eMeth isSO at h
    cases e : ma env with
    | no => rw [e] at h; exact h
    | ex x => rw [e] at h; exact h
    | ok o1 =>
      rw [e] at h
      intro v H1 F1 s1 p1 f1
      have q1 := RepO.at p1
      simp only [R.bind] at h
      cases eo : o1.er with
      | str z =>
        rw [eo] at h q1
        simp only [if_true] at h
        refine ⟨⟨z, q1⟩, rE_of (G.same s1) ?_⟩
        have h := Out.step s1 h
        cases e2 : mb env with
        | no => rw [e2] at h; exact h
        | ex x => rw [e2] at h; exact fun cls d H' F s r fr => h cls d H' F s r (fr.base s1)
        | ok o2 =>
          rw [e2] at h
          intro u H2 F2 s2 p2 f2
          have q2 := RepO.at p2
          simp only [R.bind] at h
          unfold gJoin at h
          rw [eo] at h
          simp only at h
          cases e3 : o2.er.seq with
          | none => rw [e3] at h; exact h.elim
          | some ds =>
            rw [e3] at h
            simp only at h
            cases e4 : strsOf ds with
            | none => rw [e4] at h; exact h.elim
            | some ys =>
              rw [e4] at h
              simp only at h
              split at h
              · rename_i hz
                obtain ⟨x, vs, rfl, hx, hr⟩ := seq_rep e3 q2
                have ev := Reps.strs e4 hr
                subst ev
                exact ⟨z, x, ys, q1, rfl, hx.imp (fun q => SqL.of q.1) (fun q => SqT.of q), of_decide_eq_true hz, out_str (Out.step s2 h)⟩
              · exact h.elim
      | _ => rw [eo] at h; exact h.elim
end
end VL
namespace VL
open PySem PySem.Spec PyProof.Rows L2
abbrev tS (l : List Nat) : Str := ⟨⟨l⟩⟩
abbrev oS (l : List Nat) : O := .lf .fz (.str (tS l))
section
variable {k k' : Kd} {l m : List Nat} {c : Nat} {i j : Int} {env : DEnv} {ma mb mc : DEnv → R O} {g1 g2 : O → O → R O} {o : O} {ds : List D}
@[simp] theorem eCh_ev : eCh g1 g2 ma mb mc env = (ma env).bind fun x => (mb env).bind fun y => (g1 x y).bind fun z => (asB z).bind fun k => if k then (mc env).bind fun u => g2 y u else .ok (.lf .fz (.bl false)) := (rfl)
@[simp] theorem gIn_sg : gIn (.lf k (.str (tS [c]))) (.lf k' (.str (tS l))) = .ok (ob (decide (c ∈ l))) := (rfl)
@[simp] theorem gNIn_sg : gNIn (.lf k (.str (tS [c]))) (.lf k' (.str (tS l))) = .ok (ob (!decide (c ∈ l))) := (rfl)
theorem szif {α : Type} {n : Nat} {r : R α} : (if szOk n = true then r else .no) = gd (n ≤ 16777216) r := by
  rw [← gd_eq]; unfold szOk
  by_cases h : n ≤ 16777216
  · rw [if_pos (decide_eq_true h), if_pos h]
  · rw [if_neg (by simpa using h), if_neg h]
@[simp] theorem gLen_str : gLen (.lf k (.str (tS l))) = gd (l.length ≤ 16777216) (.ok (oi l.length)) := by
  rw [← szif]
  show (match (if szOk l.length then some l.length else none) with
    | some n => R.ok (oi n)
    | none => .no) = _
  by_cases h : szOk l.length = true
  · rw [if_pos h, if_pos h]
  · rw [if_neg h, if_neg h]
@[simp] theorem gIx_str : gIx (.lf k (.str (tS l))) (oi i) = gd (l.length ≤ 16777216) ((optR (atI l i)).bind fun c => .ok (oS [c])) := by
  rw [← szif]
  show (if szOk l.length then (match atI l i with
      | some c => R.ok (oS [c])
      | none => .no) else .no) = _
  cases atI l i <;> rfl
@[simp] theorem gPlus_str : gPlus (.lf k (.str (tS l))) (.lf k' (.str (tS m))) = gd (l.length + m.length ≤ 16777216) (.ok (oS (l ++ m))) := by
  rw [← szif]
  show (if szOk (l.length + m.length) then R.ok (O.lf .fz (.str (tS l ++ tS m))) else .no) = _
  have : (tS l ++ tS m : Str) = tS (l ++ m) := by
    show (⟨(⟨l⟩ : Array Nat) ++ ⟨m⟩⟩ : Str) = _
    simp
  rw [this]
@[simp] theorem gTimes_str : gTimes (.lf k (.str (tS l))) (oi i) = gd (-(2 ^ 63) ≤ i ∧ i < 2 ^ 63 ∧ l.length * i.toNat ≤ 16777216) (.ok (oS (List.replicate i.toNat l).flatten)) := by
  show (if (decide (-(2 ^ 63) ≤ i) && decide (i < 2 ^ 63) && szOk (l.length * i.toNat)) = true then R.ok (O.lf .fz (.str (repS (tS l) i.toNat))) else .no) = _
  rw [← gd_eq]
  have : repS (tS l) i.toNat = tS (List.replicate i.toNat l).flatten := rfl
  rw [this]
  by_cases h : -(2 ^ 63) ≤ i ∧ i < 2 ^ 63 ∧ l.length * i.toNat ≤ 16777216
  · rw [if_pos h, if_pos]
    simp only [Bool.and_eq_true, decide_eq_true_eq]
    exact ⟨⟨h.1, h.2.1⟩, decide_eq_true h.2.2⟩
  · rw [if_neg h, if_neg]
    simp only [Bool.and_eq_true, decide_eq_true_eq]
    exact fun q => h ⟨q.1.1, q.1.2, of_decide_eq_true q.2⟩
@[simp] theorem gSl_str {lo hi : Option Int} : gSl (.lf k (.str (tS l))) lo hi = gd (l.length ≤ 16777216) (.ok (oS (cutA l lo hi))) := by
  rw [← szif]; rfl
@[simp] theorem jStr_ev : jStr ma env = (ma env).bind fun o => match o.er with
  | .str z => .ok (true, z.cps.toList.map sgO)
  | _ => .no := (rfl)
@[simp] theorem sgO_eq : sgO c = oS [c] := (rfl)
@[simp] theorem isSO_str : isSO (.lf k (.str (tS l))) = true := (rfl)
@[simp] theorem strsOf_nil : strsOf [] = some [] := (rfl)
@[simp] theorem strsOf_cons {z : Str} : strsOf (.str z :: ds) = (strsOf ds).map (z :: ·) := by simp [strsOf]
@[simp] theorem strsOf_map {α : Type} {f : α → Str} {xs : List α} : strsOf (xs.map fun x => D.str (f x)) = some (xs.map f) := by
  induction xs with
  | nil => rfl
  | cons x r ih => rw [List.map_cons, strsOf_cons, ih]; rfl
theorem foldl_cat : ∀ (ys : List Str) (acc : Array Nat), (ys.foldl (fun acc p => acc ++ (#[] : Array Nat) ++ p.cps) acc).toList = acc.toList ++ (ys.map fun y => y.cps.toList).flatten
  | [], acc => by simp
  | y :: ys, acc => by rw [List.foldl_cons, foldl_cat ys]; simp
theorem join_nil {ys : List Str} : Txt.join (tS []) ys = tS (ys.map fun y => y.cps.toList).flatten := by
  unfold Txt.join Builtin.Str.glued
  cases ys with
  | nil => rfl
  | cons y r =>
    show (⟨r.foldl (fun acc p => acc ++ (#[] : Array Nat) ++ p.cps) y.cps⟩ : Str) = _
    have := foldl_cat r y.cps
    congr 1
    apply Array.toList_inj.mp
    rw [this]
    simp
theorem gJoin_nil {ys : List Str} {o : O} (h : o.er.seq.bind strsOf = some ys) : gJoin (.lf k (.str (tS []))) o = gd ((ys.map fun y : Str => y.length).sum ≤ 16777216) (.ok (oS (ys.map fun y => y.cps.toList).flatten)) := by
  cases e : o.er.seq with
  | none => rw [e] at h; cases h
  | some ds =>
    rw [e] at h
    have h : strsOf ds = some ys := h
    unfold gJoin
    rw [e]
    show (match strsOf ds with
      | some ys => if decide ((ys.map fun y : Str => y.length).sum + ys.length * 0 ≤ 16777216) = true then R.ok (O.lf .fz (.str (Txt.join (tS []) ys))) else .no
      | none => R.no) = _
    rw [h]
    show (if decide ((ys.map fun y : Str => y.length).sum + ys.length * 0 ≤ 16777216) = true then R.ok (O.lf .fz (.str (Txt.join (tS []) ys))) else .no) = _
    rw [Nat.mul_zero, Nat.add_zero, ← gd_eq, join_nil]
    by_cases h : (ys.map fun y : Str => y.length).sum ≤ 16777216
    · rw [if_pos (decide_eq_true h), if_pos h]
    · rw [if_neg (by simpa using h), if_neg h]
@[simp] theorem seq_lst : (D.lst ds).seq = some ds := (rfl)
@[simp] theorem seq_tup : (D.tup ds).seq = some ds := (rfl)
theorem strOk_tS : PySem.PyData.strOk (tS l) = l.all (· < 0x110000) := by
  unfold PySem.PyData.strOk
  rw [← Array.all_toList]
end
end VL
namespace VL
open PySem PySem.Spec PyProof.Rows L2
section
variable {k : Kd} {ds : List D}
def blsD : D → Option (List Bool)
  | .lst ds => blsOf ds
  | _ => none
@[simp] theorem allB_ev {o : O} : VL.allB o = (optR (blsD o.er)).bind fun bs => .ok (ob (bs.all id)) := by
  unfold VL.allB blsD
  cases o.er with
  | lst ds =>
    show (match blsOf ds with
      | some bs => R.ok (O.lf .fz (.bl (bs.all id)))
      | none => .no) = (optR (blsOf ds)).bind fun bs => R.ok (ob (bs.all id))
    cases blsOf ds <;> rfl
  | _ => rfl
@[simp] theorem blsD_map {α : Type} {f : α → Bool} {xs : List α} : blsD (.lst (xs.map fun x => D.bl (f x))) = some (xs.map f) := by
  have := blsOf_map (xs.map f)
  rw [List.map_map] at this
  exact this
@[simp] theorem blsD_nil : blsD (.lst []) = some [] := (rfl)
@[simp] theorem blsD_cons {b : Bool} : blsD (.lst (.bl b :: ds)) = (blsD (.lst ds)).map (b :: ·) := by
  show blsOf (.bl b :: ds) = _
  simp [blsOf, blsD]
@[simp] theorem gEq_bl {a b : Bool} : gEq (ob a) (ob b) = .ok (ob (a == b)) := by cases a <;> cases b <;> rfl
@[simp] theorem gNe_bl {a b : Bool} : gNe (ob a) (ob b) = .ok (ob (!(a == b))) := by cases a <;> cases b <;> rfl
@[simp] theorem all_map_id {α : Type} {f : α → Bool} {xs : List α} : (xs.map f).all id = xs.all f := by rw [List.all_map]; rfl
end
end VL
namespace VL
open PySem PySem.Spec PyProof.Rows L2
def dkey : D → Option Key
  | .int i => some (.inl i)
  | .str z => some (.inr z)
  | _ => none
def dkeys : List D → Option (List Key)
  | [] => some []
  | d :: ds => match dkey d, dkeys ds with
    | some k, some ks => some (k :: ks)
    | _, _ => none
def tkey : D → Option (List Key)
  | .tup ds => dkeys ds
  | _ => none
def lkK {κ α : Type} [DecidableEq κ] (k : κ) : List κ → List α → Option α
  | g :: ks, x :: xs => if g = k then some x else lkK k ks xs
  | _, _ => none
def putKs {κ : Type} [DecidableEq κ] (k : κ) : List κ → List κ
  | g :: ks => if g = k then g :: ks else g :: putKs k ks
  | [] => [k]
def putOs {κ α : Type} [DecidableEq κ] (k : κ) (o : α) : List κ → List α → List α
  | g :: ks, x :: xs => if g = k then o :: xs else x :: putOs k o ks xs
  | _, _ => [o]
section
variable {cl : Cl} {H : Hp} {S : Addr → Prop}
def cntK {κ : Type} [DecidableEq κ] (k : κ) (ks : List κ) : Nat := (ks.filter fun g => decide (g = k)).length
end
def dget (o1 o2 : O) : Option (Option O) := match o1 with
  | .lf kd (.dct ks ds) => (dkey o2.er).map fun k => (lkK k ks ds).map (lfk kd)
  | .lf kd (.dcT ks ds) => (tkey o2.er).map fun k => (lkK k ks ds).map (lfk kd)
  | _ => none
def gDix (o1 o2 : O) : R O := match dget o1 o2 with
  | some (some o) => .ok o
  | _ => .no
section
variable {X : Cx} {a b : Expr} {ma mb : DEnv → R O} {pos : Pos}
end
section
variable {f : Fm} {Z : Addr → Prop} {Fs : Nat → Addr → Prop} {env : VEnv} {σ : L2.St} {H : Hp}
end
section
variable {f : Fm} {Z : Addr → Prop} {Fs : Nat → Addr → Prop} {env : VEnv} {σ : L2.St} {H : Hp}
end
section
variable {X : Cx} {P : List Nat} {e a b : Expr} {ma mb : DEnv → R O} {mp : VEnv → Option (Nat × List Nat)} {pos : Pos}
end
end VL
namespace VL
open PySem PySem.Spec PyProof.Rows L2
def DcO (u : HO) : Prop := (∃ kvs, u = .dK kvs) ∨ ∃ kvs, u = .dT kvs
theorem DcO.nt {u : HO} (h : DcO u) : ntO u := by
  rcases h with ⟨_, rfl⟩ | ⟨_, rfl⟩ <;> exact True.intro
section
variable {cl : Cl} {H : Hp} {S : Addr → Prop} {a : Addr} {od : Obj} {u : HO}
theorem unl_ne {b : Addr} {w : HO} (h : H a = some (.frz od u)) (e : H b = some w) (n : ∀ o' u', w ≠ .frz o' u') : (upd H a u) b = some w := by
  rw [upd_ne (fun q => by rw [q, h] at e; cases e; exact n _ _ rfl)]; exact e
theorem unl_rd {b : Addr} {w : HO} (h : H a = some (.frz od u)) (r : Rd H b w) (n : ∀ o' u', w ≠ .frz o' u') : Rd (upd H a u) b w := by
  rcases r with e | ⟨o, e⟩
  · exact .inl (unl_ne h e n)
  · by_cases hb : b = a
    · subst hb
      rw [h] at e; cases e
      exact .inl upd_same
    · exact .inr ⟨o, by rw [upd_ne hb]; exact e⟩
mutual
theorem Rep.unl (h : H a = some (.frz od u)) : ∀ {d : D} {v : V}, Rep cl H S d v → Rep cl (upd H a u) S d v
  | .non, v, r => r
  | .bl _, v, r => r
  | .int _, v, r => r
  | .str _, v, r => r
  | .lst xs, v, r => by
    simp only [Rep] at r ⊢
    obtain ⟨b, vs, e, s, r, q⟩ := r
    exact ⟨b, vs, e, s, unl_ne h r (fun _ _ q => nomatch q), Reps.unl h q⟩
  | .scr xs, v, r => by
    simp only [Rep] at r ⊢
    obtain ⟨b, vs, e, r, q⟩ := r
    exact ⟨b, vs, e, r.imp (fun z => ⟨z.1, unl_rd h z.2 (fun _ _ q => nomatch q)⟩) id, Reps.unl h q⟩
  | .tup xs, v, r => by
    simp only [Rep] at r ⊢
    obtain ⟨b, vs, e, r, q⟩ := r
    exact ⟨b, vs, e, unl_ne h r (fun _ _ q => nomatch q), Reps.unl h q⟩
  | .dct ks xs, v, r => by
    simp only [Rep] at r ⊢
    obtain ⟨b, kvs, e, s, r, z, q⟩ := r
    exact ⟨b, kvs, e, s, unl_rd h r (fun _ _ q => nomatch q), z, Reps.unl h q⟩
  | .dcT ks xs, v, r => by
    simp only [Rep] at r ⊢
    obtain ⟨b, kvs, e, s, r, z, q⟩ := r
    exact ⟨b, kvs, e, s, unl_rd h r (fun _ _ q => nomatch q), z, Reps.unl h q⟩
  | .obj C fs xs, v, r => by
    simp only [Rep] at r ⊢
    obtain ⟨b, Ca, dx, kvs, e, s, c, r, z, q⟩ := r
    exact ⟨b, Ca, dx, kvs, e, s, c, unl_ne h r (fun _ _ q => nomatch q), z, Reps.unl h q⟩
  | .kt, v, r => r
  | .opq, v, r => by simp only [Rep]
theorem Reps.unl (h : H a = some (.frz od u)) : ∀ {ds : List D} {vs : List V}, Reps cl H S ds vs → Reps cl (upd H a u) S ds vs
  | [], vs, r => r
  | d :: ds, vs, r => by
    simp only [Reps] at r ⊢
    obtain ⟨v, q, e, h1, h2⟩ := r
    exact ⟨v, q, e, Rep.unl h h1, Reps.unl h h2⟩
end
end
section
variable {w : Wd} {H : Hp} {a : Addr} {od : Obj} {u : HO}
theorem RepXn.unl {C : String} {fs : List String} {ds : List D} {v : V} (h : H a = some (.frz od u)) (r : RepXn w H C fs ds v) : RepXn w (upd H a u) C fs ds v := by
  obtain ⟨b, Ca, d, e, x, c, r⟩ := r
  refine ⟨b, Ca, d, e, x, c, ?_⟩
  rcases r with r | ⟨dd, kvs, e1, z, r, e2, q⟩ | ⟨e1, e2, dd, kvs, e3, z, r⟩
  · exact .inl r
  · exact .inr (.inl ⟨dd, kvs, e1, z, unl_ne h r (fun _ _ q => nomatch q), e2, Reps.unl h q⟩)
  · exact .inr (.inr ⟨e1, e2, dd, kvs, e3, z, unl_ne h r (fun _ _ q => nomatch q)⟩)
mutual
theorem RepO.unl (h : H a = some (.frz od u)) : ∀ {o : O} {v : V} {F : Addr → Prop}, RepO w H o v F → RepO w (upd H a u) o v F
  | .lf x d, v, F, r => by
    simp only [RepO] at r ⊢
    exact Rep.unl h r
  | .lst xs, v, F, r => by
    simp only [RepO] at r ⊢
    obtain ⟨b, vs, G, e, r, fa, ga, sg, q⟩ := r
    exact ⟨b, vs, G, e, unl_ne h r (fun _ _ q => nomatch q), fa, ga, sg, RepOs.unl h q⟩
  | .tup xs, v, F, r => by
    simp only [RepO] at r ⊢
    obtain ⟨b, vs, e, r, q⟩ := r
    exact ⟨b, vs, e, unl_ne h r (fun _ _ q => nomatch q), RepOs.unl h q⟩
  | .dct ks xs, v, F, r => by
    simp only [RepO] at r ⊢
    obtain ⟨b, vs, G, e, r, z, fa, ga, sg, q⟩ := r
    exact ⟨b, vs, G, e, unl_ne h r (fun _ _ q => nomatch q), z, fa, ga, sg, RepOs.unl h q⟩
  | .dcT ks xs, v, F, r => by
    simp only [RepO] at r ⊢
    obtain ⟨b, vs, G, e, r, z, fa, ga, sg, q⟩ := r
    exact ⟨b, vs, G, e, unl_ne h r (fun _ _ q => nomatch q), z, fa, ga, sg, RepOs.unl h q⟩
  | .obj C fs xs, v, F, r => by
    simp only [RepO] at r ⊢
    obtain ⟨b, Ca, dx, vs, G, e, c, r, z, fa, ga, sg, q⟩ := r
    exact ⟨b, Ca, dx, vs, G, e, c, unl_ne h r (fun _ _ q => nomatch q), z, fa, ga, sg, RepOs.unl h q⟩
  | .xn C fs ds, v, F, r => by
    simp only [RepO] at r ⊢
    exact RepXn.unl h r
  | .xo C fs xs, v, F, r => by
    simp only [RepO] at r ⊢
    obtain ⟨b, Ca, dx, vs, G, e, x, c, r, z, fa, ga, sg, q⟩ := r
    exact ⟨b, Ca, dx, vs, G, e, x, c, unl_ne h r (fun _ _ q => nomatch q), z, fa, ga, sg, RepOs.unl h q⟩
theorem RepOs.unl (h : H a = some (.frz od u)) : ∀ {os : List O} {vs : List V} {F : Addr → Prop}, RepOs w H os vs F → RepOs w (upd H a u) os vs F
  | [], vs, F, r => r
  | o :: os, vs, F, r => by
    simp only [RepOs] at r ⊢
    obtain ⟨v, q, F1, F2, e, s1, s2, d, h1, h2⟩ := r
    exact ⟨v, q, F1, F2, e, s1, s2, d, RepO.unl h h1, RepOs.unl h h2⟩
end
theorem RepX.unl {x : Exn} {cls : Value} {d : Option Addr} {F : Addr → Prop} (h : H a = some (.frz od u)) (r : RepX w H x cls d F) : RepX w (upd H a u) x cls d F := by
  obtain ⟨Ca, c, e, r⟩ := r
  refine ⟨Ca, c, e, ?_⟩
  rcases r with r | ⟨b, kvs, G, e1, e2, e3, f, g, sg, r⟩
  · exact .inl r
  · exact .inr ⟨b, kvs, G, e1, unl_ne h e2 (fun _ _ q => nomatch q), e3, f, g, sg, RepOs.unl h r⟩
theorem NT.unl {b : Addr} (h : H a = some (.frz od u)) (hu : DcO u) (n : NT (H b)) : NT ((upd H a u) b) := by
  by_cases hb : b = a
  · subst hb
    exact ⟨u, upd_same, hu.nt⟩
  · obtain ⟨w, e, n⟩ := n
    exact ⟨w, by rw [upd_ne hb]; exact e, n⟩
end
section
variable {f : Fm} {Z : Addr → Prop} {Fs : Nat → Addr → Prop} {env : VEnv} {σ : L2.St} {H : Hp} {a : Addr} {od : Obj} {u : HO}
variable {Z2 : Addr → Prop} {Fs2 : Nat → Addr → Prop} {env2 : VEnv} {σ2 : L2.St} {H2 : Hp}
end
def keyD : Key → D
  | .inl i => .int i
  | .inr z => .str z
section
variable {X : Cx} {P : List Nat} {body : List Stmt} {m : VEnv → RS} {pos : Pos}
end
end VL
namespace VL
open PySem PySem.Spec PyProof.Rows L2
def gRev (o : O) : R O := match elems o with
  | some os => if o.er.isL then .ok (.lst os.reverse) else .no
  | none => .no
section
variable {X : Cx} {a : Expr} {ma : DEnv → R O} {pos : Pos}
end
def gListD (o : O) : R O := match o.er with
  | .dct ks _ => .ok (.lst (ks.map fun k => .lf .fz (keyD k)))
  | _ => .no
section
variable {X : Cx} {a : Expr} {ma : DEnv → R O} {pos : Pos}
end
section
variable {X : Cx} {tg iter elt kx vx : Expr} {ifs : List Expr} {scope : Scope} {own : List (Str × Nat)} {pos p1 : Pos} {src : DEnv → R (Bool × List O)} {asg : O → AsgE} {g : TG} {t : DEnv → R Bool} {me mk mv : DEnv → R O} {x : Str}
end
def dcL (asg : O → AsgE) (t : DEnv → R Bool) (mk mv : DEnv → R O) (env : DEnv) : List O → List Key → List O → R (List Key × List O)
  | [], ks, os => .ok (ks, os)
  | o :: r, ks, os => match asg o env with
    | none => .no
    | some e => match t e with
      | .ok false => dcL asg t mk mv env r ks os
      | .ok true => match mk e, mv e with
        | .ok ko, .ok y => (match dkey ko.er with
          | some k => if decide (cntK k ks ≤ 1) && decide (ks.length = os.length) then dcL asg t mk mv env r (putKs k ks) (putOs k y ks os) else .no
          | none => .no)
        | _, _ => .no
      | _ => .no
section
variable {X : Cx} {tg iter elt kx vx : Expr} {ifs : List Expr} {scope : Scope} {own : List (Str × Nat)} {pos p1 : Pos} {src : DEnv → R (Bool × List O)} {asg : O → AsgE} {g : TG} {t : DEnv → R Bool} {me mk mv : DEnv → R O} {x : Str}
structure DcI (w : Wd) (asg : O → AsgE) (t : DEnv → R Bool) (mk mv : DEnv → R O) (env : DEnv) (Fx : Addr → Prop) (items : List O) (H1 : Hp) (D : Addr) (total : List Key × List O) (i : Nat) (H' : Hp) : Prop where
  le : i ≤ items.length
  x : ∃ kvs F ks os, H' D = some (.dK kvs) ∧ Same H1 H' ∧ kvs.map (·.1) = ks ∧ RepOs (wx w Fx) H' os (kvs.map (·.2)) F ∧ Fresh H1 H' F ∧ ¬ F D ∧ kvs.length ≤ i ∧ dcL asg t mk mv env (items.drop i) ks os = .ok total
end
end VL
namespace VL
open PySem PySem.Spec PyProof.Rows L2
abbrev kS (l : List Nat) : Key := .inr (tS l)
abbrev dS (ns : List (List Nat)) (ds : List D) : D := .dct (ns.map kS) ds
abbrev tD (l : List Nat) : D := .str (tS l)
theorem tS_inj {l m : List Nat} : tS l = tS m ↔ l = m := ⟨fun h => by injection h with h; injection h, fun h => by rw [h]⟩
theorem kS_inj {l m : List Nat} : kS l = kS m ↔ l = m := ⟨fun h => by injection h with h; exact tS_inj.mp h, fun h => by rw [h]⟩
section
variable {k k' : Kd} {ks : List Key} {os : List O} {ds : List D} {ns : List (List Nat)} {l : List Nat} {o : O}
@[simp] theorem er_dct : (O.dct ks os).er = .dct ks (O.ers os) := (rfl)
@[simp] theorem imm_dct : (D.dct ks ds).imm = false := (rfl)
@[simp] theorem no_dct {q : Kd → Bool} : (O.dct ks os).no q = O.nos q os := (rfl)
@[simp] theorem own_dct : (O.dct ks os).own = O.owns os := (rfl)
@[simp] theorem frz_dct : frzO (.dct ks os) = if O.nos notFz os then some (.lf .fz (.dct ks (O.ers os))) else none := (rfl)
@[simp] theorem toArg_dct : toArg (.dct ks os) = if O.nos notFz os then .lf .fz (.dct ks (O.ers os)) else .lf .bo (.dct ks (O.ers os)) := (rfl)
@[simp] theorem lfk_dct : lfk k (.dct ks ds) = .lf k (.dct ks ds) := (rfl)
@[simp] theorem lendV_dct : lendV (some (some (.dct ks os))) = .ok (.lf .tb (.dct ks (O.ers os))) := (rfl)
@[simp] theorem lentO_dct : lentO (.dct ks os) = .lf .tb (.dct ks (O.ers os)) := (rfl)
@[simp] theorem frz_ok_dct [h : KOk k] : frzO (.lf k (.dct ks ds)) = some (.lf k (.dct ks ds)) := by
  cases k with
  | fz => rfl
  | bo => rfl
  | tb => exact absurd rfl h.1
def look {α : Type} (l : List Nat) (ns : List (List Nat)) (xs : List α) : Option α := lkK l ns xs
theorem lkK_kS {α : Type} : ∀ {ns : List (List Nat)} {xs : List α}, lkK (kS l) (ns.map kS) xs = look l ns xs
  | [], xs => by cases xs <;> rfl
  | m :: ns, [] => rfl
  | m :: ns, x :: xs => by
    show (if kS m = kS l then some x else lkK (kS l) (ns.map kS) xs) = if m = l then some x else look l ns xs
    rw [lkK_kS]
    by_cases h : m = l
    · rw [if_pos h, if_pos (kS_inj.mpr h)]
    · rw [if_neg h, if_neg (fun q => h (kS_inj.mp q))]
theorem dget_S : dget (.lf k (dS ns ds)) (.lf k' (.str (tS l))) = some ((look l ns ds).map (lfk k)) := by
  show some ((lkK (kS l) (ns.map kS) ds).map (lfk k)) = _
  rw [lkK_kS]
@[simp] theorem gDix_S : gDix (.lf k (dS ns ds)) (.lf k' (.str (tS l))) = (optR (look l ns ds)).bind fun d => .ok (lfk k d) := by
  unfold gDix
  rw [dget_S]
  cases look l ns ds <;> rfl
@[simp] theorem gListD_S : gListD (.lf k (dS ns ds)) = .ok (.lst (ns.map oS)) := by
  show R.ok (O.lst ((ns.map kS).map fun k => .lf .fz (keyD k))) = _
  rw [List.map_map]
  rfl
@[simp] theorem gRev_L {vs : List Int} : gRev (.lf k (iL vs)) = .ok (ol vs.reverse) := by
  show R.ok (O.lst ((vs.map D.int).map (lfk k)).reverse) = _
  rw [List.map_map, ← List.map_reverse]
  rfl
end
end VL
namespace VL
open PySem PySem.Spec PyProof.Rows L2
section
variable {X : Cx} {a b : Expr} {ta tb : TE} {ma mb : DEnv → R O} {pos : Pos} {CX : CXT} {k : Nat} {f C : Addr} {fd : FuncData} {ps : List Str} {sp : Sp} {E' : L2.St → XK}
end
end VL
namespace VL
open PySem PySem.Spec PyProof.Rows L2
section
variable {w w' : Wd} {H H' : Hp}
mutual
theorem RepO.pass (e : w'.cl.b = w.cl.b) (k : KeepS H H' w.Z w'.Z) : ∀ {o : O} {v : V} {F : Addr → Prop}, o.no notFz = true → (∀ a u, F a → H a = some u → H' a = some u) → RepO w H o v F → RepO w' H' o v F
  | .lf x d, v, F, n, f, h => by
    cases x with
    | fz =>
      simp only [RepO] at h ⊢
      exact Rep.cl e (Rep.keep k h)
    | bo => simp [O.no, notFz] at n
    | tb => simp [O.no, notFz] at n
  | .lst xs, v, F, n, f, h => by
    simp only [RepO] at h ⊢
    obtain ⟨a, vs, G, e1, r, fa, ga, sg, q⟩ := h
    exact ⟨a, vs, G, e1, f a _ fa r, fa, ga, sg, RepOs.pass e k (by simpa [O.no] using n) (fun b u z => f b u (sg b z)) q⟩
  | .tup xs, v, F, n, f, h => by
    simp only [RepO] at h ⊢
    obtain ⟨a, vs, e1, r, q⟩ := h
    exact ⟨a, vs, e1, k.2.2.1 a _ r, RepOs.pass e k (by simpa [O.no] using n) f q⟩
  | .dct ks xs, v, F, n, f, h => by
    simp only [RepO] at h ⊢
    obtain ⟨a, vs, G, e1, r, z, fa, ga, sg, q⟩ := h
    exact ⟨a, vs, G, e1, f a _ fa r, z, fa, ga, sg, RepOs.pass e k (by simpa [O.no] using n) (fun b u z => f b u (sg b z)) q⟩
  | .dcT ks xs, v, F, n, f, h => by
    simp only [RepO] at h ⊢
    obtain ⟨a, vs, G, e1, r, z, fa, ga, sg, q⟩ := h
    exact ⟨a, vs, G, e1, f a _ fa r, z, fa, ga, sg, RepOs.pass e k (by simpa [O.no] using n) (fun b u z => f b u (sg b z)) q⟩
  | .obj C fs xs, v, F, n, f, h => by
    simp only [RepO] at h ⊢
    obtain ⟨a, Ca, dx, vs, G, e1, c, r, z, fa, ga, sg, q⟩ := h
    exact ⟨a, Ca, dx, vs, G, e1, by rw [e]; exact c, f a _ fa r, z, fa, ga, sg, RepOs.pass e k (by simpa [O.no] using n) (fun b u z => f b u (sg b z)) q⟩
  | .xn C fs ds, v, F, n, f, h => by simp [O.no, notFz] at n
  | .xo C fs ds, v, F, n, f, h => by simp [O.no, notFz] at n
theorem RepOs.pass (e : w'.cl.b = w.cl.b) (k : KeepS H H' w.Z w'.Z) : ∀ {os : List O} {vs : List V} {F : Addr → Prop}, O.nos notFz os = true → (∀ a u, F a → H a = some u → H' a = some u) → RepOs w H os vs F → RepOs w' H' os vs F
  | [], vs, F, _, _, h => h
  | o :: os, vs, F, n, f, h => by
    simp only [RepOs] at h ⊢
    simp only [O.nos, Bool.and_eq_true] at n
    obtain ⟨v, r, F1, F2, e1, s1, s2, d, h1, h2⟩ := h
    exact ⟨v, r, F1, F2, e1, s1, s2, d, RepO.pass e k n.1 (fun a u z => f a u (s1 a z)) h1, RepOs.pass e k n.2 (fun a u z => f a u (s2 a z)) h2⟩
end
end
def ArgsRep (w : Wd) (H : Hp) (σ : L2.St) : List (Option Nat) → List O → List V → (Addr → Prop) → Prop
  | [], os, vs, _ => os = [] ∧ vs = []
  | some i :: sp, os, vs, F => ∃ v r, vs = v :: r ∧ σ[i]? = some (some v) ∧ ArgsRep w H σ sp os r F
  | none :: sp, os, vs, F => ∃ o q v r F1 F2, os = o :: q ∧ vs = v :: r ∧ Sub F1 F ∧ Sub F2 F ∧ Disj F1 F2 ∧ RepO w H o v F1 ∧ ArgsRep w H σ sp q r F2
theorem ArgsRep.same {w : Wd} {H H' : Hp} {σ : L2.St} (s : Same H H') : ∀ {sp : List (Option Nat)} {os : List O} {vs : List V} {F : Addr → Prop}, ArgsRep w H σ sp os vs F → ArgsRep w H' σ sp os vs F
  | [], _, _, _, h => h
  | some i :: sp, os, vs, F, h => let ⟨v, r, e, e1, h⟩ := h; ⟨v, r, e, e1, ArgsRep.same s h⟩
  | none :: sp, os, vs, F, h => let ⟨o, q, v, r, F1, F2, e1, e2, s1, s2, d, h1, h2⟩ := h; ⟨o, q, v, r, F1, F2, e1, e2, s1, s2, d, RepO.same s h1, ArgsRep.same s h2⟩
theorem ArgsRep.mono {w : Wd} {H : Hp} {σ : L2.St} : ∀ {sp : List (Option Nat)} {os : List O} {vs : List V} {F G : Addr → Prop}, Sub F G → ArgsRep w H σ sp os vs F → ArgsRep w H σ sp os vs G
  | [], _, _, _, _, _, h => h
  | some i :: sp, os, vs, F, G, s, h => let ⟨v, r, e, e1, h⟩ := h; ⟨v, r, e, e1, ArgsRep.mono s h⟩
  | none :: sp, os, vs, F, G, s, h => let ⟨o, q, v, r, F1, F2, e1, e2, s1, s2, d, h1, h2⟩ := h; ⟨o, q, v, r, F1, F2, e1, e2, fun a z => s a (s1 a z), fun a z => s a (s2 a z), d, h1, h2⟩
theorem ArgsRep.len {w : Wd} {H : Hp} {σ : L2.St} : ∀ {sp : List (Option Nat)} {os : List O} {vs : List V} {F : Addr → Prop}, ArgsRep w H σ sp os vs F → vs.length = sp.length
  | [], _, _, _, h => by rw [h.2]; rfl
  | some i :: sp, os, vs, F, h => by obtain ⟨v, r, rfl, _, h⟩ := h; simp [ArgsRep.len h]
  | none :: sp, os, vs, F, h => by obtain ⟨o, q, v, r, F1, F2, rfl, rfl, _, _, _, _, h⟩ := h; simp [ArgsRep.len h]
theorem ArgsRep.at {w : Wd} {H : Hp} {σ : L2.St} : ∀ {sp : List (Option Nat)} {os : List O} {vs : List V} {F : Addr → Prop} {q i : Nat}, ArgsRep w H σ sp os vs F → sp[q]? = some (some i) → ∃ v, vs[q]? = some v ∧ σ[i]? = some (some v)
  | [], _, _, _, q, i, h, e => by simp at e
  | some j :: sp, os, vs, F, 0, i, h, e => by
    obtain ⟨v, r, rfl, e1, h⟩ := h
    simp at e; subst e
    exact ⟨v, rfl, e1⟩
  | none :: sp, os, vs, F, 0, i, h, e => by simp at e
  | some j :: sp, os, vs, F, q + 1, i, h, e => by
    obtain ⟨v, r, rfl, e1, h⟩ := h
    obtain ⟨u, e2, e3⟩ := ArgsRep.at h (by simpa using e)
    exact ⟨u, by simpa using e2, e3⟩
  | none :: sp, os, vs, F, q + 1, i, h, e => by
    obtain ⟨o, p, v, r, F1, F2, rfl, rfl, _, _, _, _, h⟩ := h
    obtain ⟨u, e2, e3⟩ := ArgsRep.at h (by simpa using e)
    exact ⟨u, by simpa using e2, e3⟩
def rQ (w : Wd) (W : WX) (sp : List (Option Nat)) (m : DEnv → R (List O)) : TA := fun σ H Q => ∃ env, GoodE w env σ H ∧ (∀ i, some i ∈ sp → ∃ v, σ[i]? = some (some v)) ∧ match m env with
  | .ok os => ∀ vs H' F, Same H H' → ArgsRep w H' σ sp os vs F → Fresh H H' F → Q vs H'
  | .ex x => ∀ cls d H' F, Same H H' → RepX w H' x cls d F → Fresh H H' F → W cls d σ H'
  | .no => False
def VQ (X : Cx) (es : List Expr) (sp : List (Option Nat)) (m : DEnv → R (List O)) : Prop := ∀ (W : WX), Takes X W → ∀ w : Wd, ClOk X w.cl → PA X es (rQ w W sp m)
section
variable {X : Cx} {a : Expr} {es : List Expr} {ma : DEnv → R O} {mA : DEnv → R (List O)} {sp : List (Option Nat)} {x : Str} {pos : Pos}
theorem vq_nil : VQ X [] [] aNil := fun W tk w hc => pa_nil.imp fun σ H Q h => by
  obtain ⟨env, G, _, h⟩ := h
  exact h [] H (fun _ => False) (Same.refl H) ⟨rfl, rfl⟩ fun _ z => z.elim
theorem vq_va (ha : VE X a ma) (h : VQ X es sp mA) (hs : starEach (a :: es) X.env = (false, eval a X.env) :: starEach es X.env := by rfl) : VQ X (a :: es) (none :: sp) (aCons ma mA) := fun W tk w hc => (pa_cons (ha W tk w hc) (h W tk w hc) hs).imp fun σ H Q h => by
  obtain ⟨env, G, hi, h⟩ := h
  refine rE_of G ?_
  unfold aCons at h
  cases e : ma env with
  | no => rw [e] at h; exact h
  | ex x => rw [e] at h; exact h
  | ok o =>
    rw [e] at h
    intro v H1 F1 s1 p1 f1
    refine ⟨env, G.same s1, fun j hj => hi j (by simp [hj]), ?_⟩
    simp only [R.bind] at h
    cases e2 : mA env with
    | no => rw [e2] at h; exact h
    | ex x => rw [e2] at h; exact fun cls d H' F s r fr => h cls d H' F (s1.trans s) r (fr.base s1)
    | ok os =>
      rw [e2] at h
      intro vs H2 F2 s2 p2 f2
      refine h (v :: vs) H2 (fun a => F1 a ∨ F2 a) (s1.trans s2) ⟨o, os, v, vs, F1, F2, rfl, rfl, fun _ z => .inl z, fun _ z => .inr z, fun a z z2 => (f1 a z).2.ne (f2 a z2).1, RepO.same s2 p1, p2⟩ fun a z => ?_
      rcases z with z | z
      · exact (f1.up s2) a z
      · exact (f2.base s1) a z
end
def hideS (sp : List (Option Nat)) (env : VEnv) : VEnv := env.mapIdx fun i o => if some i ∈ sp then none else o
def argsW : List (Option Nat) → List O → VEnv → Option (List O)
  | [], [], _ => some []
  | some i :: sp, os, env => (match env[i]? with
    | some (some o) => if o.no notFz then (argsW sp os env).map (o :: ·) else none
    | _ => none)
  | none :: sp, o :: os, env => (argsW sp os env).map (toArg o :: ·)
  | _, _, _ => none
def backW : Nat → List (Option Nat) → VEnv → VEnv → Option VEnv
  | _, [], _, env => some env
  | q, none :: sp, env', env => backW (q + 1) sp env' env
  | q, some i :: sp, env', env => (match env'[q]? with
    | some (some o) => if o.no notFz then backW (q + 1) sp env' (env.set i (some o)) else none
    | _ => none)
def lentOk (sp : List (Option Nat)) (env : VEnv) : Bool := sp.all fun s => match s with
  | some i => (match env[i]? with
    | some (some _) => true
    | _ => false)
  | none => true
def callW (n : Nat) (m : VEnv → RS) (sp : List (Option Nat)) (mA : DEnv → R (List O)) : VEnv → RX O := fun env => match mA (dl (hideS sp env)) with
  | .no => .no
  | .ex x => if O.nos isTb x.xs && lentOk sp env then .ex x env else .no
  | .ok os => match argsW sp os env with
    | none => .no
    | some args => match m (startE n args) with
      | .ok .next env' => (match backW 0 sp env' env with
        | some e => .ok (.lf .fz .non) e
        | none => .no)
      | .ok (.ret o) env' => (match backW 0 sp env' env with
        | some e => if o.no notFz then .ok o e else .no
        | none => .no)
      | .ok _ _ => .no
      | .ex x env' => (match backW 0 sp env' env with
        | some e => if O.nos notFz x.xs then .ex x e else .no
        | none => .no)
      | .no => .no
def pinsW : Nat → List (Option Nat) → List Nat
  | _, [] => []
  | q, none :: sp => pinsW (q + 1) sp
  | q, some _ :: sp => q :: pinsW (q + 1) sp
def pinVs : Nat → List (Option Nat) → List V → List (Nat × V)
  | _, [], _ => []
  | _, _, [] => []
  | q, none :: sp, _ :: vs => pinVs (q + 1) sp vs
  | q, some _ :: sp, v :: vs => (q, v) :: pinVs (q + 1) sp vs
theorem pinVs_fst : ∀ {q : Nat} {sp : List (Option Nat)} {vs : List V}, vs.length = sp.length → (pinVs q sp vs).map (·.1) = pinsW q sp
  | q, [], vs, h => by cases vs <;> rfl
  | q, _ :: _, [], h => by simp at h
  | q, none :: sp, v :: vs, h => by
    show (pinVs (q + 1) sp vs).map (·.1) = _
    exact pinVs_fst (by simpa using h)
  | q, some i :: sp, v :: vs, h => by
    show q :: (pinVs (q + 1) sp vs).map (·.1) = q :: _
    rw [pinVs_fst (by simpa using h)]
theorem pinVs_at : ∀ {q : Nat} {sp : List (Option Nat)} {vs : List V} {p : Nat × V}, p ∈ pinVs q sp vs → ∃ r, p.1 = q + r ∧ vs[r]? = some p.2 ∧ ∃ i, sp[r]? = some (some i)
  | q, [], vs, p, h => by cases vs <;> simp [pinVs] at h
  | q, _ :: _, [], p, h => by simp [pinVs] at h
  | q, none :: sp, v :: vs, p, h => by
    obtain ⟨r, e1, e2, i, e3⟩ := pinVs_at (q := q + 1) (sp := sp) (vs := vs) h
    exact ⟨r + 1, by omega, by simpa using e2, i, by simpa using e3⟩
  | q, some j :: sp, v :: vs, p, h => by
    rcases List.mem_cons.mp (show p ∈ (q, v) :: pinVs (q + 1) sp vs from h) with rfl | h
    · exact ⟨0, by simp, by simp, j, by simp⟩
    · obtain ⟨r, e1, e2, i, e3⟩ := pinVs_at (q := q + 1) (sp := sp) (vs := vs) h
      exact ⟨r + 1, by omega, by simpa using e2, i, by simpa using e3⟩
theorem pinVs_mem : ∀ {q : Nat} {sp : List (Option Nat)} {vs : List V} {r i : Nat} {v : V}, sp[r]? = some (some i) → vs[r]? = some v → (q + r, v) ∈ pinVs q sp vs
  | q, [], vs, r, i, v, h, _ => by simp at h
  | q, _ :: _, [], r, i, v, _, h => by simp at h
  | q, none :: sp, u :: vs, 0, i, v, h, _ => by simp at h
  | q, some j :: sp, u :: vs, 0, i, v, h, h2 => by
    simp at h2; subst h2
    exact List.mem_cons_self
  | q, none :: sp, u :: vs, r + 1, i, v, h, h2 => by
    have := pinVs_mem (q := q + 1) (sp := sp) (vs := vs) (r := r) (by simpa using h) (by simpa using h2)
    rw [show q + (r + 1) = q + 1 + r by omega]; exact this
  | q, some j :: sp, u :: vs, r + 1, i, v, h, h2 => by
    have := pinVs_mem (q := q + 1) (sp := sp) (vs := vs) (r := r) (by simpa using h) (by simpa using h2)
    rw [show q + (r + 1) = q + 1 + r by omega]; exact List.mem_cons_of_mem _ this
theorem argsW_len : ∀ {sp : List (Option Nat)} {os : List O} {env : VEnv} {args : List O}, argsW sp os env = some args → args.length = sp.length
  | [], [], _, _, h => by cases h; rfl
  | [], _ :: _, _, _, h => by cases h
  | none :: sp, [], _, _, h => by cases h
  | none :: sp, o :: os, env, args, h => by
    obtain ⟨r, e, rfl⟩ := Option.map_eq_some_iff.mp (show (argsW sp os env).map (toArg o :: ·) = some args from h)
    simp [argsW_len e]
  | some i :: sp, os, env, args, h => by
    unfold argsW at h
    split at h
    · split at h
      · obtain ⟨r, e, rfl⟩ := Option.map_eq_some_iff.mp h
        simp [argsW_len e]
      · cases h
    · cases h
theorem argsW_at {w : Wd} {H : Hp} {σ : L2.St} : ∀ {sp : List (Option Nat)} {os : List O} {env : VEnv} {args : List O} {vs : List V} {F : Addr → Prop} {q : Nat} {o : O}, argsW sp os env = some args → ArgsRep w H σ sp os vs F → args[q]? = some o →
    (∃ i v, sp[q]? = some (some i) ∧ env[i]? = some (some o) ∧ o.no notFz = true ∧ vs[q]? = some v ∧ σ[i]? = some (some v)) ∨ (∃ p v F', sp[q]? = some none ∧ o = toArg p ∧ vs[q]? = some v ∧ RepO w H p v F' ∧ Sub F' F)
  | [], [], env, args, vs, F, q, o, h, r, e => by cases h; simp at e
  | [], _ :: _, env, args, vs, F, q, o, h, r, e => by cases h
  | none :: sp, [], env, args, vs, F, q, o, h, r, e => by cases h
  | none :: sp, p :: os, env, args, vs, F, q, o, h, r, e => by
    obtain ⟨t, et, rfl⟩ := Option.map_eq_some_iff.mp (show (argsW sp os env).map (toArg p :: ·) = some args from h)
    obtain ⟨o', q', v, vr, F1, F2, e1, rfl, s1, s2, d, h1, h2⟩ := r
    cases e1
    cases q with
    | zero =>
      simp at e; subst e
      exact .inr ⟨p, v, F1, rfl, rfl, rfl, h1, s1⟩
    | succ q =>
      rcases argsW_at et h2 (show t[q]? = some o by simpa using e) with ⟨i, u, a1, a2, a3, a4, a5⟩ | ⟨p', u, F', a1, a2, a3, a4, a5⟩
      · exact .inl ⟨i, u, by simpa using a1, a2, a3, by simpa using a4, a5⟩
      · exact .inr ⟨p', u, F', by simpa using a1, a2, by simpa using a3, a4, fun a z => s2 a (a5 a z)⟩
  | some i :: sp, os, env, args, vs, F, q, o, h, r, e => by
    unfold argsW at h
    split at h
    · rename_i o1 eo
      split at h
      · rename_i no
        obtain ⟨t, et, rfl⟩ := Option.map_eq_some_iff.mp h
        obtain ⟨v, vr, rfl, ev, h2⟩ := r
        cases q with
        | zero =>
          simp at e; subst e
          exact .inl ⟨i, v, rfl, eo, no, rfl, ev⟩
        | succ q =>
          rcases argsW_at et h2 (show t[q]? = some o by simpa using e) with ⟨j, u, a1, a2, a3, a4, a5⟩ | ⟨p', u, F', a1, a2, a3, a4, a5⟩
          · exact .inl ⟨j, u, by simpa using a1, a2, a3, by simpa using a4, a5⟩
          · exact .inr ⟨p', u, F', by simpa using a1, a2, by simpa using a3, a4, a5⟩
      · cases h
    · cases h
theorem backW_get : ∀ {sp : List (Option Nat)} {q0 : Nat} {env' env e : VEnv}, (sp.filterMap id).Nodup → backW q0 sp env' env = some e → e.length = env.length ∧ (∀ q i, sp[q]? = some (some i) → ∃ o, env'[q0 + q]? = some (some o) ∧ o.no notFz = true ∧ (i < env.length → e[i]? = some (some o))) ∧ ∀ i, ¬ some i ∈ sp → e[i]? = env[i]?
  | [], q0, env', env, e, _, h => by
    cases h
    exact ⟨rfl, fun q i h => by simp at h, fun i _ => rfl⟩
  | none :: sp, q0, env', env, e, nd, h => by
    obtain ⟨h0, h1, h2⟩ := backW_get (sp := sp) (q0 := q0 + 1) (by simpa using nd) (show backW (q0 + 1) sp env' env = some e from h)
    refine ⟨h0, fun q i hq => ?_, fun i hi => h2 i fun hm => hi (List.mem_cons_of_mem _ hm)⟩
    cases q with
    | zero => simp at hq
    | succ q =>
      obtain ⟨o, a1, a2, a3⟩ := h1 q i (by simpa using hq)
      exact ⟨o, by rw [show q0 + (q + 1) = q0 + 1 + q by omega]; exact a1, a2, a3⟩
  | some j :: sp, q0, env', env, e, nd, h => by
    unfold backW at h
    split at h
    · rename_i o eo
      split at h
      · rename_i no
        rw [List.filterMap_cons_some (f := id) (a := some j) (b := j) rfl, List.nodup_cons] at nd
        obtain ⟨h0, h1, h2⟩ := backW_get (sp := sp) (q0 := q0 + 1) nd.2 h
        have nj : ¬ some j ∈ sp := fun hm => nd.1 (List.mem_filterMap.mpr ⟨some j, hm, rfl⟩)
        refine ⟨by rw [h0, List.length_set], fun q i hq => ?_, fun i hi => ?_⟩
        · cases q with
          | zero =>
            simp at hq; subst hq
            refine ⟨o, by simpa using eo, no, fun hl => ?_⟩
            rw [h2 j nj, List.getElem?_set_self hl]
          | succ q =>
            obtain ⟨o', a1, a2, a3⟩ := h1 q i (by simpa using hq)
            exact ⟨o', by rw [show q0 + (q + 1) = q0 + 1 + q by omega]; exact a1, a2, fun hl => a3 (by rw [List.length_set]; exact hl)⟩
        · rw [h2 i fun hm => hi (List.mem_cons_of_mem _ hm), List.getElem?_set_ne (fun (e : j = i) => hi (by rw [e]; exact List.mem_cons_self))]
      · cases h
    · cases h
theorem hide_get {sp : List (Option Nat)} {env : VEnv} {i : Nat} {o : O} (h : (hideS sp env)[i]? = some (some o)) : ¬ some i ∈ sp ∧ env[i]? = some (some o) := by
  unfold hideS at h
  rw [List.getElem?_mapIdx] at h
  cases e : env[i]? with
  | none => rw [e] at h; cases h
  | some q =>
    rw [e] at h
    simp only [Option.map_some, Option.some.injEq] at h
    split at h
    · cases h
    · rename_i n; exact ⟨n, by rw [h]⟩
section
variable {f : Fm} {Z : Addr → Prop} {Fs : Nat → Addr → Prop} {env : VEnv} {σ : L2.St} {H H1 : Hp} {sp : List (Option Nat)} {F1 : Addr → Prop}
def restF (sp : List (Option Nat)) (Fs : Nat → Addr → Prop) : Nat → Addr → Prop := fun j a => ¬ some j ∈ sp ∧ Fs j a
theorem GoodAt.hide (g : GoodAt f Z Fs env σ H) : GoodAt f Z (restF sp Fs) (hideS sp env) σ H :=
  ⟨fun i o e => let ⟨n, e⟩ := hide_get e; let ⟨v, ev, r⟩ := g.rep i o e; ⟨v, ev, RepO.mono (fun _ z => ⟨n, z⟩) r⟩, fun i j a n z z2 => g.dis i j a n z.2 z2.2, fun i a z => g.own i a z.2, g.zal, g.bal, g.keep, g.there, fun i a z => g.fnew i a z.2, g.znew, g.zold, g.pin, by rw [g.len]; unfold hideS; rw [List.length_mapIdx]⟩
def wrF (f : Fm) (Z : Addr → Prop) (Fs : Nat → Addr → Prop) (sp : List (Option Nat)) (H1 : Hp) (F1 : Addr → Prop) (vs : List V) : Fm :=
  ⟨⟨f.cl.b, fun _ _ _ => False⟩, H1, fun a => ∃ i, some i ∈ sp ∧ Fs i a, fun a => Z a ∨ F1 a, fun a => (tw f Z (restF sp Fs)).T a ∨ F1 a, pinVs 0 sp vs⟩
theorem good_startW {N : List Str} {os args : List O} {vs : List V} (g : GoodAt f Z Fs env σ H) (s : Same H H1) (r : ArgsRep (tw f Z (restF sp Fs)) H1 σ sp os vs F1) (fr : Fresh H H1 F1) (ea : argsW sp os env = some args) (nd : (sp.filterMap id).Nodup) : Good (wrF f Z Fs sp H1 F1 vs) (startE N.length args) (L2.start N vs) H1 := by
  have g1 := g.same s
  have spN : ∀ {q q' i : Nat}, sp[q]? = some (some i) → sp[q']? = some (some i) → q = q' := fun {q q' i} h h' => by
    have go : ∀ {sp : List (Option Nat)} {q q' : Nat}, (sp.filterMap id).Nodup → sp[q]? = some (some i) → sp[q']? = some (some i) → q = q' := by
      intro sp
      induction sp with
      | nil => intro q q' _ h; simp at h
      | cons x r ih =>
        intro q q' nd h h'
        cases x with
        | none =>
          cases q with
          | zero => simp at h
          | succ q =>
            cases q' with
            | zero => simp at h'
            | succ q' => exact congrArg (· + 1) (ih (by simpa using nd) (by simpa using h) (by simpa using h'))
        | some j =>
          rw [List.filterMap_cons_some (f := id) (a := some j) (b := j) rfl, List.nodup_cons] at nd
          have nm : ∀ {p : Nat}, r[p]? = some (some i) → i ∈ r.filterMap id := fun {p} hp => List.mem_filterMap.mpr ⟨some i, List.mem_of_getElem? hp, rfl⟩
          cases q with
          | zero =>
            simp at h; subst h
            cases q' with
            | zero => rfl
            | succ q' => exact absurd (nm (by simpa using h')) nd.1
          | succ q =>
            cases q' with
            | zero => simp at h'; subst h'; exact absurd (nm (by simpa using h)) nd.1
            | succ q' => exact congrArg (· + 1) (ih nd.2 (by simpa using h) (by simpa using h'))
    exact go nd h h'
  have Fn : ∀ {i : Nat} {a : Addr}, Fs i a → ¬ F1 a := fun {i a} z z2 => (g.own i a z).2.2.ne (fr a z2).1
  have rT : ∀ {i : Nat} {a : Addr}, some i ∈ sp → Fs i a → ¬ (tw f Z (restF sp Fs)).T a := fun {i a} hi z z2 => by
    rcases z2 with z2 | z2 | ⟨j, nj, z2⟩
    · exact (g.own i a z).1 z2
    · exact (g.own i a z).2.1 z2
    · exact g.dis i j a (fun e => nj (e ▸ hi)) z z2
  have al : ∀ a, (tw f Z (restF sp Fs)).T a → H1 a ≠ none := fun a z => by
    rcases z with z | z | ⟨j, _, z⟩
    · exact g1.zal a z
    · exact g1.bal a z
    · exact (g1.own j a z).2.2.ne
  refine ⟨fun a => Z a ∨ F1 a, fun q a => ∃ i, sp[q]? = some (some i) ∧ Fs i a, ⟨fun q o e => ?_, fun q q' a n z z2 => ?_, fun q a z => ?_, fun a z => ?_, fun a z => ?_, fun b u e _ => Same.refl _ b u e, ⟨fun _ n => n, g1.there.2⟩, fun q a z => ?_, fun _ z => .inl z, fun _ z => z, fun p hp => ?_, ?_⟩⟩
  · have e1 := startE_get e
    rcases argsW_at ea r e1 with ⟨i, v, a1, a2, a3, a4, a5⟩ | ⟨p, v, F', a1, rfl, a3, a4, a5⟩
    · obtain ⟨v', ev, rr⟩ := g1.rep i o a2
      rw [a5] at ev; cases ev
      exact ⟨v, start_get a4, RepO.mono (fun a z => ⟨i, a1, z⟩) (RepO.pass (w := f.w Z) (w' := (wrF f Z Fs sp H1 F1 vs).w _) rfl (KeepS.same (Same.refl _) fun _ z => .inl z) a3 (fun _ _ _ e => e) rr)⟩
    · refine ⟨v, start_get a3, RepO.mono (F := fun _ => False) (fun _ z => z.elim) ?_⟩
      exact toArg_rep (w := tw f Z (restF sp Fs)) (F1 := F1) (fun _ z => .inl z) (fun _ z => .inr (.inl z)) a5 a4
  · obtain ⟨i, e1, z⟩ := z
    obtain ⟨j, e2, z2⟩ := z2
    refine g.dis i j a (fun e => ?_) z z2
    subst e
    exact n (spN e1 e2)
  · obtain ⟨i, e1, z⟩ := z
    exact ⟨fun z2 => z2.elim (g.own i a z).1 (Fn z), fun z2 => z2.elim (rT (List.mem_of_getElem? e1) z) (Fn z), (g1.own i a z).2.2⟩
  · exact z.elim (g1.zal a) fun q => (fr a q).2.ne
  · exact z.elim (al a) fun q => (fr a q).2.ne
  · obtain ⟨i, e1, z⟩ := z
    exact .inl ⟨i, List.mem_of_getElem? e1, z⟩
  · obtain ⟨q, e1, e2, _⟩ := pinVs_at hp
    rw [e1, Nat.zero_add]
    exact start_get e2
  · unfold L2.start startE
    simp [argsW_len ea, r.len]
theorem good_backW {N : List Str} {os : List O} {vs : List V} {env' e : VEnv} {σ' : L2.St} {H' : Hp} {Z2 : Addr → Prop} {Fs2 : Nat → Addr → Prop} (g : GoodAt f Z Fs env σ H) (s : Same H H1) (r : ArgsRep (tw f Z (restF sp Fs)) H1 σ sp os vs F1) (fr : Fresh H H1 F1) (nd : (sp.filterMap id).Nodup)
    (k : GoodAt (wrF f Z Fs sp H1 F1 vs) Z2 Fs2 env' σ' H') (hb : backW 0 sp env' env = some e) : GoodAt f Z2 (fun j a => (∃ q, sp[q]? = some (some j) ∧ Fs2 q a) ∨ restF sp Fs j a) e σ H' ∧ (∀ {o : O} {v : V} {F : Addr → Prop}, o.no notFz = true → RepO ((wrF f Z Fs sp H1 F1 vs).w Z2) H' o v F → RepO (f.w Z2) H' o v F) ∧ (∀ {F : Addr → Prop}, Extra (wrF f Z Fs sp H1 F1 vs) Z2 Fs2 H' F → Extra f Z2 (fun j a => (∃ q, sp[q]? = some (some j) ∧ Fs2 q a) ∨ restF sp Fs j a) H' F) := by
  have g1 := g.same s
  obtain ⟨b0, b1, b2⟩ := backW_get nd hb
  have F0n : ∀ {S : Addr → Prop}, (∀ i a, Fs i a → ¬ S a) → ∀ a, S a → ¬ (wrF f Z Fs sp H1 F1 vs).F0 a := fun h a z ⟨i, _, q⟩ => h i a q z
  have kp : ∀ a u, H1 a = some u → ¬ (wrF f Z Fs sp H1 F1 vs).F0 a → Kp H1 H' a u := k.keep
  have tup : ∀ a xs, H1 a = some (.tup xs) → H' a = some (.tup xs) := fun a xs e => kp a _ e fun ⟨i, _, q⟩ => by
    obtain ⟨u, e', n⟩ := (g1.own i a q).2.2
    rw [e] at e'; cases e'; exact n
  have KS : ∀ {S S' : Addr → Prop}, Sub S S' → (∀ i a, Fs i a → ¬ S a) → KeepS H1 H' S S' := fun sub hS =>
    ⟨fun a u z rd n => ⟨sub a z, rd.elim (fun e => .inl ((kp a _ e (F0n hS a z)).nt n)) fun ⟨o, e⟩ => .inr ⟨o, kp a _ e (F0n hS a z)⟩⟩, fun a C dx fs z e => kp a _ e (F0n hS a z), tup, fun a xs z e => kp a _ e (F0n hS a z), fun a xs z e => kp a _ e (F0n hS a z)⟩
  have zz : Sub Z Z2 := fun a z => k.zold a (.inl z)
  have h0 : ∀ {a : Addr}, H1 a = none → f.H0 a = none := fun {a} e => by
    cases q : f.H0 a with
    | none => rfl
    | some u => exact absurd e (g1.there.1 a (by rw [q]; exact fun z => nomatch z))
  have f0 : ∀ {a : Addr}, (wrF f Z Fs sp H1 F1 vs).F0 a → f.F0 a ∨ f.H0 a = none := fun {a} ⟨i, _, q⟩ => g.fnew i a q
  -- a slot that was not lent and what is new
  have apart : ∀ {j : Nat} {a : Addr}, restF sp Fs j a → ¬ ((wrF f Z Fs sp H1 F1 vs).F0 a ∨ H1 a = none) := fun {j a} z q => by
    rcases q with ⟨i, hi, q⟩ | q
    · exact g.dis j i a (fun e => z.1 (e ▸ hi)) z.2 q
    · exact (g1.own j a z.2).2.2.ne q
  have z2n : ∀ {j : Nat} {a : Addr}, restF sp Fs j a → ¬ Z2 a := fun {j a} z q => by
    rcases k.znew a q with (q | q) | q
    · exact (g.own j a z.2).1 q
    · exact (g.own j a z.2).2.2.ne (fr a q).1
    · exact apart z q
  have ntk : ∀ {j : Nat} {a : Addr}, restF sp Fs j a → NT (H' a) := fun {j a} z => by
    obtain ⟨u, e, n⟩ := (g1.own j a z.2).2.2
    exact ⟨u, (kp a u e fun q => apart z (.inl q)).nt n.nTb, n⟩
  refine ⟨⟨fun j o ej => ?_, fun i j a n z z2 => ?_, fun j a z => ?_, k.zal, fun a z => k.bal a (.inl (.inr (.inl z))), fun a u e1 n => ?_, ⟨fun a n => ?_, k.there.2⟩, fun j a z => ?_, fun a z => ?_, fun a z => zz a (g.zold a z), g.pin, by rw [g.len, b0]⟩, fun n rr => ?_, fun x a z => ?_⟩
  · by_cases hj : some j ∈ sp
    · obtain ⟨q, hq⟩ := List.mem_iff_getElem?.mp hj
      obtain ⟨o', a1, a2, a3⟩ := b1 q j hq
      have hl : j < env.length := by
        rw [← b0]; exact (List.getElem?_eq_some_iff.mp ej).1
      rw [a3 hl] at ej
      cases ej
      rw [Nat.zero_add] at a1
      obtain ⟨v, ev, rr⟩ := k.rep q o a1
      obtain ⟨u, eu, es⟩ := r.at hq
      have pv := k.pin (q, u) (by
        have := pinVs_mem (q := 0) hq eu
        rwa [Nat.zero_add] at this)
      simp only at pv
      rw [ev] at pv; cases pv
      exact ⟨v, es, RepO.mono (fun a z => .inl ⟨q, hq, z⟩) (RepO.pass (w := (wrF f Z Fs sp H1 F1 vs).w Z2) (w' := f.w Z2) rfl (KeepS.same (Same.refl _) fun _ z => z) a2 (fun _ _ _ e => e) rr)⟩
    · rw [b2 j hj] at ej
      obtain ⟨v, ev, rr⟩ := g1.rep j o ej
      refine ⟨v, ev, RepO.mono (fun a z => .inr ⟨hj, z⟩) (RepO.keep (w := f.w Z) (w' := f.w Z2) (p := fun _ => false) rfl (fun x _ => ?_) tup (O.no_none o) (fun a u z e n => (kp a u e fun q => apart ⟨hj, z⟩ (.inl q)).nt n) rr)⟩
      cases x with
      | fz => exact KS zz fun i a z => (g.own i a z).1
      | bo => exact KS (fun _ z => z) fun i a z => (g.own i a z).2.1
      | tb => exact KS (S := fun _ => False) (fun _ z => z) fun _ _ _ z => z
  · rcases z with ⟨q, e1, z⟩ | z <;> rcases z2 with ⟨q', e2, z2⟩ | z2
    · exact k.dis q q' a (fun e => n (by rw [e, e2] at e1; cases e1; rfl)) z z2
    · exact apart z2 (k.fnew q a z)
    · exact apart z (k.fnew q' a z2)
    · exact g.dis i j a n z.2 z2.2
  · rcases z with ⟨q, e1, z⟩ | z
    · exact ⟨(k.own q a z).1, fun q' => (k.own q a z).2.1 (.inl (.inr (.inl q'))), (k.own q a z).2.2⟩
    · exact ⟨z2n z, (g.own j a z.2).2.1, ntk z⟩
  · refine (g1.keep a u e1 n).thn fun o eo => kp a o eo fun q => ?_
    rcases f0 q with q | q
    · exact n q
    · rw [e1] at q; cases q
  · exact k.there.1 a (g1.there.1 a n)
  · rcases z with ⟨q, e1, z⟩ | z
    · rcases k.fnew q a z with q' | q'
      · exact f0 q'
      · exact .inr (h0 q')
    · exact g.fnew j a z.2
  · rcases k.znew a z with (q | q) | q | q
    · exact g.znew a q
    · exact .inr (.inr (by
        cases e : f.H0 a with
        | none => rfl
        | some u => exact absurd (fr a q).1 (g.there.1 a (by rw [e]; exact fun z => nomatch z))))
    · exact .inr (f0 q)
    · exact .inr (.inr (h0 q))
  · exact RepO.pass (w := (wrF f Z Fs sp H1 F1 vs).w Z2) (w' := f.w Z2) rfl (KeepS.same (Same.refl _) fun _ z => z) n (fun _ _ _ e => e) rr
  · obtain ⟨x1, x2, x3, x4, x5⟩ := x a z
    refine ⟨x1, fun q => x2 (.inl (.inr (.inl q))), x3, ?_, fun j q => ?_⟩
    · rcases x4 with q | q
      · exact f0 q
      · exact .inr (h0 q)
    · rcases q with ⟨p, _, q⟩ | q
      · exact x5 p q
      · exact apart q x4
end
section
variable {X : Cx} {P : List Nat} {a : Expr} {es : List Expr} {mA : DEnv → R (List O)} {sp : List (Option Nat)} {x : Str} {pos p : Pos}
theorem callW_out {W : WX} {N : List Str} {n : Nat} {m : VEnv → RS} {f : Fm} {Z : Addr → Prop} {Fs : Nat → Addr → Prop} {env : VEnv} {σ : L2.St} {H H1 : Hp} {os : List O} {vs : List V} {F1 : Addr → Prop} {Q : VK} (hcl : ClOk X f.cl) (hn : sp.length = n) (nd : (sp.filterMap id).Nodup)
    (g : GoodAt f Z Fs env σ H) (em : mA (dl (hideS sp env)) = .ok os) (s : Same H H1) (r : ArgsRep (tw f Z (restF sp Fs)) H1 σ sp os vs F1) (fr : Fresh H H1 F1) (h : EOut f W σ (callW N.length m sp mA env) Q) : SpV X.K X.mg N n (pinsW 0 sp) m vs H1 Q (fun cls d H => W cls d σ H) := by
  unfold callW at h
  rw [em] at h
  simp only at h
  cases ea : argsW sp os env with
  | none => rw [ea] at h; exact h.elim
  | some args =>
    rw [ea] at h
    simp only at h
    refine ⟨by rw [r.len]; exact hn, wrF f Z Fs sp H1 F1 vs, startE N.length args, ⟨hcl.1, fun _ _ _ q => q⟩, pinVs_fst r.len, good_startW g s r fr ea nd, ?_⟩
    unfold FOut
    cases e : m (startE N.length args) with
    | no => rw [e] at h; exact h
    | ok c env' =>
      rw [e] at h
      cases c with
      | brk => exact h
      | cont => exact h
      | next =>
        simp only at h
        cases eb : backW 0 sp env' env with
        | none => rw [eb] at h; exact h.elim
        | some e' =>
          rw [eb] at h
          intro σ' H' gg
          obtain ⟨Z2, Fs2, gg⟩ := gg
          obtain ⟨g2, _, _⟩ := good_backW (N := N) g s r fr nd gg eb
          exact h _ H' ⟨Z2, _, fun _ => False, g2, by simp [RepO, Rep], fun _ z => z.elim⟩
      | ret o =>
        simp only at h
        cases eb : backW 0 sp env' env with
        | none => rw [eb] at h; exact h.elim
        | some e' =>
          rw [eb] at h
          simp only at h
          split at h
          · rename_i no
            intro v σ' H' gg
            obtain ⟨Z2, Fs2, F2, gg, rr, xx⟩ := gg
            obtain ⟨g2, k1, k2⟩ := good_backW (N := N) g s r fr nd gg eb
            exact h v H' ⟨Z2, _, F2, g2, k1 no rr, k2 xx⟩
          · exact h.elim
    | ex y env' =>
      rw [e] at h
      simp only at h
      cases eb : backW 0 sp env' env with
      | none => rw [eb] at h; exact h.elim
      | some e' =>
        rw [eb] at h
        simp only at h
        split at h
        · rename_i no
          intro cls d σ' H' gg
          obtain ⟨Z2, Fs2, F2, gg, rr, xx⟩ := gg
          obtain ⟨g2, k1, k2⟩ := good_backW (N := N) g s r fr nd gg eb
          refine h cls d H' ⟨Z2, _, F2, g2, ?_, k2 xx⟩
          obtain ⟨Ca, c, ec, q⟩ := rr
          refine ⟨Ca, c, ec, ?_⟩
          rcases q with q | ⟨a', kvs, G', e1, e2, e3, fa, ga, sg, rr⟩
          · exact .inl q
          · exact .inr ⟨a', kvs, G', e1, e2, e3, fa, ga, sg, RepOs.pass (w := (wrF f Z Fs sp H1 F1 vs).w Z2) (w' := f.w Z2) rfl (KeepS.same (Same.refl _) fun _ z => z) no (fun _ _ _ e => e) rr⟩
        · exact h.elim
end
end VL
namespace VL
open PySem PySem.Spec PyProof.Rows L2
theorem lentOk_at {sp : List (Option Nat)} {env : VEnv} {i : Nat} (h : lentOk sp env = true) (hi : some i ∈ sp) : ∃ o, env[i]? = some (some o) := by
  have := List.all_eq_true.mp h _ hi
  simp only at this
  split at this
  · exact ⟨_, ‹_›⟩
  · cases this
theorem argsW_lent : ∀ {sp : List (Option Nat)} {os : List O} {env : VEnv} {args : List O}, argsW sp os env = some args → lentOk sp env = true
  | [], os, env, args, h => rfl
  | some i :: sp, os, env, args, h => by
    unfold argsW at h
    split at h
    · rename_i o e
      split at h
      · cases q : argsW sp os env with
        | none => rw [q] at h; cases h
        | some r =>
          have := argsW_lent q
          unfold lentOk at this ⊢
          rw [List.all_cons, this]
          simp only [e]; rfl
      · cases h
    · cases h
  | none :: sp, [], env, args, h => by unfold argsW at h; cases h
  | none :: sp, o :: os, env, args, h => by
    unfold argsW at h
    cases q : argsW sp os env with
    | none => rw [q] at h; cases h
    | some r =>
      have := argsW_lent q
      unfold lentOk at this ⊢
      rw [List.all_cons, this]; rfl
section
variable {X : Cx} {P : List Nat} {a : Expr} {es : List Expr} {mA : DEnv → R (List O)} {sp : List (Option Nat)} {x : Str} {pos p : Pos} {n : Nat} {m : VEnv → RS} {f : Fm} {W : WX}
theorem callW_lent {env : VEnv} {σ : L2.St} {Q : VK} (h : EOut f W σ (callW n m sp mA env) Q) : lentOk sp env = true := by
  unfold callW at h
  split at h
  · exact h.elim
  · split at h
    · rename_i q; exact (Bool.and_eq_true_iff.mp q).2
    · exact h.elim
  · split at h
    · exact h.elim
    · exact argsW_lent ‹_›
theorem VQ.ef (h : VQ X es sp mA) (tk : Takes X W) (hf : FOk X P f) : PA X es (fun σ H Q => ∃ Z Fs, rQ (tw f Z (restF sp Fs)) W sp mA σ H Q) := ⟨fun pos pins s σ H Q I ⟨Z, Fs, q⟩ => (h W tk (tw f Z (restF sp Fs)) hf.1).run pos pins s σ H Q I q⟩
theorem callW_run {N : List Str} {σ : L2.St} {H : Hp} {Q : VK} (hf : FOk X P f) (hn : sp.length = n) (nd : (sp.filterMap id).Nodup) (h : rX f W (callW N.length m sp mA) σ H Q) :
    ∃ Z Fs, rQ (tw f Z (restF sp Fs)) W sp mA σ H fun vs H1 => SpV X.K X.mg N n (pinsW 0 sp) m vs H1 Q (fun cls d H => W cls d σ H) := by
  obtain ⟨env, ⟨Z, Fs, g⟩, h⟩ := h
  replace h : EOut f W σ (callW N.length m sp mA env) Q := h
  refine ⟨Z, Fs, dl (hideS sp env), g.hide.goodE, fun i hi => ?_, ?_⟩
  · obtain ⟨o, e⟩ := lentOk_at (callW_lent h) hi
    obtain ⟨v, ev, _⟩ := g.rep i o e
    exact ⟨v, ev⟩
  · cases em : mA (dl (hideS sp env)) with
    | no => unfold callW at h; rw [em] at h; exact h
    | ex y =>
      unfold callW at h; rw [em] at h
      simp only at h
      split at h
      · rename_i q
        have q1 := (Bool.and_eq_true_iff.mp q).1
        exact fun cls d H' F s r fr => h cls d H' ⟨Z, Fs, F, g.same s, RepX.unlend q1 r, g.fresh fr⟩
      · exact h.elim
    | ok os => exact fun vs H1 F1 s r fr => callW_out hf.1 hn nd g em s r fr h
def OkFW (P : Program) (w : World) (K : PySem.W.Frag) (mg : Str → Option Value) (base : Heap) (x : Str) (N ps : List Str) (pi : List Nat) (m : VEnv → RS) (k : Nat) : Prop := ∃ f fd, mg x = some (.ref f) ∧ PySem.W.keepIn K (.ref f) = true ∧ Binds K fd ps [] ∧ FnOk P w K mg base (CXv mg P w) k f fd ps (SpV K mg N ps.length pi m)
def OkMW (P : Program) (w : World) (K : PySem.W.Frag) (mg : Str → Option Value) (base : Heap) (C mn : String) (N ps : List Str) (pi : List Nat) (m : VEnv → RS) (k : Nat) : Prop :=
  ∃ Ca f fd, mg (Str.ofString C) = some (.ref Ca) ∧ Cls K Ca ∧ Meth K Ca (Str.ofString mn) f ∧ Binds K fd ps [] ∧ FnOk P w K mg base (CXv mg P w) k f fd ps (SpV K mg N ps.length pi m)
theorem VQ.ew (h : VQ X es sp mA) (tk : Takes X W) : PA X es (fun σ H Q => ∃ w : Wd, ClOk X w.cl ∧ rQ w W sp mA σ H Q) := ⟨fun pos pins s σ H Q I ⟨w, hc, q⟩ => (h W tk w hc).run pos pins s σ H Q I q⟩
theorem rQ_cons {w : Wd} {i : Nat} {σ : L2.St} {H : Hp} {Q : List V → Hp → Prop} {v : V} (ev : σ[i]? = some (some v)) (h : rQ w W (some i :: sp) mA σ H Q) : rQ w W sp mA σ H fun vs H' => Q (v :: vs) H' := by
  obtain ⟨env, G, hi, h⟩ := h
  refine ⟨env, G, fun j hj => hi j (by simp [hj]), ?_⟩
  cases e : mA env with
  | no => rw [e] at h; exact h
  | ex x => rw [e] at h; exact h
  | ok os =>
    rw [e] at h
    exact fun vs H' F s r fr => h (v :: vs) H' F s ⟨v, vs, rfl, ev, r⟩ fr
def methW (C mn : String) (i : Nat) (n : Nat) (m : VEnv → RS) (sp : List (Option Nat)) (mA : DEnv → R (List O)) : VEnv → RX O := fun env => match env[i]? with
  | some (some o) => if isObj C mn o then callW n m (some i :: sp) mA env else .no
  | _ => .no
theorem methW_run {C mn : String} {i : Nat} {N : List Str} {σ : L2.St} {H : Hp} {Q : VK} {Ca : Addr} (hf : FOk X P f) (hm : X.mg (Str.ofString C) = some (.ref Ca)) (hn : (some i :: sp).length = n) (nd : ((some i :: sp).filterMap id).Nodup) (h : rX f W (methW C mn i N.length m sp mA) σ H Q) :
    ∃ v, σ[i]? = some (some v) ∧ ∃ a dx fs, v = .ref a ∧ H a = some (.ins Ca dx fs) ∧ fs.lookup (Str.ofString mn) = none ∧ ∃ w : Wd, ClOk X w.cl ∧ rQ w W sp mA σ H fun vs H1 => SpV X.K X.mg N n (pinsW 0 (some i :: sp)) m (v :: vs) H1 Q (fun cls d H => W cls d σ H) := by
  obtain ⟨env, ⟨Z, Fs, g⟩, h⟩ := h
  replace h : EOut f W σ (methW C mn i N.length m sp mA env) Q := h
  unfold methW at h
  split at h
  · rename_i o e
    split at h
    · rename_i ho
      obtain ⟨v, ev, r⟩ := g.rep i o e
      obtain ⟨a, Ca', dx, kvs, rfl, hc, hH, hk⟩ := isObj_at ho r
      have ec := clM_at hf.1 hc
      rw [hm] at ec; cases ec
      obtain ⟨Z', Fs', q⟩ := callW_run (sp := some i :: sp) hf hn nd (rX_of (mx := callW N.length m (some i :: sp) mA) ⟨Z, Fs, g⟩ h)
      exact ⟨_, ev, a, dx, kvs, rfl, hH, hk, _, hf.1, rQ_cons ev q⟩
    · exact h.elim
  · exact h.elim
theorem vx_methW {k : Nat} {N ps : List Str} {pi : List Nat} {pl : Sem Bool} {apos rpos : Pos} {r : Str} (C mn : String) (i : Nat) (F : OkMW X.prog X.w X.K X.mg X.base C mn N ps pi m k) (hr : Room k X.A) (hq : VQ X (a :: es) sp mA) {n : Nat} (hNn : N.length = n := by rfl) (hpi : pinsW 0 (some i :: sp) = pi := by rfl) (hsp : (some i :: sp).length = ps.length := by rfl) (nd : ((some i :: sp).filterMap id).Nodup := by decide) (hx : x = Str.ofString mn := by rfl)
    (hN : X.N[i]? = some r := by rfl) (hv : Vis X.env.scope r := by first | exact Or.inl rfl | exact Or.inr (Or.inl rfl) | exact Or.inr (Or.inr rfl)) (hd : (r == ("__debug__" : Str)) = false := by decide) (hcd : (r == ("__classdict__" : Str)) = false := by decide)
    (hst : starEach (a :: es) X.env = (false, eval a X.env) :: starEach es X.env := by rfl) (hpl : (backTo pos (starEach es X.env)).any (·.1) = false := by rfl)
    (ht : eval (.Call (.Attribute (.Name r rpos) x apos) (a :: es) [] pos) X.env = (do
      let ov ← eval (.Name r rpos) X.env
      standAt apos.atName
      let (f, first) ← holding [ov] (getMethod ov x pl)
      callWith pos f first (backTo pos (starEach (a :: es) X.env)) (backToKw pos (keywordEach [] X.env))) := by rfl) : VX X P (.Call (.Attribute (.Name r rpos) x apos) (a :: es) [] pos) (methW C mn i n m sp mA) := fun W tk f hf => by
  subst hNn
  subst hpi
  subst hx
  obtain ⟨Ca, fa, fd, hm, c, M, hb, F⟩ := F
  exact (pe_methV (E' := WE W) (pl := pl) (pe_var hN hv hd hcd) c M F hr hb (fun σ => passAt tk σ) (hq.ew tk) hst hpl ht).imp fun σ H Q h => methW_run hf hm hsp nd h
end
end VL
namespace VL
open PySem PySem.Spec PyProof.Rows L2
abbrev Clause := Value × Nat × (Addr → Value → Option Addr → TS)
inductive Clauses (X : Cx) : List ExceptHandler → List Clause → Prop
  | nil : Clauses X [] []
  | cons {x n : Str} {c : Value} {i : Nat} {ts : Addr → Value → Option Addr → TS} {b₀ : Stmt} {suite : List Stmt} {np q : Pos} {hds : List ExceptHandler} {l : List Clause} (hi : X.N[i]? = some n) (hl : X.env.kindOf n = some .local) (hc : Names X x c)
      (hs : ∀ (a : Addr) (ob : Obj) (cls : Value) (d : Option Addr) (pn : List (Addr × Obj)), Zc cls d ob → (∃ vs, ob.data = .fields vs) → PSs (X.suite a ((a, ob) :: pn)) (b₀ :: suite) (ts a cls d)) (r : Clauses X hds l) : Clauses X (.ExceptHandler (some (.Name x np)) (some n) (b₀ :: suite) q :: hds) ((c, i, ts) :: l)
section
variable {X : Cx} {body : List Stmt} {h₀ : ExceptHandler} {hds : List ExceptHandler} {l : List Clause} {pos : Pos} {tb : WX → TS} {Wo : WX}
end
def tryGo (x : Exn) (e : VEnv) : List (String × Nat × (VEnv → RS)) → RS
  | [] => if badE x.cls then .ex x e else .no
  | z :: l => if subE x.cls z.1 then (if O.nos notFz x.xs && decide (z.2.1 < e.length) then sOut z.2.1 (z.2.2 (e.set z.2.1 (some (.xn x.cls x.fs (O.ers x.xs))))) else .no) else tryGo x e l
inductive VCl (X : Cx) (P : List Nat) (E : Errs) : List ExceptHandler → List (String × Nat × (VEnv → RS)) → Prop
  | nil : VCl X P E [] []
  | cons {x n : Str} {D : String} {i : Nat} {m2 : VEnv → RS} {b₀ : Stmt} {suite : List Stmt} {np q : Pos} {hds : List ExceptHandler} {l : List (String × Nat × (VEnv → RS))} (hsu : ∀ (a : Addr) (oe : Obj) (pn : List (Addr × Obj)), VB (X.suite a ((a, oe) :: pn)) P (b₀ :: suite) m2) (hi : X.N[i]? = some n) (hln : X.env.kindOf n = some .local) (hD : E.has D = true) (hx : x = Str.ofString D) (hg : Gl X x) (hdb : (x == ("__debug__" : Str)) = false) (hP : P.contains i = false) (r : VCl X P E hds l) :
      VCl X P E (.ExceptHandler (some (.Name x np)) (some n) (b₀ :: suite) q :: hds) ((D, i, m2) :: l)
section
variable {X : Cx} {P : List Nat} {E : Errs}
end
end VL
namespace VL
open PySem PySem.Spec PyProof.Rows L2
theorem aRep_none {w : Wd} {H : Hp} {σ : L2.St} : ∀ {os : List O} {vs : List V} {F : Addr → Prop}, RepOs w H os vs F → ArgsRep w H σ (List.replicate os.length none) os vs F
  | [], vs, F, h => by
    simp only [RepOs] at h
    exact ⟨rfl, h⟩
  | o :: os, vs, F, h => by
    simp only [RepOs] at h
    obtain ⟨v, r, F1, F2, e, s1, s2, d, h1, h2⟩ := h
    exact ⟨o, os, v, r, F1, F2, rfl, e, s1, s2, d, h1, aRep_none h2⟩
section
variable {X : Cx} {P : List Nat} {e a : Expr} {es : List Expr} {kws : List Keyword} {mA : DEnv → R (List O)} {me : DEnv → R O} {sp : List (Option Nat)} {x kw : Str} {pos p : Pos} {n k : Nat} {m : VEnv → RS} {W : WX} {w : Wd} {CX : CXT} {f C : Addr} {fd : FuncData} {ps ks : List Str} {S : Sp} {E' : L2.St → XK} {mn : Str} {o : Expr} {ta : TE} {t tk : TA} {g : List Value → List Value → List Value} {gV : List V → List V → List V} {dvs : List V} {ds : List Value} {apos : Pos}
theorem rQ_vals {σ : L2.St} {H : Hp} {Q : List V → Hp → Prop} {n : Nat} (hl : ALen mA n) (h : rQ w W (List.replicate n none) mA σ H Q) : rA w W mA σ H Q := by
  obtain ⟨env, G, _, h⟩ := h
  refine ⟨env, G, ?_⟩
  cases em : mA env with
  | no => rw [em] at h; exact h
  | ex y => rw [em] at h; exact h
  | ok os =>
    rw [em] at h
    exact fun vs H' F s r fr => h vs H' F s (by rw [← hl env os em]; exact aRep_none r) fr
theorem rA_kw {σ : L2.St} {H : Hp} {Q : List V → Hp → Prop} {j : Nat} (hl : ALen mA j) (h : rA w W (aKw mA me) σ H Q) : rA w W mA σ H fun vs H1 => vs.length = j ∧ rE w W me σ H1 fun v H2 => Q (vs ++ [v]) H2 := by
  obtain ⟨env, G, h⟩ := rA_to h
  refine rA_of G (Out.bind (Same.refl H) h fun os vs H1 F1 e1 s1 p1 f1 h1 => ⟨by rw [RepOs.length p1, hl env os e1], rE_of (G.same s1) (Out.bind s1 h1 fun o v H2 F2 e2 s2 p2 f2 h2 => ?_)⟩)
  refine h2 (vs ++ [v]) H2 (fun a => F1 a ∨ F2 a) (Same.refl H2) (RepOs.append (fun a z z2 => (f1 a z).2.ne (f2 a z2).1) (RepOs.same s2 p1) ?_) (fun a z => z.elim (fun q => (f1.up s2) a q) fun q => (f2.base s1) a q)
  simp only [RepOs]
  exact ⟨v, [], F2, fun _ => False, rfl, fun _ z => z, fun _ z => z.elim, fun _ _ z => z, p2, rfl⟩
theorem rA_def {σ : L2.St} {H : Hp} {Q : List V → Hp → Prop} {d : D} {dv : V} (hd : ∀ cl H S, Rep cl H S d dv) (h : rA w W (aDef d mA) σ H Q) : rA w W mA σ H fun vs H1 => Q (vs ++ [dv]) H1 := by
  obtain ⟨env, G, h⟩ := rA_to h
  refine rA_of G (Out.bind (Same.refl H) h fun os vs H1 F1 e1 s1 p1 f1 h1 => ?_)
  refine h1 (vs ++ [dv]) H1 F1 (Same.refl H1) (RepOs.mono (fun a z => z.elim id fun q => q.elim) (RepOs.append (G := fun _ => False) (fun a _ z2 => z2) p1 ?_)) f1
  simp only [RepOs]
  exact ⟨dv, [], fun _ => False, fun _ => False, rfl, fun _ z => z, fun _ z => z, fun _ _ z => z, by simp only [RepO]; exact hd _ _ _, rfl⟩
def tMethKW (C : Addr) (m : Str) (S : Sp) (gV : List V → List V → List V) (n j : Nat) (E : L2.St → XK) (ta : TE) (t tk : TA) : TE := fun σ H Q => ta σ H fun x H1 => ∃ a dx fs, x = .ref a ∧ H1 a = some (.ins C dx fs) ∧ fs.lookup m = none ∧ t σ H1 fun vs H2 => tk σ H2 fun zs H3 => vs.length + 1 = n ∧ zs.length = j ∧ S (gV (x :: vs) zs) H3 Q (E σ)
theorem pe_methKW {pl : Sem Bool} (he : PE X o ta) (c : Cls X.K C) (hm : Meth X.K C mn f) (F : FnOk X.prog X.w X.K X.mg X.base CX k f fd ps S) (hr : Room k X.A) (hb : KBn X.K fd ps n ks g gV) (hx : ∀ σ, PassesAt CX X σ (E' σ)) (ha : PA X (e :: es) t) (hkw : PK X kws tk) (hall : (backToKw pos (keywordEach kws X.env)).all (·.1.isSome) = true := by rfl) (hks : (backToKw pos (keywordEach kws X.env)).filterMap (·.1) = ks := by rfl)
    (hst : starEach (e :: es) X.env = (false, eval e X.env) :: starEach es X.env := by rfl) (hpl : ((backTo pos (starEach (e :: es) X.env)).any (·.1) || (backToKw pos (keywordEach kws X.env)).any (·.1.isNone)) = false := by rfl)
    (ht : eval (.Call (.Attribute o mn apos) (e :: es) kws pos) X.env = (do
      let ov ← eval o X.env
      standAt apos.atName
      let (f, first) ← holding [ov] (getMethod ov mn pl)
      callWith pos f first (backTo pos (starEach (e :: es) X.env)) (backToKw pos (keywordEach kws X.env))) := by rfl) : PE X (.Call (.Attribute o mn apos) (e :: es) kws pos) (tMethKW C mn S gV n ks.length E' ta t tk) := ⟨fun pins s σ H Q I h => by
  refine PySem.W.methodCall_KW (pl := pl) (thn (he.run pins s σ H _ I h) fun u s1 ⟨x, H1, I1, rx, a, dx, fs, ex, ea, l, q⟩ => ?_) ht
  subst ex
  cases (show u = Value.ref a from rx)
  refine getmeth_ok I1 ea c hm l (PySem.W.callWith_KW (first := [.ref a]) (h₀ := X.base) I1.ok.mod.kin hm.kp hall (thn (ha.run pos pins s1 σ H1 _ I1 q) fun us s2 ⟨vs, H2, I2, r, q2⟩ => ?_) hpl hst)
  refine thn (hkw.run pos pins s2 σ H2 _ I2 q2) fun ws s3 ⟨zs, H3, I3, rz, l1, l2, q3⟩ => ⟨I3.kIn, ?_⟩
  rw [hks]
  exact run_fnNS (us := .ref a :: us) (vs := .ref a :: vs) F hr hb (hx σ) I3 (.cons rfl r) rz (by simpa using l1) l2 q3⟩
def tMethSD (C : Addr) (m : Str) (S : Sp) (dvs : List V) (E : L2.St → XK) (ta : TE) (t : TA) : TE := fun σ H Q => ta σ H fun x H1 => ∃ a dx fs, x = .ref a ∧ H1 a = some (.ins C dx fs) ∧ fs.lookup m = none ∧ t σ H1 fun vs H2 => S ((x :: vs) ++ dvs) H2 Q (E σ)
theorem pe_methSD {pl : Sem Bool} (he : PE X o ta) (c : Cls X.K C) (hm : Meth X.K C mn f) (F : FnOk X.prog X.w X.K X.mg X.base CX k f fd ps S) (hr : Room k X.A) (hb : Binds X.K fd ps ds) (hd : Vals dvs ds) (hx : ∀ σ, PassesAt CX X σ (E' σ)) (ha : PA X (e :: es) t)
    (hst : starEach (e :: es) X.env = (false, eval e X.env) :: starEach es X.env := by rfl) (hpl : (backTo pos (starEach es X.env)).any (·.1) = false := by rfl)
    (ht : eval (.Call (.Attribute o mn apos) (e :: es) [] pos) X.env = (do
      let ov ← eval o X.env
      standAt apos.atName
      let (f, first) ← holding [ov] (getMethod ov mn pl)
      callWith pos f first (backTo pos (starEach (e :: es) X.env)) (backToKw pos (keywordEach [] X.env))) := by rfl) : PE X (.Call (.Attribute o mn apos) (e :: es) [] pos) (tMethSD C mn S dvs E' ta t) := ⟨fun pins s σ H Q I h => by
  refine PySem.W.methodCall_KW (pl := pl) (thn (he.run pins s σ H _ I h) fun u s1 ⟨x, H1, I1, rx, a, dx, fs, ex, ea, l, q⟩ => ?_) ht
  subst ex
  cases (show u = Value.ref a from rx)
  refine getmeth_ok I1 ea c hm l (PySem.W.callWith_K (first := [.ref a]) (h₀ := X.base) I1.ok.mod.kin hm.kp (thn (ha.run pos pins s1 σ H1 _ I1 q) fun us s2 ⟨vs, H2, I2, r, q2⟩ => ⟨I2.kIn, ?_⟩) hst hpl)
  exact run_fnSD (us := .ref a :: us) (vs := .ref a :: vs) F hr hb hd (hx σ) I2 (.cons rfl r) q2⟩
def OkMK (P : Program) (w : World) (K : PySem.W.Frag) (mg : Str → Option Value) (base : Heap) (C mn : String) (N ps : List Str) (kw : Str) (dv : V) (j : Nat) (pi : List Nat) (m : VEnv → RS) (k : Nat) : Prop :=
  ∃ Ca f fd, mg (Str.ofString C) = some (.ref Ca) ∧ Cls K Ca ∧ Meth K Ca (Str.ofString mn) f ∧ (∃ ds, Vals [dv] ds ∧ Binds K fd ps ds) ∧ KBn K fd ps (j + 1) [kw] (fun us ws => us ++ ws) (fun vs zs => vs ++ zs) ∧ FnOk P w K mg base (CXv mg P w) k f fd ps (SpV K mg N ps.length pi m)
theorem alen_kw {j : Nat} (h : ALen mA j) : ALen (aKw mA me) (j + 1) := fun env os em => by
  unfold aKw at em
  cases e1 : mA env with
  | no => rw [e1] at em; cases em
  | ex y => rw [e1] at em; cases em
  | ok os1 =>
    rw [e1] at em
    cases e2 : me env with
    | no => simp only [R.bind, e2] at em; cases em
    | ex y => simp only [R.bind, e2] at em; cases em
    | ok o1 =>
      simp only [R.bind, e2] at em
      cases em
      simp [h env os1 e1]
theorem alen_def {j : Nat} {d : D} (h : ALen mA j) : ALen (aDef d mA) (j + 1) := fun env os em => by
  unfold aDef at em
  cases e1 : mA env with
  | no => rw [e1] at em; cases em
  | ex y => rw [e1] at em; cases em
  | ok os1 =>
    rw [e1] at em
    cases em
    simp [h env os1 e1]
theorem VA.ew (h : VA X es mA) (tk : Takes X W) : PA X es (fun σ H Q => ∃ w : Wd, ClOk X w.cl ∧ rA w W mA σ H Q) := ⟨fun pos pins s σ H Q I ⟨w, hc, q⟩ => (h W tk w hc).run pos pins s σ H Q I q⟩
theorem VE.ew (h : VE X e me) (tk : Takes X W) : PE X e (fun σ H Q => ∃ w : Wd, ClOk X w.cl ∧ rE w W me σ H Q) := ⟨fun pins s σ H Q I ⟨w, hc, q⟩ => (h W tk w hc).run pins s σ H Q I q⟩
theorem filt_none {i n : Nat} : (((some i :: List.replicate n none) : List (Option Nat)).filterMap id) = [i] := by
  rw [List.filterMap_cons_some (f := id) (a := some i) (b := i) rfl]
  have : (List.replicate n (none : Option Nat)).filterMap id = [] := by
    induction n with
    | zero => rfl
    | succ n ih => rw [List.replicate_succ]; exact ih
  rw [this]
theorem pins_none : ∀ {n q : Nat}, pinsW q (List.replicate n none) = []
  | 0, q => rfl
  | n + 1, q => by rw [List.replicate_succ]; exact pins_none
theorem vx_methKW {kpos rpos : Pos} {r y : Str} {N : List Str} {dv : V} {j : Nat} {pl : Sem Bool} (C mn : String) (i : Nat) (F : OkMK X.prog X.w X.K X.mg X.base C mn N ps kw dv j [0] m k) (hr : Room k X.A) (ha : VA X (a :: es) mA) (hl : ALen mA j) (hb : VE X e me) {n : Nat} (hNn : N.length = n := by rfl) (hsp : j + 2 = ps.length := by rfl) (hx : x = Str.ofString mn := by rfl) (hy : y = kw := by rfl)
    (hN : X.N[i]? = some r := by rfl) (hv : Vis X.env.scope r := by first | exact Or.inl rfl | exact Or.inr (Or.inl rfl) | exact Or.inr (Or.inr rfl)) (hd : (r == ("__debug__" : Str)) = false := by decide) (hcd : (r == ("__classdict__" : Str)) = false := by decide)
    (hall : (backToKw pos (keywordEach [⟨some y, e, kpos⟩] X.env)).all (·.1.isSome) = true := by rfl) (hks : (backToKw pos (keywordEach [⟨some y, e, kpos⟩] X.env)).filterMap (·.1) = [kw] := by rfl)
    (hst : starEach (a :: es) X.env = (false, eval a X.env) :: starEach es X.env := by rfl) (hpl : ((backTo pos (starEach (a :: es) X.env)).any (·.1) || (backToKw pos (keywordEach [⟨some y, e, kpos⟩] X.env)).any (·.1.isNone)) = false := by rfl)
    (ht : eval (.Call (.Attribute (.Name r rpos) x apos) (a :: es) [⟨some y, e, kpos⟩] pos) X.env = (do
      let ov ← eval (.Name r rpos) X.env
      standAt apos.atName
      let (f, first) ← holding [ov] (getMethod ov x pl)
      callWith pos f first (backTo pos (starEach (a :: es) X.env)) (backToKw pos (keywordEach [⟨some y, e, kpos⟩] X.env))) := by rfl) : VX X P (.Call (.Attribute (.Name r rpos) x apos) (a :: es) [⟨some y, e, kpos⟩] pos) (methW C mn i n m (List.replicate (j + 1) none) (aKw mA me)) := fun W tk f hf => by
  subst hNn
  subst hx
  obtain ⟨Ca, fa, fd, hm, c, M, _, hbn, F⟩ := F
  refine (pe_methKW (E' := WE W) (pl := pl) (pe_var hN hv hd hcd) c M F hr hbn (fun σ => passAt tk σ) (ha.ew tk) (pk_cons (hb.ew tk) pk_nil) hall hks hst hpl ht).imp fun σ H Q h => ?_
  obtain ⟨v, ev, a', dx, fs, e1, e2, e3, w, hc, q⟩ := methW_run (n := ps.length) (sp := List.replicate (j + 1) none) hf hm (by rw [List.length_cons, List.length_replicate]; exact hsp) (by rw [filt_none]; exact List.nodup_cons.mpr ⟨by simp, List.nodup_nil⟩) h
  refine ⟨v, ev, a', dx, fs, e1, e2, e3, w, hc, ?_⟩
  have q1 := rA_kw hl (rQ_vals (alen_kw hl) q)
  obtain ⟨env, G, q2⟩ := q1
  refine ⟨env, G, ?_⟩
  cases em : mA env with
  | no => rw [em] at q2; exact q2
  | ex y => rw [em] at q2; exact q2
  | ok os =>
    rw [em] at q2
    intro vs H1 F1 s1 p1 f1
    obtain ⟨l1, q3⟩ := q2 vs H1 F1 s1 p1 f1
    refine ⟨w, hc, ?_⟩
    obtain ⟨env2, G2, q4⟩ := q3
    refine ⟨env2, G2, ?_⟩
    cases e5 : me env2 with
    | no => rw [e5] at q4; exact q4
    | ex y => rw [e5] at q4; exact q4
    | ok o1 =>
      rw [e5] at q4
      intro v1 H2 F2 s2 p2 f2
      refine ⟨by rw [l1], rfl, ?_⟩
      have := q4 v1 H2 F2 s2 p2 f2
      rw [show pinsW 0 (some i :: List.replicate (j + 1) none) = [0] by show 0 :: pinsW 1 _ = _; rw [pins_none]] at this
      exact this
theorem vx_methSD {rpos : Pos} {r : Str} {N : List Str} {d : D} {dv : V} {j : Nat} {pl : Sem Bool} (hdd : ∀ cl H S, Rep cl H S d dv) (C mn : String) (i : Nat) (F : OkMK X.prog X.w X.K X.mg X.base C mn N ps kw dv j [0] m k) (hr : Room k X.A) (ha : VA X (a :: es) mA) (hl : ALen mA j) {n : Nat} (hNn : N.length = n := by rfl) (hsp : j + 2 = ps.length := by rfl) (hx : x = Str.ofString mn := by rfl)
    (hN : X.N[i]? = some r := by rfl) (hv : Vis X.env.scope r := by first | exact Or.inl rfl | exact Or.inr (Or.inl rfl) | exact Or.inr (Or.inr rfl)) (hd : (r == ("__debug__" : Str)) = false := by decide) (hcd : (r == ("__classdict__" : Str)) = false := by decide)
    (hst : starEach (a :: es) X.env = (false, eval a X.env) :: starEach es X.env := by rfl) (hpl : (backTo pos (starEach es X.env)).any (·.1) = false := by rfl)
    (ht : eval (.Call (.Attribute (.Name r rpos) x apos) (a :: es) [] pos) X.env = (do
      let ov ← eval (.Name r rpos) X.env
      standAt apos.atName
      let (f, first) ← holding [ov] (getMethod ov x pl)
      callWith pos f first (backTo pos (starEach (a :: es) X.env)) (backToKw pos (keywordEach [] X.env))) := by rfl) : VX X P (.Call (.Attribute (.Name r rpos) x apos) (a :: es) [] pos) (methW C mn i n m (List.replicate (j + 1) none) (aDef d mA)) := fun W tk f hf => by
  subst hNn
  subst hx
  obtain ⟨Ca, fa, fd, hm, c, M, ⟨ds, hds, hb⟩, _, F⟩ := F
  refine (pe_methSD (E' := WE W) (pl := pl) (pe_var hN hv hd hcd) c M F hr hb hds (fun σ => passAt tk σ) (ha.ew tk) hst hpl ht).imp fun σ H Q h => ?_
  obtain ⟨v, ev, a', dx, fs, e1, e2, e3, w, hc, q⟩ := methW_run (n := ps.length) (sp := List.replicate (j + 1) none) hf hm (by rw [List.length_cons, List.length_replicate]; exact hsp) (by rw [filt_none]; exact List.nodup_cons.mpr ⟨by simp, List.nodup_nil⟩) h
  rw [show pinsW 0 (some i :: List.replicate (j + 1) none) = [0] by show 0 :: pinsW 1 _ = _; rw [pins_none]] at q
  exact ⟨v, ev, a', dx, fs, e1, e2, e3, w, hc, rA_def hdd (rQ_vals (alen_def hl) q)⟩
end
end VL
namespace L2
open PySem PySem.Spec PyProof.Rows
def ItLs (t it : Addr) (i : Nat) : HO := .ext fun h => h.IsListIter it t i
theorem itLs_ok {P : Program} {w : World} {H : Hp} {h : Heap} {t it : Addr} {i : Nat} (e : h.IsListIter it t i) : ObjOk P w H h it (ItLs t it i) := ⟨e, ⟨_, e.choose_spec.1⟩, fun h1 h2 q k => let ⟨o, ho, r⟩ := q; ⟨o, k _ ho, r⟩⟩
def rIterLs (K : PySem.W.Frag) : List V → Hp → VK → Prop := fun xs H Q => ∃ (t : Addr) (zs : List V), xs = [.ref t] ∧ SqL K H t zs ∧ ∀ it, H it = none → (∀ b, H b ≠ none → b < it) → Q (.ref it) (upd H it (ItLs t it 0))
section
variable {X : Cx}
theorem call_iterLs : CallR X (.builtin "iter") (rIterLs X.K) := by
  intro pins s σ H xs us Q I r h
  obtain ⟨l, zs, rfl, hq, q⟩ := h
  obtain rfl := Vals.ref1 r
  obtain ⟨its, rv, pl, hz⟩ := I.list hq
  refine Calls.call_function_entry (by decide +kernel) (by decide +kernel) PySem.W.kdk_entry_iter (PySem.W.kdk_args_iter _) ?_
  unfold Builtin.«iter»
  refine wpAny_bind (m := someArgs "iter" 1 2 _) (wpAny_of_eq (a := [Value.ref l]) (by first | rfl | kernel_rfl!) ?_)
  show wpAny _ _ (pyIter (.ref l) >>= _) _ _ _
  refine wpAny_bind (wpAny_pyIter_list pl.isList ?_)
  refine wpAny_pure ⟨_, rfl, ?_⟩
  exact ⟨.ref s.heap.objs.size, _, I.laid (t' := s.toks) (fun b u e => Heap.get?_push_of_some _ e) (Nat.le_refl _) (itLs_ok ⟨_, Heap.get?_push_size _ rfl, rfl, rfl⟩), rfl, q _ (I.hok.fresh (Nat.le_refl _)) fun b hb => by
    cases e : H b with
    | none => exact absurd e hb
    | some u =>
      obtain ⟨o, ho⟩ := objOk_get (I.hok b u e)
      exact Heap.lt_size ho⟩
def spItL (K : PySem.W.Frag) (F : Str) : Sp := fun vs H Q _ => ∃ (a C dx : Addr) (fs : List (Str × V)) (t : Addr) (zs : List V), vs = [.ref a] ∧ H a = some (.ins C dx fs) ∧ Cls K C ∧ NoAttr K C F ∧ fs.lookup F = some (.ref t) ∧ SqL K H t zs ∧
  ∀ it, H it = none → (∀ b, H b ≠ none → b < it) → Q (.ref it) (upd H it (ItLs t it 0))
def sItL (K : PySem.W.Frag) (F : Str) (i : Nat) : TS := fun D σ H => ∃ (a C dx : Addr) (fs : List (Str × V)) (t : Addr) (zs : List V), σ[i]? = some (some (.ref a)) ∧ H a = some (.ins C dx fs) ∧ Cls K C ∧ NoAttr K C F ∧ fs.lookup F = some (.ref t) ∧ SqL K H t zs ∧
  ∀ it, H it = none → (∀ b, H b ≠ none → b < it) → D.rt (.ref it) (upd H it (ItLs t it 0))
theorem pss_itL {F : Str} (i : Nat) {y : Str} {p1 p2 p3 p4 p5 : Pos} (hm : X.mg "iter" = none) (hN : X.N[i]? = some y := by rfl) (hv : Vis X.env.scope y := by first | exact Or.inl rfl | exact Or.inr (Or.inl rfl) | exact Or.inr (Or.inr rfl)) (hd : (y == ("__debug__" : Str)) = false := by decide)
    (hcd : (y == ("__classdict__" : Str)) = false := by decide) (hg : Gl X "iter" := by rfl) (hb : attributeBase (.Name y p3) F X.env (eval (.Name y p3) X.env) = eval (.Name y p3) X.env := by rfl) (he : starEach [.Attribute (.Name y p3) F p4] X.env = (false, eval (.Attribute (.Name y p3) F p4) X.env) :: starEach [] X.env := by rfl) (hpl : (backTo p2 (starEach [] X.env)).any (·.1) = false := by rfl) :
    PSs X [.Return (some (.Call (.Name "iter" p1) [.Attribute (.Name y p3) F p4] [] p2)) p5] (sItL X.K F i) := by
  refine pss_one ((ps_ret (pe_callB call_iterLs hg hm (by rfl) (pa_cons (pe_fld (pe_var hN hv hd hcd) hb) pa_nil he) (by decide) (by decide) he hpl)).imp fun D σ H h => ?_)
  obtain ⟨a, C, dx, fs, t, zs, ea, hH, c, n, l, hq, q⟩ := h
  exact ⟨.ref a, ea, a, C, dx, fs, .ref t, rfl, hH, c, n, l, t, zs, rfl, hq, q⟩
variable {pins : List (Addr × Obj)} {σ : L2.St} {A1 : Around} {q it t : Addr} {zs : List V} {Hd : Hp}
theorem itLs_loop {Rs : Result → Shared → Prop} (hh : A1.in1.handled = none) (hqi : q ≠ it) (hti : t ≠ it) (hfp : ∀ l, FpOk X pins (upd Hd q (.lst l)) it) (hsq : ∀ l, SqL X.K (upd Hd q (.lst l)) t zs) (hz : zs.length ≤ sizeLine)
    (hdone : ∀ s, Inv X pins σ (upd Hd q (.lst zs)) s → Rs (.ok (.ret .none)) s) :
    ∀ (n i : Nat) (s : Shared), i + n = zs.length → Inv X pins σ (upd Hd q (.lst (zs.take i))) s → s.heap.IsListIter it t i → codeAny (model X.prog X.w) A1 (.builtin "list.extend.loop" ⟨[.ref q, .ref it, .none], []⟩) Rs s := by
  intro n
  induction n with
  | zero =>
    intro i s hi I hit
    refine codeAny_builtin PySem.F.entry_extend_loop ?_
    rw [Around.under_plainId PySem.F.plain_extend_loop _]
    show wpAny _ A1.in1 (pyNext (.ref it) >>= _) _ _ s
    obtain ⟨its, rv, pl, _⟩ := I.list (hsq _)
    have hl := rv.length
    refine wpAny_bind (wpAny_pyNext_list_end hh hit pl.isList (by simp; omega) fun h' hb => ?_)
    obtain ⟨f1, f2, f3, f4, f5, f6⟩ := hfp (zs.take i)
    have I2 := I.turned (h' := h') (t' := s.toks) (it := it) (fun b o n e => hb b o n e) f1 f2 f4 f5 f6
    have e : zs.take i = zs := List.take_of_length_le (by omega)
    rw [e] at I2
    exact wpAny_pure (hdone _ I2)
  | succ n ih =>
    intro i s hi I hit
    refine codeAny_builtin PySem.F.entry_extend_loop ?_
    rw [Around.under_plainId PySem.F.plain_extend_loop _]
    show wpAny _ A1.in1 (pyNext (.ref it) >>= _) _ _ s
    obtain ⟨its, rv, pl, _⟩ := I.list (hsq (zs.take i))
    have hl := rv.length
    have hlt : i < zs.length := by omega
    obtain ⟨u, hu, ru⟩ := rv.get (List.getElem?_eq_getElem hlt)
    refine wpAny_bind (wpAny_pyNext_list_item hit pl.isList (x := u) (by simpa using hu) fun h' hit' hb => ?_)
    obtain ⟨f1, f2, f3, f4, f5, f6⟩ := hfp (zs.take i)
    have I2 := I.turned (h' := h') (t' := s.toks) (it := it) (fun b o n e => hb.extBut b o n e) f1 f2 f4 f5 f6
    show wpAny _ A1.in1 (updateSeq q (·.push u) >>= _) _ _ _
    obtain ⟨z, its', k, r2, hl2, e⟩ := I2.lstM upd_same
    have hlen : its'.length = i := by rw [← r2.length, List.length_take]; omega
    refine wpAny_bind (wpAny_updateSeq e rfl (wpAny_pure ⟨plainId_quiet PySem.F.plain_extend_loop _, ?_⟩) (by rw [List.size_toArray]; omega) (by show (its'.toArray.push u).size ≤ sizeLine + 1; rw [Array.size_push, List.size_toArray]; omega))
    have I3 := I2.lset (f := (·.push u)) (its' := its' ++ [u]) (t' := s.toks) upd_same e (by simp) (r2.append (.cons ru .nil)) (by rw [List.length_append, List.length_singleton, List.length_take]; omega)
    rw [upd_upd] at I3
    have e2 : zs.take i ++ [zs[i]] = zs.take (i + 1) := by rw [List.take_add_one, List.getElem?_eq_getElem hlt]; rfl
    rw [e2] at I3
    refine ih (i + 1) _ (by omega) I3 ?_
    exact Heap.IsListIter.extBut hit' (Heap.SameBut.update ..).extBut (Ne.symm hqi)
end
structure ItC2 (K : PySem.W.Frag) (C fi fl : Addr) : Prop where
  it : PySem.W.findIn K (.ref C) "__iter__" = some (some (.ref fi))
  itF : PySem.W.isFn K (.ref fi) = true
  ln : PySem.W.findIn K (.ref C) "__len__" = some (some (.ref fl))
  lnF : PySem.W.isFn K (.ref fl) = true
def spLn (K : PySem.W.Frag) (F : Str) : Sp := fun vs H Q _ => ∃ (a C dx : Addr) (fs : List (Str × V)) (t : Addr) (zs : List V), vs = [.ref a] ∧ H a = some (.ins C dx fs) ∧ Cls K C ∧ NoAttr K C F ∧ fs.lookup F = some (.ref t) ∧ SqL K H t zs ∧ Q (.int zs.length) H
def sLn (K : PySem.W.Frag) (F : Str) (i : Nat) : TS := fun D σ H => ∃ (a C dx : Addr) (fs : List (Str × V)) (t : Addr) (zs : List V), σ[i]? = some (some (.ref a)) ∧ H a = some (.ins C dx fs) ∧ Cls K C ∧ NoAttr K C F ∧ fs.lookup F = some (.ref t) ∧ SqL K H t zs ∧ D.rt (.int zs.length) H
theorem pss_ln {X : Cx} {F : Str} (i : Nat) {y : Str} {p1 p2 p3 p4 p5 : Pos} (hm : X.mg "len" = none) (hN : X.N[i]? = some y := by rfl) (hv : Vis X.env.scope y := by first | exact Or.inl rfl | exact Or.inr (Or.inl rfl) | exact Or.inr (Or.inr rfl)) (hd : (y == ("__debug__" : Str)) = false := by decide)
    (hcd : (y == ("__classdict__" : Str)) = false := by decide) (hg : Gl X "len" := by rfl) (hb : attributeBase (.Name y p3) F X.env (eval (.Name y p3) X.env) = eval (.Name y p3) X.env := by rfl) (he : starEach [.Attribute (.Name y p3) F p4] X.env = (false, eval (.Attribute (.Name y p3) F p4) X.env) :: starEach [] X.env := by rfl) (hpl : (backTo p2 (starEach [] X.env)).any (·.1) = false := by rfl) :
    PSs X [.Return (some (.Call (.Name "len" p1) [.Attribute (.Name y p3) F p4] [] p2)) p5] (sLn X.K F i) := by
  refine pss_one ((ps_ret (pe_callB call_len_seq hg hm PySem.boot_len (pa_cons (pe_fld (pe_var hN hv hd hcd) hb) pa_nil he) (by decide) (by decide) he hpl)).imp fun D σ H h => ?_)
  obtain ⟨a, C, dx, fs, t, zs, ea, hH, c, n, l, hq, q⟩ := h
  exact ⟨.ref a, ea, a, C, dx, fs, .ref t, rfl, hH, c, n, l, t, zs, rfl, .inl hq, q⟩
section
variable {X : Cx} {pins : List (Addr × Obj)} {σ : L2.St} {A : Around} {a C fi fl t dx : Addr} {F : Str} {zs : List V} {H : Hp} {s : Shared} {fs : List (Str × V)} {fdL : FuncData} {n : Nat} {E : Value → Shared → Prop}
theorem len_own {Q : Value → Shared → Prop} (sb : Sub X n A.in1) (hc : ItC2 X.K C fi fl) (c : Cls X.K C) (na : NoAttr X.K C F) (FL : FnOk X.prog X.w X.K X.mg X.base (VL.CXv X.mg X.prog X.w) n fl fdL ["self"] (spLn X.K F)) (bL : Binds X.K fdL ["self"] []) (I : Inv X pins σ H s) (ha : H a = some (.ins C dx fs)) (hl : fs.lookup F = some (.ref t)) (ht : H t = some (.lst zs)) (hz : zs.length ≤ sizeLine)
    (h : ∀ u s', Inv X pins σ H s' → Q (.int zs.length u) s') : wpAny (model X.prog X.w) A (call (.builtin "len") [.ref a]) Q E s := by
  obtain ⟨mA, J, _⟩ := ins_get I.hok ha
  obtain ⟨od, J, _⟩ := J.look
  obtain ⟨m0, hF⟩ := I.fr
  refine PySem.W.len_K hF I.ok.mod.kin J hc.ln hc.lnF ?_
  have e0 : Env0 X.prog X.w X.K X.mg X.base A.in1 X.stack s H := by
    have e := I.env0
    exact ⟨by rw [sb.fr]; exact e.frames, e.mod, e.bs, e.bsz, e.funs, e.frf, e.hok, e.bare⟩
  have hsp : spLn X.K F [.ref a] H (fun v H' => v = .int zs.length ∧ H' = H) (fun _ _ _ => False) := ⟨a, C, dx, fs, t, zs, rfl, ha, c, na, hl, SqL.of ht, rfl, rfl⟩
  have r2 : Vals [V.ref a] [Value.ref a] := .cons rfl .nil
  refine wpAny_call (codeAny_mono (FL.run A.in1 X.stack s _ ⟨[.ref a], []⟩ [.ref a] [.ref a] _ _ sb.room e0 (by
    have := bL s [.ref a] I.kIn (by simp)
    simpa using this) r2 hsp) fun r s' hq' => ?_)
  cases r with
  | error e => exact (cx_false hq').elim
  | ok fl =>
    cases fl with
    | next => exact False.elim hq'
    | brk => exact False.elim hq'
    | cont => exact False.elim hq'
    | ret u =>
      obtain ⟨v, H', I', rv, rfl, rfl⟩ := I.after hq'
      obtain ⟨k, rfl⟩ := rv
      rw [sizeLine_eq] at hz
      exact ⟨⟨by omega, by omega⟩, h _ _ (I'.tok _)⟩
theorem own_hint2 {Q : Bool → Shared → Prop} (sb : Sub X n A.in1) (hc : ItC2 X.K C fi fl) (c : Cls X.K C) (na : NoAttr X.K C F) (FL : FnOk X.prog X.w X.K X.mg X.base (VL.CXv X.mg X.prog X.w) n fl fdL ["self"] (spLn X.K F)) (bL : Binds X.K fdL ["self"] []) (I : Inv X pins σ H s) (ha : H a = some (.ins C dx fs)) (hl : fs.lookup F = some (.ref t)) (ht : H t = some (.lst zs)) (hz : zs.length ≤ sizeLine)
    (h : ∀ b s', Inv X pins σ H s' → Q b s') : wpAny (model X.prog X.w) A (Builtin.List.listLengthHint (.ref a)) Q E s := by
  obtain ⟨mA, J, _⟩ := ins_get I.hok ha
  obtain ⟨od, J, _⟩ := J.look
  unfold Builtin.List.listLengthHint
  refine wpAny_bind (wpAny_bind (J.type.here ((PySem.W.looks_findIn I.kIn hc.ln).here ?_)))
  refine PySem.W.KFB.if_not rfl ?_
  refine wpAny_ite_split (fun _ => ?_) (fun n => absurd rfl n)
  refine wpAny_bind (wpAny_rule ?_)
  refine wpAny_bind (wpAny_attempt (len_own sb hc c na FL bL I ha hl ht hz fun u s' I' => ?_))
  show wpAny _ _ (asInt? (.int (zs.length : Int) u) >>= _) _ _ _
  refine wpAny_bind (m := asInt? _) (wpAny_pure ?_)
  simp only
  rw [Int.toNat_natCast, if_neg (by rw [notLongL hz]; exact Bool.false_ne_true)]
  exact wpAny_pure (h _ _ I')
end
section
variable {X : Cx} {pins : List (Addr × Obj)} {σ : L2.St} {A1 : Around} {a q C fi fl t dx : Addr} {F : Str} {zs : List V} {H : Hp} {s : Shared} {fs : List (Str × V)} {fdI fdL : FuncData} {n : Nat}
theorem it_extendL {Rs : Result → Shared → Prop} (sb : Sub X (n + 1) A1.in1) (hh : A1.in1.handled = none) (hc : ItC2 X.K C fi fl) (c : Cls X.K C) (na : NoAttr X.K C F)
    (FI : FnOk X.prog X.w X.K X.mg X.base (VL.CXv X.mg X.prog X.w) n fi fdI ["self"] (spItL X.K F)) (bI : Binds X.K fdI ["self"] []) (FL : FnOk X.prog X.w X.K X.mg X.base (VL.CXv X.mg X.prog X.w) n fl fdL ["self"] (spLn X.K F)) (bL : Binds X.K fdL ["self"] []) (hz : zs.length ≤ sizeLine)
    (hdone : ∀ s, Inv X pins σ (upd H q (.lst zs)) s → Rs (.ok (.ret .none)) s) (hy : X.s_0.heap.objs.size ≤ q) (hqn : H q = none)
    (I : Inv X pins σ (upd H q (.lst [])) s) (ha : H a = some (.ins C dx fs)) (hl : fs.lookup F = some (.ref t)) (ht : H t = some (.lst zs)) :
    wpAny (model X.prog X.w) A1.in1 (Builtin.List.listExtendWith (.ref q) (.ref a) .none)
      (fun fin s' => match fin with | .done f => Rs (.ok f) s' | .again c' => c'.quiet = true ∧ codeAny (model X.prog X.w) A1 c' Rs s') (fun e s' => Rs (.error e) s') s := by
  have hqa : a ≠ q := fun e => by rw [e, hqn] at ha; cases ha
  have hqt : t ≠ q := fun e => by rw [e, hqn] at ht; cases ht
  have ha' : upd H q (.lst []) a = some (.ins C dx fs) := by rw [upd_ne hqa]; exact ha
  have ht' : ∀ l, upd H q (.lst l) t = some (.lst zs) := fun l => by rw [upd_ne hqt]; exact ht
  obtain ⟨mA, J, _⟩ := ins_get I.hok ha'
  obtain ⟨od, J, _⟩ := J.look
  obtain ⟨m0, hF⟩ := I.fr
  unfold Builtin.List.listExtendWith
  refine wpAny_bind (J.type.here ?_)
  have h1 : Builtin.List.listSameRef (.ref q) (.ref a) = false := by simp [Builtin.List.listSameRef, Ne.symm hqa]
  have h2 : (Value.ref C == Value.type "list") = false := rfl
  have h3 : (Value.ref C == Value.type "tuple") = false := rfl
  simp only [h1, h2, h3, Bool.or_false, Bool.false_eq_true, if_false]
  refine wpAny_bind (PySem.W.owit_iter hF I.ok.mod.kin J hc.it hc.itF ?_)
  have e0 : Env0 X.prog X.w X.K X.mg X.base A1.in1 X.stack s (upd H q (.lst [])) := by
    have e := I.env0
    exact ⟨by rw [sb.fr]; exact e.frames, e.mod, e.bs, e.bsz, e.funs, e.frf, e.hok, e.bare⟩
  have hspI : spItL X.K F [.ref a] (upd H q (.lst [])) (fun v H' => ∃ it, v = .ref it ∧ upd H q (.lst []) it = none ∧ q < it ∧ H' = upd (upd H q (.lst [])) it (ItLs t it 0)) (fun _ _ _ => False) :=
    ⟨a, C, dx, fs, t, zs, rfl, ha', c, na, hl, SqL.of (ht' []), fun it hn hb => ⟨it, rfl, hn, hb q (by rw [upd_same]; exact fun z => nomatch z), rfl⟩⟩
  have r2 : Vals [V.ref a] [Value.ref a] := .cons rfl .nil
  refine wpAny_call (codeAny_mono (FI.run A1.in1 X.stack s _ ⟨[.ref a], []⟩ [.ref a] [.ref a] _ _ (sb.mono (Nat.le_succ n)).room e0 (by
    have := bI s [.ref a] I.kIn (by simp)
    simpa using this) r2 hspI) fun r s' hq' => ?_)
  cases r with
  | error e => exact (cx_false hq').elim
  | ok fl =>
    cases fl with
    | next => exact False.elim hq'
    | brk => exact False.elim hq'
    | cont => exact False.elim hq'
    | ret u =>
      obtain ⟨v, H', I', rv, it, rfl, hn, hab, rfl⟩ := I.after hq'
      cases rv
      have hia : a ≠ it := fun e => by rw [← e, ha'] at hn; cases hn
      have hiq : q ≠ it := Nat.ne_of_lt hab
      have hiT : t ≠ it := fun e => by rw [← e, ht' []] at hn; cases hn
      have hit0 : s'.heap.IsListIter it t 0 := (I'.hok it _ upd_same).1
      refine wpAny_specialOf hit0.typeIs slot_listiter_next.lookup ?_
      have ha2 : upd (upd H q (.lst [])) it (ItLs t it 0) a = some (.ins C dx fs) := by rw [upd_ne hia]; exact ha'
      have ht2 : upd (upd H q (.lst [])) it (ItLs t it 0) t = some (.lst zs) := by rw [upd_ne hiT]; exact ht' []
      refine wpAny_bind (wpAny_holding (own_hint2 (Sub.in1 sb) hc c na FL bL I' ha2 hl ht2 hz fun b s' I' => ?_))
      have hit : s'.heap.IsListIter it t 0 := (I'.hok it _ upd_same).1
      have Id := ItX.inv_drop I' upd_same
      have fp0 := ItX.inv_fp I' (a := it) upd_same (Nat.le_trans hy (Nat.le_of_lt hab))
      rw [ItX.dropH_upd hn] at Id fp0
      have hni : H it = none := by rw [upd_ne (Ne.symm hiq)] at hn; exact hn
      have hfp : ∀ l, FpOk X pins (upd H q (.lst l)) it := fun l => ⟨by rw [upd_ne (Ne.symm hiq)]; exact hni, fp0.2⟩
      have hsq : ∀ l, SqL X.K (upd H q (.lst l)) t zs := fun l => SqL.of (ht' l)
      obtain ⟨mA', J', _⟩ := ins_get Id.hok ha'
      obtain ⟨od', J', _⟩ := J'.look
      have loop : ∀ s, Inv X pins σ (upd H q (.lst [])) s → s.heap.IsListIter it t 0 → codeAny (model X.prog X.w) A1 (.builtin "list.extend.loop" ⟨[.ref q, .ref it, .none], []⟩) Rs s := fun s I hit =>
        itLs_loop hh hiq hiT hfp hsq hz hdone zs.length 0 s (by simp) (by simpa using I) hit
      obtain ⟨z, its, k, r3, hl3, e3⟩ := Id.lstM upd_same
      cases r3
      refine wpAny_ite_split (fun _ => ?_) (fun _ => wpAny_pure ⟨plainId_quiet PySem.F.plain_extend_loop _, loop s' Id hit⟩)
      refine wpAny_bind (wpAny_rule ?_)
      refine wpAny_bind ?_
      show wpAny _ _ (updateSeq q (·.push .none) >>= fun _ => updateSeq q (·.pop)) _ _ _
      refine wpAny_bind (wpAny_updateSeq e3 rfl ?_)
      have I2 := Id.lset (f := (·.push Value.none)) (its' := [Value.none]) (ys := [.non]) (t' := s'.toks) upd_same e3 (by simp) (.cons rfl .nil) (by rw [List.length_singleton, sizeLine_eq]; decide)
      obtain ⟨z4, its4, k4, r4, hl4, e4⟩ := I2.lstM upd_same
      obtain ⟨u4, rfl, ru4⟩ := r4.one
      refine wpAny_updateSeq e4 rfl ?_ (by show 1 ≤ sizeLine; rw [sizeLine_eq]; decide) (by show 0 ≤ sizeLine + 1; exact Nat.zero_le _)
      have I3 := I2.lset (f := (·.pop)) (its := [u4]) (its' := []) (ys := []) (t' := s'.toks) upd_same e4 (by rfl) .nil (Nat.zero_le _)
      rw [upd_upd, upd_upd] at I3
      refine wpAny_pure ⟨plainId_quiet PySem.F.plain_extend_loop _, loop _ I3 ?_⟩
      exact Heap.IsListIter.extBut (Heap.IsListIter.extBut hit (Heap.SameBut.update ..).extBut (Ne.symm hiq)) (Heap.SameBut.update ..).extBut (Ne.symm hiq)
def rListItL (C : Addr) (F : Str) : List V → Hp → VK → Prop := fun xs H Q => ∃ (a dx : Addr) (fs : List (Str × V)) (t : Addr) (zs : List V), xs = [.ref a] ∧ H a = some (.ins C dx fs) ∧ fs.lookup F = some (.ref t) ∧ H t = some (.lst zs) ∧ zs.length ≤ sizeLine ∧ ∀ q, H q = none → Q (.ref q) (upd H q (.lst zs))
theorem call_listItL (hk : X.calm = true) (hc : ItC2 X.K C fi fl) (c : Cls X.K C) (na : NoAttr X.K C F) (FI : FnOk X.prog X.w X.K X.mg X.base (VL.CXv X.mg X.prog X.w) n fi fdI ["self"] (spItL X.K F)) (bI : Binds X.K fdI ["self"] []) (FL : FnOk X.prog X.w X.K X.mg X.base (VL.CXv X.mg X.prog X.w) n fl fdL ["self"] (spLn X.K F)) (bL : Binds X.K fdL ["self"] []) (hr : Room (n + 3) X.A) : CallR X (.type "list") (rListItL C F) := by
  intro pins s σ H xs us Q I rv h
  obtain ⟨a, dx, fs, t, zs, rfl, ha, hl, ht, hz, hq⟩ := h
  obtain ⟨u, rfl, ru⟩ := rv.one
  cases ru
  have sb : Sub X (n + 1) X.A.in1.in1 := (Sub.in1 (Sub.in1 (⟨hr, rfl⟩ : Sub X (n + 3) X.A)))
  refine callType_codes (Q₁ := fun obj s₁ => obj = .ref s.heap.objs.size ∧ s₁ = { s with heap := s.heap.push { cls := .type "list", data := .seq #[] } }) PySem.F.called_list (PySem.F.typeCall_list_1 _) PySem.F.entry_list_init
    (code_list_new _ ⟨rfl, rfl⟩) fun obj s₁ h₁ => ?_
  obtain ⟨rfl, rfl⟩ := h₁
  have hS : (s.heap.push { cls := .type "list", data := .seq #[] }).get? s.heap.objs.size = some { cls := .type "list", data := .seq #[] } := Heap.get?_push_size _ rfl
  refine ⟨⟨_, hS, rfl⟩, PySem.F.args_list_init_2 _ _, ?_⟩
  have fr : H s.heap.objs.size = none := I.hok.fresh (Nat.le_refl _)
  have I1 : Inv X pins σ (upd H s.heap.objs.size (.lst [])) { s with heap := s.heap.push { cls := .type "list", data := .seq #[] } } := I.lnew (its := []) (t' := s.toks) .nil (Nat.zero_le _)
  show wpAny _ _ (do let old ← Builtin.List.listItems (.ref s.heap.objs.size); Builtin.List.listUpdate (.ref s.heap.objs.size) (fun _ => #[]); letGo old.toList.reverse; Builtin.List.listExtendWith (.ref s.heap.objs.size) (.ref a) .none) _ _ _
  refine wpAny_bind ?_
  unfold Builtin.List.listItems
  refine wpAny_bind (wpAny_seqItems hS rfl (wpAny_pure ?_))
  show wpAny _ _ (updateSeq s.heap.objs.size (fun _ => #[]) >>= fun _ => letGo (#[] : Array Value).toList.reverse >>= fun _ => Builtin.List.listExtendWith (.ref s.heap.objs.size) (.ref a) .none) _ _ _
  refine wpAny_bind (wpAny_updateSeq hS rfl ?_)
  have I2 := I1.lset (f := fun _ => #[]) (its := []) (its' := []) (ys := []) (t' := s.toks) upd_same hS rfl .nil (Nat.zero_le _)
  rw [upd_upd] at I2
  refine wpAny_bind (wpAny_letGo ?_)
  exact it_extendL (A1 := X.A.in1) (Rs := wants (fun r s₂ => r = .none ∧ EP X pins σ Q (.ref s.heap.objs.size) s₂) X.xe) sb (I.ok.hd hk) hc c na FI bI FL bL hz
    (fun s' I' => ⟨rfl, .ref s.heap.objs.size, _, I', rfl, hq _ fr⟩) I.sz fr I2 ha hl ht
end
end L2
namespace VL
open PySem PySem.Spec PyProof.Rows L2
def OkItL (P : Program) (w : World) (K : PySem.W.Frag) (mg : Str → Option Value) (base : Heap) (C F : String) (k : Nat) : Prop :=
  ∃ Ca fi fl fd fdl, mg (Str.ofString C) = some (.ref Ca) ∧ Cls K Ca ∧ NoAttr K Ca (Str.ofString F) ∧ ItC2 K Ca fi fl ∧ (Binds K fd ["self"] [] ∧ FnOk P w K mg base (CXv mg P w) k fi fd ["self"] (spItL K (Str.ofString F))) ∧ Binds K fdl ["self"] [] ∧ FnOk P w K mg base (CXv mg P w) k fl fdl ["self"] (spLn K (Str.ofString F))
def lstAt (C F : String) (o : O) : Option (Kd × List D) := match o with
  | .lf k (.obj C' fs ds) => if C' == C then (match lkD (Str.ofString F) (fs.map Str.ofString) ds with
    | some (.lst xs) => if szOk xs.length then some (k, xs) else none
    | _ => none) else none
  | _ => none
def gListL (C F : String) (o : O) : R O := match lstAt C F o with
  | some q => .ok (.lst (q.2.map (lfk q.1)))
  | none => .no
def gLenL (C F : String) (o : O) : R O := match lstAt C F o with
  | some q => .ok (.lf .fz (.int q.2.length))
  | none => .no
theorem lstAt_rep {w : Wd} {H : Hp} {C F : String} {o : O} {v : V} {G : Addr → Prop} {k : Kd} {xs : List D} (e : lstAt C F o = some (k, xs)) (p : RepO w H o v G) : ∃ a Ca dx kvs t zs, v = .ref a ∧ w.cl.b.at_ C = some Ca ∧ H a = some (.ins Ca dx kvs) ∧ kvs.lookup (Str.ofString F) = some (.ref t) ∧ H t = some (.lst zs) ∧ Reps w.cl H (w.S k) xs zs ∧ zs.length ≤ sizeLine := by
  unfold lstAt at e
  split at e
  · split at e
    · rename_i hCC
      split at e
      · rename_i ys ex
        split at e
        · rename_i hz
          cases e
          cases (beq_iff_eq.mp hCC)
          simp only [RepO, Rep] at p
          obtain ⟨a', Ca', dx, kvs, rfl, sa, hC', hH, hk, hr'⟩ := p
          obtain ⟨v, lv, rd⟩ := lkD_rep hk hr' ex
          simp only [Rep] at rd
          obtain ⟨t, zs, rfl, st, ht, rz⟩ := rd
          exact ⟨a', Ca', dx, kvs, t, zs, rfl, hC', hH, lv, ht, rz, by rw [Reps.length rz]; exact szOk_le hz⟩
        · cases e
      · cases e
    · cases e
  · cases e
section
variable {X : Cx} {a : Expr} {ma : DEnv → R O} {pos q : Pos}
theorem ve_listOL {k : Nat} (C F : String) (T : OkItL X.prog X.w X.K X.mg X.base C F k) (hr : Room (k + 3) X.A) (hcm : X.calm = true) (hm : X.mg "list" = none) (ha : VE X a ma) (hg : Gl X "list" := by rfl) (hst : starEach [a] X.env = (false, eval a X.env) :: starEach [] X.env := by rfl) : VE X (.Call (.Name "list" q) [a] [] pos) (eN (f1 (gListL C F)) (aCons ma aNil)) := by
  obtain ⟨Ca, fi, fl, fd, fdl, hC, c, na, hI, ⟨hb, FI⟩, hbl, FL⟩ := T
  refine ve_callTy (call_listItL hcm hI c na FI hb FL hbl hr) (opN_1 fun w W σ H0 H o v F1 Q hc s p f h => ?_) hm (by decide +kernel) (va_cons ha va_nil hst) hg (by decide) (by decide) hst
  unfold gListL at h
  split at h
  · rename_i z e
    obtain ⟨a', Ca', dx, kvs, t, zs, rfl, hC', hH, lv, ht, rz, hz⟩ := lstAt_rep (k := z.1) (xs := z.2) e p
    have := clM_at hc hC'
    rw [hC] at this
    cases this
    exact ⟨a', dx, kvs, t, zs, rfl, hH, lv, ht, hz, fun q nq => new_lst (F := fun _ => False) s (RepOs.leafs rz) (fun _ z => z.elim) h nq⟩
  · exact h.elim
theorem call_lenO {C fi fl : Addr} {F : Str} {fdl : FuncData} {n : Nat} (hI : ItC2 X.K C fi fl) (c : Cls X.K C) (na : NoAttr X.K C F) (FL : FnOk X.prog X.w X.K X.mg X.base (CXv X.mg X.prog X.w) n fl fdl ["self"] (spLn X.K F)) (bL : Binds X.K fdl ["self"] []) (hr : Room (n + 1) X.A) :
    CallR X (.builtin "len") (fun xs H Q => ∃ (b dx : Addr) (fs : List (Str × V)) (t : Addr) (zs : List V), xs = [.ref b] ∧ H b = some (.ins C dx fs) ∧ fs.lookup F = some (.ref t) ∧ H t = some (.lst zs) ∧ zs.length ≤ sizeLine ∧ Q (.int zs.length) H) := by
  intro pins s σ H xs us Q I rv h
  obtain ⟨b, dx, fs, t, zs, rfl, hb, hl, ht, hz, hq⟩ := h
  obtain ⟨u, rfl, ru⟩ := rv.one
  cases ru
  exact len_own (L2.Sub.in1 (⟨hr, rfl⟩ : L2.Sub X (n + 1) X.A)) hI c na FL bL I hb hl ht hz fun u s' I' => ⟨.int zs.length, H, I', ⟨_, rfl⟩, hq⟩
theorem ve_lenO {k : Nat} (C F : String) (T : OkItL X.prog X.w X.K X.mg X.base C F k) (hr : Room (k + 1) X.A) (hm : X.mg "len" = none) (ha : VE X a ma) (hg : Gl X "len" := by rfl) (hst : starEach [a] X.env = (false, eval a X.env) :: starEach [] X.env := by rfl) : VE X (.Call (.Name "len" q) [a] [] pos) (eN (f1 (gLenL C F)) (aCons ma aNil)) := by
  obtain ⟨Ca, fi, fl, fd, fdl, hC, c, na, hI, ⟨hb, FI⟩, hbl, FL⟩ := T
  refine ve_callB (call_lenO hI c na FL hbl hr) (opN_1 fun w W σ H0 H o v F1 Q hc s p f h => ?_) hm PySem.boot_len (va_cons ha va_nil hst) hg (by decide) (by decide) hst
  unfold gLenL at h
  split at h
  · rename_i z e
    obtain ⟨a', Ca', dx, kvs, t, zs, rfl, hC', hH, lv, ht, rz, hz⟩ := lstAt_rep (k := z.1) (xs := z.2) e p
    have := clM_at hc hC'
    rw [hC] at this
    cases this
    refine ⟨a', dx, kvs, t, zs, rfl, hH, lv, ht, hz, ?_⟩
    rw [Reps.length rz]
    exact out_int h
  · exact h.elim
end
def FnItL (K : PySem.W.Frag) (mg : Str → Option Value) (C F : String) (q1 : Str) (s1 : Stmt) (q2 : Str) (s2 : Stmt) : Prop := ∃ Ca f fd g gd, mg (Str.ofString C) = some (.ref Ca) ∧ Cls K Ca ∧ NoAttr K Ca (Str.ofString F) ∧ ItC2 K Ca f g ∧ (Fun K "__iter__" q1 s1 f fd ∧ Binds K fd ["self"] []) ∧ Fun K "__len__" q2 s2 g gd ∧ Binds K gd ["self"] []
theorem FnItL.ok {P : Program} {w : World} {K : PySem.W.Frag} {mg : Str → Option Value} {base : Heap} {C F : String} {q1 q2 : Str} {s1 s2 : Stmt} (T : FnItL K mg C F q1 s1 q2 s2) (S1 : FnScope ["self"] ["self"] (defScope s1)) (S2 : FnScope ["self"] ["self"] (defScope s2))
    (h1 : ∀ (f : Addr) (cdv : Value) (A : Around) (outer : List Env) (s : Shared) (H : Hp) (E : XK), PSs (cxOf (CXv mg P w) P w K mg base ["self"] q1 (defScope s1) f cdv A outer s H E) (defBody s1) (sItL K (Str.ofString F) 0))
    (h2 : ∀ (f : Addr) (cdv : Value) (A : Around) (outer : List Env) (s : Shared) (H : Hp) (E : XK), PSs (cxOf (CXv mg P w) P w K mg base ["self"] q2 (defScope s2) f cdv A outer s H E) (defBody s2) (sLn K (Str.ofString F) 0)) : OkItL P w K mg base C F 1 := by
  obtain ⟨Ca, f, fd, g, gd, hm, c, na, I, ⟨F1, b1⟩, F2, b2⟩ := T
  refine ⟨Ca, f, g, fd, gd, hm, c, na, I, ⟨b1, okC (k := 0) F1 S1 (fun vs H Q E h => ?_) (fun cdv A outer s H vs Q E hr h => ?_)⟩, b2, okC (k := 0) F2 S2 (fun vs H Q E h => ?_) (fun cdv A outer s H vs Q E hr h => ?_)⟩
  · obtain ⟨a, _, _, _, _, _, rfl, _⟩ := h
    rfl
  · obtain ⟨a, C', dx, fs, t, zs, rfl, hH, c', n', hl, hs, q⟩ := h
    exact ⟨sItL K (Str.ofString F) 0, h1 f cdv A outer s H E, a, C', dx, fs, t, zs, rfl, hH, c', n', hl, hs, q⟩
  · obtain ⟨a, _, _, _, _, _, rfl, _⟩ := h
    rfl
  · obtain ⟨a, C', dx, fs, t, zs, rfl, hH, c', n', hl, hs, q⟩ := h
    exact ⟨sLn K (Str.ofString F) 0, h2 g cdv A outer s H E, a, C', dx, fs, t, zs, rfl, hH, c', n', hl, hs, q⟩
def itLB (K : PySem.W.Frag) (Ca f g : Addr) : Bool := decide (PySem.W.findIn K (.ref Ca) "__iter__" = some (some (.ref f))) && PySem.W.isFn K (.ref f) && decide (PySem.W.findIn K (.ref Ca) "__len__" = some (some (.ref g))) && PySem.W.isFn K (.ref g) && PySem.W.keepIn K (.ref f) && PySem.W.keepIn K (.ref g)
theorem fnItL_of {K : PySem.W.Frag} {mg : Str → Option Value} {C F : String} {q1 q2 : Str} {s1 s2 : Stmt} {Ca f g : Addr} {oc kV dc pm cd ct oc' kV' dc' pm' cd' ct' : Value} {od an od' an' : Option Addr} {sl sl' : Array (Option Value)} (hm : mg (Str.ofString C) = some (.ref Ca)) (hc : Cls K Ca) (na : NoAttr K Ca (Str.ofString F)) (hme : itLB K Ca f g = true)
    (l : K.lookup f = some ⟨oc, od, .func (PySem.W.fnOf "__iter__" q1 (defArgs s1) (defBody s1) (defScope s1) .none kV dc pm an cd ct), sl⟩) (c : PySem.W.codeIn K cd q1 = true)
    (hb : ∀ (kV doc pm : Value) (an : Option Addr) (cdv ct : Value) (us : List Value), us.length = (["self"] : List Str).length → bindArgs (PySem.W.fnOf "__iter__" q1 (defArgs s1) (defBody s1) (defScope s1) .none kV doc pm an cdv ct) ⟨us, []⟩ = pure ((["self"] : List Str).zip us))
    (l' : K.lookup g = some ⟨oc', od', .func (PySem.W.fnOf "__len__" q2 (defArgs s2) (defBody s2) (defScope s2) .none kV' dc' pm' an' cd' ct'), sl'⟩) (c' : PySem.W.codeIn K cd' q2 = true)
    (hb' : ∀ (kV doc pm : Value) (an : Option Addr) (cdv ct : Value) (us : List Value), us.length = (["self"] : List Str).length → bindArgs (PySem.W.fnOf "__len__" q2 (defArgs s2) (defBody s2) (defScope s2) .none kV doc pm an cdv ct) ⟨us, []⟩ = pure ((["self"] : List Str).zip us)) : FnItL K mg C F q1 s1 q2 s2 := by
  unfold itLB at hme
  simp only [Bool.and_eq_true, decide_eq_true_eq] at hme
  obtain ⟨⟨⟨⟨⟨h1, h2⟩, h3⟩, h4⟩, h5⟩, h6⟩ := hme
  exact ⟨Ca, f, _, g, _, hm, hc, na, ⟨h1, h2, h3, h4⟩, ⟨fun_mk l c h5, (fun_mk l c h5).binds hb⟩, fun_mk l' c' h6, (fun_mk l' c' h6).binds hb'⟩
end VL
namespace VL
open PySem PySem.Spec PyProof.Rows L2
section
variable {P : Program} {w : World} {K : PySem.W.Frag} {mg : Str → Option Value} {base : Heap} {C mn : String} {x kw qual : Str} {st : Stmt} {N ps : List Str} {k j : Nat} {pi : List Nat} {m : VEnv → RS} {dv : V}
theorem FnT.okW (T : FnT K mg x st ps) (S : FnScope N ps (defScope st))
    (hb : ∀ (f : Addr) (cdv : Value) (A : Around) (outer : List Env) (s : Shared) (H : Hp) (E : XK), Room k (A.deeper (envOfC x (defScope st) s.heap.objs.size f cdv)) → VB (cxOf (CXv mg P w) P w K mg base N x (defScope st) f cdv A outer s H E) pi (defBody st) m) : OkFW P w K mg base x N ps pi m (k + 1) := by
  obtain ⟨f, fd, hm, F, hbn⟩ := T
  exact ⟨f, fd, hm, F.kp, hbn, fn_v F S (hb f)⟩
theorem FnM.okW (T : FnM K mg C mn qual st ps) (S : FnScope N ps (defScope st))
    (hb : ∀ (f : Addr) (cdv : Value) (A : Around) (outer : List Env) (s : Shared) (H : Hp) (E : XK), Room k (A.deeper (envOfC qual (defScope st) s.heap.objs.size f cdv)) → VB (cxOf (CXv mg P w) P w K mg base N qual (defScope st) f cdv A outer s H E) pi (defBody st) m) : OkMW P w K mg base C mn N ps pi m (k + 1) := by
  obtain ⟨Ca, f, fd, hm, c, M, F, hbn⟩ := T
  exact ⟨Ca, f, fd, hm, c, M, hbn, fn_v F S (hb f)⟩
def FnMK (K : PySem.W.Frag) (mg : Str → Option Value) (C mn : String) (qual : Str) (st : Stmt) (ps : List Str) (kw : Str) (dv : V) (j : Nat) : Prop := ∃ Ca f fd, mg (Str.ofString C) = some (.ref Ca) ∧ Cls K Ca ∧ Meth K Ca (Str.ofString mn) f ∧ Fun K (Str.ofString mn) qual st f fd ∧ (∃ ds, Vals [dv] ds ∧ Binds K fd ps ds) ∧ KBn K fd ps (j + 1) [kw] (fun us ws => us ++ ws) (fun vs zs => vs ++ zs)
theorem FnMK.ok (T : FnMK K mg C mn qual st ps kw dv j) (S : FnScope N ps (defScope st))
    (hb : ∀ (f : Addr) (cdv : Value) (A : Around) (outer : List Env) (s : Shared) (H : Hp) (E : XK), Room k (A.deeper (envOfC qual (defScope st) s.heap.objs.size f cdv)) → VB (cxOf (CXv mg P w) P w K mg base N qual (defScope st) f cdv A outer s H E) pi (defBody st) m) : OkMK P w K mg base C mn N ps kw dv j pi m (k + 1) := by
  obtain ⟨Ca, f, fd, hm, c, M, F, hd, hbn⟩ := T
  exact ⟨Ca, f, fd, hm, c, M, hd, hbn, fn_v F S (hb f)⟩
theorem fnMK_of {Ca f Dk : Addr} {oc u dc pm cd ct : Value} {od an : Option Addr} {sl : Array (Option Value)} (hm : mg (Str.ofString C) = some (.ref Ca)) (hc : Cls K Ca) (hme : methB K Ca f mn = true) (hx : x = Str.ofString mn)
    (l : K.lookup f = some ⟨oc, od, .func (PySem.W.fnOf x qual (defArgs st) (defBody st) (defScope st) .none (.ref Dk) dc pm an cd ct), sl⟩) (c : PySem.W.codeIn K cd qual = true) (q : PySem.W.nsIn K Dk kw = some (some u)) (r : RelV dv u)
    (hj : j + 2 = ps.length)
    (h0 : ∀ (D : Addr) (doc pm : Value) (an : Option Addr) (cdv ct : Value) (us ks : List Value), us.length = j + 1 → ks.length = 1 →
      KwChain D ([kw].zip ks) (bindArgs (PySem.W.fnOf x qual (defArgs st) (defBody st) (defScope st) .none (.ref D) doc pm an cdv ct) ⟨us, []⟩) (ps.zip (us ++ ks)))
    (h1 : ∀ (D : Addr) (doc pm : Value) (an : Option Addr) (cdv ct : Value) (us ws : List Value), us.length = j + 1 → ws.length = 1 →
      bindArgs (PySem.W.fnOf x qual (defArgs st) (defBody st) (defScope st) .none (.ref D) doc pm an cdv ct) ⟨us, [kw].zip ws⟩ = pure (ps.zip (us ++ ws))) : FnMK K mg C mn qual st ps kw dv j := by
  have M := meth_of hme
  have F : FunD K x qual (defArgs st) (defBody st) (defScope st) [] [(kw, dv)] f (PySem.W.fnOf x qual (defArgs st) (defBody st) (defScope st) .none (.ref Dk) dc pm an cd ct) :=
    ⟨⟨oc, od, .none, .ref Dk, dc, pm, an, cd, ct, sl, rfl, l, c, .inl ⟨rfl, rfl⟩, .inr ⟨Dk, rfl, fun q' hq => by
      have e : q' = (kw, dv) := by simpa using hq
      subst e
      exact ⟨u, q, r⟩⟩⟩, M.kp⟩
  obtain ⟨ds, v1, b1⟩ := F.binds0 (ps := ps) (j + 1) (by simp) (by simp; omega) (fun D doc pm an cdv ct us ks e1 e2 => h0 D doc pm an cdv ct us ks e1 e2)
  obtain ⟨mv, b2⟩ := F.kbinds0 (ps := ps) (j + 1) [kw] [] (fun us _ ws => us ++ ws) (by simp) (fun _ hq => by cases hq) (fun r1 _ r3 => r1.append r3) (fun D doc pm an cdv ct us mv ws e1 _ e3 => h1 D doc pm an cdv ct us ws e1 e3)
  subst hx
  exact ⟨Ca, f, _, hm, hc, M, fun_mk l c M.kp, ⟨ds, v1, b1⟩, b2⟩
end
end VL
namespace VL
open PySem PySem.Spec PyProof.Rows L2
def ixF (k : Str) : List Str → Option Nat
  | [] => none
  | g :: r => if k == g then some 0 else (ixF k r).map (· + 1)
theorem ixF_lookup {k : Str} : ∀ {kvs : List (Str × V)} {n : Nat}, ixF k (kvs.map (·.1)) = some n → ∃ u, kvs.lookup k = some u ∧ (kvs.map (·.2))[n]? = some u
  | [], n, h => by cases h
  | (g, x) :: r, n, h => by
    simp only [List.map_cons, ixF] at h
    rw [List.lookup_cons]
    split at h
    · rename_i q
      cases h
      rw [q]
      exact ⟨x, rfl, rfl⟩
    · rename_i q
      cases e : ixF k (r.map (·.1)) with
      | none => rw [e] at h; cases h
      | some m =>
        rw [e] at h
        cases h
        obtain ⟨u, h1, h2⟩ := ixF_lookup e
        have q' : (k == g) = false := by simpa using q
        rw [q']
        exact ⟨u, h1, by simpa using h2⟩
theorem walkV_app {H : Hp} {n : Nat} : ∀ {p : List Nat} {v w : V}, walkV H v p = some w → walkV H v (p ++ [n]) = kidV H w n
  | [], v, w, h => by
    cases h
    show (kidV H v n).bind (fun k => walkV H k []) = _
    cases kidV H v n <;> rfl
  | m :: p, v, w, h => by
    simp only [walkV, List.cons_append] at h ⊢
    cases e : kidV H v m with
    | none => rw [e] at h; cases h
    | some k => rw [e] at h; exact walkV_app (p := p) h
def pFld (E : Errs) (f : String) (mp : VEnv → Option (Nat × List Nat)) : VEnv → Option (Nat × List Nat) := fun env => match mp env with
  | some (i, p) => (match getP env i p with
    | some (.obj C fs _) => if E.fl C f then (ixF (Str.ofString f) (fs.map Str.ofString)).map fun n => (i, p ++ [n]) else none
    | _ => none)
  | none => none
section
variable {X : Cx} {P : List Nat} {E : Errs} {a : Expr} {mp : VEnv → Option (Nat × List Nat)} {pos : Pos} {x : Str}
theorem vp_fld (f : String) (hE : ClsO X.K X.mg E) (ha : VP X P a mp) (hx : x = Str.ofString f := by rfl) (hb : attributeBase a x X.env (eval a X.env) = eval a X.env := by rfl) : VP X P (.Attribute a x pos) (pFld E f mp) := fun W tk fr hf => (pe_fld (ha W tk fr hf) hb).imp fun σ H Q h => by
  subst hx
  obtain ⟨Z, Fs, env, g, h⟩ := h
  refine ⟨Z, Fs, env, g, ?_⟩
  unfold pFld at h
  cases em : mp env with
  | none => rw [em] at h; exact h
  | some q =>
    obtain ⟨i, p⟩ := q
    rw [em] at h
    simp only at h ⊢
    intro v0 v H1 ev s1 ew
    split at h
    · rename_i i' p' e
      split at e
      · rename_i C fs os eg
        split at e
        · rename_i hC
          cases en : ixF (Str.ofString f) (fs.map Str.ofString) with
          | none => rw [en] at e; cases e
          | some n =>
            rw [en] at e
            cases e
            have g1 := g.same s1
            obtain ⟨v0', vs, Fp, ev', ew', hs, _, _⟩ := g1.place eg
            rw [ev] at ev'; cases ev'
            rw [ew] at ew'; cases ew'
            simp only [RepO] at hs
            obtain ⟨a', Ca, dx, kvs, G', rfl, hC', hH, hk, fa, ga, sg, hr⟩ := hs
            obtain ⟨pC, hp, rfl, hfl⟩ := Errs.fl_ hC
            obtain ⟨c, no⟩ := hE.one pC hp Ca (clM_at hf.1 hC')
            rw [← hk] at en
            obtain ⟨u, lu, uu⟩ := ixF_lookup en
            refine ⟨a', Ca, dx, kvs, u, rfl, hH, c, no f hfl, lu, h v0 u H1 ev s1 ?_⟩
            rw [walkV_app ew]
            show (match H1 a' with
              | some (.lst xs) => xs[n]?
              | some (.tup xs) => xs[n]?
              | some (.dK kvs) => (kvs.map (·.2))[n]?
              | some (.dT kvs) => (kvs.map (·.2))[n]?
              | some (.ins _ _ kvs) => (kvs.map (·.2))[n]?
              | _ => none) = some u
            rw [hH]
            exact uu
        · cases e
      · cases e
    · exact h.elim
end
end VL
namespace VL
open PySem PySem.Spec PyProof.Rows L2
def liftT (t : DEnv → R Bool) : VEnv → RX Bool := fun env => match t (dl env) with
  | .ok b => .ok b env
  | .ex x => if O.nos isTb x.xs then .ex x env else .no
  | .no => .no
def truX (mx : VEnv → RX O) : VEnv → RX Bool := fun env => match mx env with
  | .ok o e => (match truD o.er with
    | some b => .ok b e
    | none => .no)
  | .ex x e => .ex x e
  | .no => .no
def notX (m : VEnv → RX Bool) : VEnv → RX Bool := fun env => match m env with
  | .ok b e => .ok (!b) e
  | .ex x e => .ex x e
  | .no => .no
def orX (m m' : VEnv → RX Bool) : VEnv → RX Bool := fun env => match m env with
  | .ok b e => if b then .ok true e else m' e
  | .ex x e => .ex x e
  | .no => .no
def andX (m m' : VEnv → RX Bool) : VEnv → RX Bool := fun env => match m env with
  | .ok b e => if b then m' e else .ok false e
  | .ex x e => .ex x e
  | .no => .no
section
variable {X : Cx} {P : List Nat} {a b e : Expr} {rest : List Expr} {t : DEnv → R Bool} {mx : VEnv → RX O} {mA mB : VEnv → RX Bool} {pos : Pos} {m1 m2 : VEnv → RS} {sa sb : List Stmt}
end
end VL
namespace VL
open PySem PySem.Spec PyProof.Rows L2
section
variable {X : Cx} {kx vx : Expr} {mk mv : DEnv → R O} {pos : Pos}
end
end VL
namespace VL
open PySem PySem.Spec PyProof.Rows L2
section
variable {X : Cx} {P : List Nat} {a b : Expr} {mx : VEnv → RX O} {mb : DEnv → R O} {pos : Pos}
def bolX (mx : VEnv → RX O) : VEnv → RX Bool := fun env => match mx env with
  | .ok o e => (match o.er with
    | .bl b => .ok b e
    | _ => .no)
  | .ex x e => .ex x e
  | .no => .no
end
end VL
namespace VL
open PySem PySem.Spec PyProof.Rows L2
def Fm.hid (f : Fm) (j : Nat) (v : V) (Z : Addr → Prop) (Fs : Nat → Addr → Prop) (H1 : Hp) : Fm := { f with H0 := H1, F0 := fun a => ∃ i, i ≠ j ∧ Fs i a, Z0 := Z, pin := (j, v) :: f.pin }
theorem NT.nt {o : Option HO} {u : HO} (h : NT o) (e : o = some u) : nTb u := by
  obtain ⟨u', e', n⟩ := h
  rw [e] at e'; cases e'; exact n.nTb
section
variable {f : Fm} {Z Z2 : Addr → Prop} {Fs Fs2 : Nat → Addr → Prop} {env env2 : VEnv} {σ σ2 : L2.St} {H H2 : Hp} {j : Nat} {o o' : O} {v v' : V} {F : Addr → Prop}
theorem free_of (g : GoodAt f Z Fs env σ H) {a : Addr} (n : H a = none) : f.H0 a = none := by
  cases e : f.H0 a with
  | none => rfl
  | some u => exact absurd n (g.there.1 a (by rw [e]; exact fun q => nomatch q))
end
section
variable {X : Cx} {P : List Nat} {body : List Stmt} {m : VEnv → RS} {pos : Pos}
end
end VL
namespace VL
open PySem PySem.Spec PyProof.Rows L2
def pIx (mp : VEnv → Option (Nat × List Nat)) (mi : DEnv → R O) : VEnv → Option (Nat × List Nat) := fun env => match mp env with
  | some (i, p) => (match getP env i p, mi (dl env) with
    | some (.lst os), .ok oi => (match oi.er with
      | .int k => (ixN os.length k).map fun n => (i, p ++ [n])
      | _ => none)
    | _, _ => none)
  | none => none
section
variable {X : Cx} {P : List Nat} {a b : Expr} {mp : VEnv → Option (Nat × List Nat)} {mb : DEnv → R O} {pos : Pos}
theorem vp_ix (ha : VP X P a mp) (hb : VE X b mb) (hs : PlainIx b := by exact fun _ _ => rfl) : VP X P (.Subscript a b pos) (pIx mp mb) := fun W tk fr hf => (pe_ix ix_seq (ha W tk fr hf) (hb.ef tk hf) hs).imp fun σ H Q h => by
  obtain ⟨Z, Fs, env, g, h⟩ := h
  unfold pIx at h
  refine ⟨Z, Fs, env, g, ?_⟩
  cases em : mp env with
  | none => rw [em] at h; exact h
  | some q =>
    obtain ⟨i, p⟩ := q
    rw [em] at h
    simp only at h ⊢
    intro v0 v H1 ev s1 ew
    split at h
    · rename_i i' p' e
      split at e
      · rename_i os oi eg emb
        split at e
        · rename_i k ek
          cases en : ixN os.length k with
          | none => rw [en] at e; cases e
          | some n =>
            rw [en] at e
            cases e
            refine ⟨Z, Fs, rE_of (g.same s1).goodE ?_⟩
            rw [emb]
            intro y H2 F2 s2 r2 f2
            have g2 := (g.same s1).same s2
            obtain ⟨v0', vs, Fp, ev', ew', hs', _, _⟩ := g2.place eg
            rw [ev] at ev'; cases ev'
            have := (walkV_same s2 ew).symm.trans ew'
            cases this
            simp only [RepO] at hs'
            obtain ⟨a', xs, G', rfl, hH, fa, ga, sg, hr⟩ := hs'
            have hlen : xs.length = os.length := RepOs.length hr
            have hn : n < xs.length := by
              rw [hlen]
              exact (ixN_seq en).2.1
            have eu : xs[n]? = some xs[n] := List.getElem?_eq_getElem hn
            have z2 := RepO.at r2
            rw [ek] at z2
            refine .inl ⟨a', xs, k, xs[n], rfl, z2, SqL.of hH, ?_, h v0 xs[n] H2 ev (s1.trans s2) ?_⟩
            · unfold atI
              rw [hlen, en]
              exact eu
            · rw [walkV_app (walkV_same s2 ew)]
              show (match H2 a' with
                | some (.lst xs) => xs[n]?
                | some (.tup xs) => xs[n]?
                | some (.dK kvs) => (kvs.map (·.2))[n]?
                | some (.dT kvs) => (kvs.map (·.2))[n]?
                | some (.ins _ _ kvs) => (kvs.map (·.2))[n]?
                | _ => none) = some xs[n]
              rw [hH]
              exact eu
        · cases e
      · cases e
    · exact h.elim
end
end VL
namespace VL
open PySem PySem.Spec PyProof.Rows L2
section
variable {X : Cx} {P : List Nat} {e a b : Expr} {mp : VEnv → Option (Nat × List Nat)} {ma mb : DEnv → R O} {apos cpos : Pos}
theorem RepOs.ins {w : Wd} {H : Hp} {o : O} {y : V} {F1 : Addr → Prop} (h1 : RepO w H o y F1) : ∀ {os : List O} {vs : List V} {F : Addr → Prop} (k : Nat), RepOs w H os vs F → Disj F F1 → RepOs w H (os.take k ++ [o] ++ os.drop k) (vs.take k ++ [y] ++ vs.drop k) (fun a => F a ∨ F1 a)
  | os, vs, F, 0, h, d => by
    simp only [List.take_zero, List.nil_append, List.drop_zero, List.singleton_append, RepOs]
    exact ⟨y, vs, F1, F, rfl, fun _ z => .inr z, fun _ z => .inl z, fun a z w => d a w z, h1, h⟩
  | [], vs, F, k + 1, h, d => by
    simp only [RepOs] at h
    subst h
    simp only [List.take_nil, List.nil_append, List.drop_nil, List.append_nil, RepOs]
    exact ⟨y, [], F1, fun _ => False, rfl, fun _ z => .inr z, fun _ z => z.elim, fun _ _ z => z, h1, rfl⟩
  | x :: os, vs, F, k + 1, h, d => by
    simp only [RepOs] at h
    obtain ⟨u, r, Fa, Fb, rfl, s1, s2, dd, r1, r2⟩ := h
    have ih := RepOs.ins h1 (os := os) (vs := r) k r2 fun a z => d a (s2 a z)
    simp only [List.take_succ_cons, List.cons_append, List.drop_succ_cons, RepOs]
    exact ⟨u, _, Fa, fun a => Fb a ∨ F1 a, rfl, fun a z => .inl (s1 a z), fun a z => z.imp (s2 a) id, fun a z w => w.elim (dd a z) (d a (s1 a z)), r1, ih⟩
end
end VL
namespace VL
open PySem PySem.Spec PyProof.Rows L2
section
variable {n i j r : Nat} {m m1 m2 : VEnv → RS} {env e e' : VEnv} {Q : Ct → VEnv → Prop} {E : Exn → VEnv → Prop} {P : O → VEnv → Prop} {mA : DEnv → R (List O)} {ma mb : DEnv → R O} {sp : List (Option Nat)} {o h h' : O} {os ps : List O} {x : Exn}
def mK (Q : O → O → Prop) : Ct → VEnv → Prop
  | .next, e => ∃ h', e[0]? = some (some h') ∧ h'.no notFz = true ∧ Q (.lf .fz .non) h'
  | .ret o, e => ∃ h', e[0]? = some (some h') ∧ h'.no notFz = true ∧ o.no notFz = true ∧ Q o h'
  | _, _ => False
def mX (E : Exn → O → Prop) : Exn → VEnv → Prop := fun x e => ∃ h', e[0]? = some (some h') ∧ h'.no notFz = true ∧ O.nos notFz x.xs = true ∧ E x h'
@[simp] theorem mK_next {Q : O → O → Prop} : mK Q .next e ↔ ∃ h', e[0]? = some (some h') ∧ h'.no notFz = true ∧ Q (.lf .fz .non) h' := (Iff.rfl)
@[simp] theorem mK_ret {Q : O → O → Prop} : mK Q (.ret o) e ↔ ∃ h', e[0]? = some (some h') ∧ h'.no notFz = true ∧ o.no notFz = true ∧ Q o h' := (Iff.rfl)
@[simp] theorem mK_brk {Q : O → O → Prop} : mK Q .brk e ↔ False := (Iff.rfl)
@[simp] theorem mK_cont {Q : O → O → Prop} : mK Q .cont e ↔ False := (Iff.rfl)
@[simp] theorem mX_ev {F : Exn → O → Prop} : mX F x e ↔ ∃ h', e[0]? = some (some h') ∧ h'.no notFz = true ∧ O.nos notFz x.xs = true ∧ F x h' := (Iff.rfl)
def outK (sp : List (Option Nat)) (env : VEnv) (P : O → VEnv → Prop) : Ct → VEnv → Prop
  | .next, e' => ∃ e, backW 0 sp e' env = some e ∧ P (.lf .fz .non) e
  | .ret o, e' => ∃ e, backW 0 sp e' env = some e ∧ o.no notFz = true ∧ P o e
  | _, _ => False
def outX (sp : List (Option Nat)) (env : VEnv) (E : Exn → VEnv → Prop) : Exn → VEnv → Prop := fun x e' => ∃ e, backW 0 sp e' env = some e ∧ O.nos notFz x.xs = true ∧ E x e
@[simp] theorem outK_next : outK sp env P .next e' ↔ ∃ e, backW 0 sp e' env = some e ∧ P (.lf .fz .non) e := (Iff.rfl)
@[simp] theorem outK_ret : outK sp env P (.ret o) e' ↔ ∃ e, backW 0 sp e' env = some e ∧ o.no notFz = true ∧ P o e := (Iff.rfl)
@[simp] theorem outK_brk : outK sp env P .brk e' ↔ False := (Iff.rfl)
@[simp] theorem outK_cont : outK sp env P .cont e' ↔ False := (Iff.rfl)
@[simp] theorem outX_ev : outX sp env E x e' ↔ ∃ e, backW 0 sp e' env = some e ∧ O.nos notFz x.xs = true ∧ E x e := (Iff.rfl)
theorem wX_callW : wX (callW n m sp mA env) P E ↔ wR (mA (dl (hideS sp env))) (fun os => ∃ args, argsW sp os env = some args ∧ wS (m (startE n args)) (outK sp env P) (outX sp env E)) (fun x => (O.nos isTb x.xs && lentOk sp env) = true ∧ E x env) := by
  unfold callW
  cases mA (dl (hideS sp env)) with
  | no => simp
  | ex x =>
    simp only [wR_ex]
    split
    · rename_i q; simp only [wX_ex, q, true_and]
    · rename_i q; simp only [wX_no, q, false_and]
      simp
  | ok os =>
    simp only [wR_ok]
    cases argsW sp os env with
    | none => simp
    | some args =>
      simp only [Option.some.injEq, exists_eq_left']
      cases m (startE n args) with
      | no => simp
      | ex x e =>
        simp only [wS_ex, outX_ev]
        cases backW 0 sp e env with
        | none => simp
        | some e2 =>
          simp only [Option.some.injEq, exists_eq_left']
          split
          · rename_i q; simp only [wX_ex, q, true_and]
          · rename_i q; simp only [wX_no, q, false_and]
            simp
      | ok c e =>
        cases c with
        | next =>
          simp only [wS_ok, outK_next]
          cases backW 0 sp e env with
          | none => simp
          | some e2 => simp
        | ret o =>
          simp only [wS_ok, outK_ret]
          cases backW 0 sp e env with
          | none => simp
          | some e2 =>
            simp only [Option.some.injEq, exists_eq_left']
            split
            · rename_i q; simp only [wX_ok, q, true_and]
            · rename_i q; simp only [wX_no, q, false_and]
              simp
        | brk => simp
        | cont => simp
theorem hide_one (hs : sp.all Option.isNone = true) : hideS (some i :: sp) env = env.set i none := by
  unfold hideS
  apply List.ext_getElem?
  intro q
  rw [List.getElem?_mapIdx, List.getElem?_set]
  have hm : ∀ z : Nat, some z ∉ sp := fun z hz => by
    have := List.all_eq_true.mp hs _ hz
    simp at this
  by_cases h : i = q
  · subst h
    rw [if_pos rfl]
    cases e : env[i]? with
    | none =>
      have : ¬ i < env.length := by
        intro q
        rw [List.getElem?_eq_getElem q] at e
        cases e
      rw [if_neg this]; rfl
    | some z =>
      have : i < env.length := by
        by_cases q : i < env.length
        · exact q
        · rw [List.getElem?_eq_none (by omega)] at e; cases e
      rw [if_pos this]
      simp
  · rw [if_neg h]
    cases env[q]? with
    | none => rfl
    | some z =>
      have : some q ∉ some i :: sp := by
        rw [List.mem_cons, not_or]
        exact ⟨fun w => h (by injection w with w; exact w.symm), hm q⟩
      simp [this]
theorem args_none : ∀ {sp : List (Option Nat)} {os : List O}, sp.all Option.isNone = true → os.length = sp.length → argsW sp os env = some (os.map toArg)
  | [], [], _, _ => rfl
  | none :: sp, o :: os, hs, hl => by
    show (argsW sp os env).map (toArg o :: ·) = _
    rw [args_none (sp := sp) (os := os) (by simpa using hs) (by simpa using hl)]; rfl
  | some i :: sp, _, hs, _ => by simp at hs
  | [], _ :: _, _, hl => by simp at hl
  | none :: sp, [], _, hl => by simp at hl
theorem back_none : ∀ {sp : List (Option Nat)} {q : Nat}, sp.all Option.isNone = true → backW q sp e' env = some env
  | [], _, _ => rfl
  | none :: sp, q, hs => back_none (sp := sp) (q := q + 1) (by simpa using hs)
  | some i :: sp, _, hs => by simp at hs
theorem back_one (hs : sp.all Option.isNone = true) (h0 : e'[0]? = some (some h')) (hn : h'.no notFz = true) : backW 0 (some i :: sp) e' env = some (env.set i (some h')) := by
  show (match e'[0]? with
    | some (some o) => if o.no notFz then backW 1 sp e' (env.set i (some o)) else none
    | _ => none) = _
  rw [h0]
  show (if h'.no notFz then backW 1 sp e' (env.set i (some h')) else none) = _
  rw [if_pos hn, back_none hs]
theorem wX_call1 (hs : sp.all Option.isNone = true) (hi : env[i]? = some (some h)) (hn : h.no notFz = true)
    (H : wR (mA (dl (env.set i none))) (fun os => os.length = sp.length ∧ wS (m (startE n (h :: os.map toArg))) (mK fun o h' => P o (env.set i (some h'))) (mX fun x h' => E x (env.set i (some h')))) (fun x => O.nos isTb x.xs = true ∧ E x env)) : wX (callW n m (some i :: sp) mA env) P E := by
  rw [wX_callW, hide_one hs]
  cases hA : mA (dl (env.set i none)) with
  | no => rw [hA] at H; exact (wR_no.mp H).elim
  | ex x =>
    rw [hA] at H
    have H := wR_ex.mp H
    rw [wR_ex]
    refine ⟨?_, H.2⟩
    rw [H.1]
    have hall : lentOk sp env = true := by
      unfold lentOk
      refine List.all_eq_true.mpr fun z hz => ?_
      have := List.all_eq_true.mp hs _ hz
      cases z with
      | none => rfl
      | some z => simp at this
    show (true && ((match env[i]? with
      | some (some _) => true
      | _ => false) && lentOk sp env)) = true
    rw [hi, hall]; rfl
  | ok os =>
    rw [hA] at H
    obtain ⟨hl, H⟩ := wR_ok.mp H
    rw [wR_ok]
    refine ⟨h :: os.map toArg, ?_, ?_⟩
    · show (match env[i]? with
        | some (some o) => if o.no notFz then (argsW sp os env).map (o :: ·) else none
        | _ => none) = _
      rw [hi]
      show (if h.no notFz then (argsW sp os env).map (h :: ·) else none) = _
      rw [if_pos hn, args_none hs hl]; rfl
    · refine wS_mono H (fun c e hc => ?_) (fun x e hx => ?_)
      · cases c with
        | next => obtain ⟨h', h0, hn', q⟩ := hc; exact ⟨_, back_one hs h0 hn', q⟩
        | ret o => obtain ⟨h', h0, hn', q1, q⟩ := hc; exact ⟨_, back_one hs h0 hn', q1, q⟩
        | brk => exact hc
        | cont => exact hc
      · obtain ⟨h', h0, hn', q1, q⟩ := hx
        exact ⟨_, back_one hs h0 hn', q1, q⟩
theorem wX_meth1 {C mn : String} (hs : sp.all Option.isNone = true) (hi : env[i]? = some (some h)) (hC : isObj C mn h = true) (hn : h.no notFz = true)
    (H : wR (mA (dl (env.set i none))) (fun os => os.length = sp.length ∧ wS (m (startE n (h :: os.map toArg))) (mK fun o h' => P o (env.set i (some h'))) (mX fun x h' => E x (env.set i (some h')))) (fun x => O.nos isTb x.xs = true ∧ E x env)) : wX (methW C mn i n m sp mA env) P E := by
  unfold methW
  rw [hi]
  show wX (if isObj C mn h then callW n m (some i :: sp) mA env else .no) P E
  rw [if_pos hC]
  exact wX_call1 hs hi hn H
@[simp] theorem tryGo_nil : wS (tryGo x e []) Q E ↔ badE x.cls = true ∧ E x e := by
  unfold tryGo
  split
  · rename_i q; simp [q]
  · rename_i q; simp [q]
structure wU (r : RX Bool) (Q : Bool → VEnv → Prop) (E : Exn → VEnv → Prop) : Prop where
  out : match r with
    | .ok b e => Q b e
    | .ex x e => E x e
    | .no => False
section
variable {B : Bool → VEnv → Prop} {t t1 t2 : VEnv → RX Bool} {b : Bool} {mx : VEnv → RX O} {td : DEnv → R Bool}
@[simp] theorem wU_ok : wU (.ok b e) B E ↔ B b e := ⟨fun h => h.out, fun h => ⟨h⟩⟩
@[simp] theorem wU_ex : wU (.ex x e) B E ↔ E x e := ⟨fun h => h.out, fun h => ⟨h⟩⟩
@[simp] theorem wU_no : wU .no B E ↔ False := ⟨fun h => h.out, fun h => ⟨h⟩⟩
@[simp] theorem wU_lift : wU (liftT td env) B E ↔ wR (td (dl env)) (fun b => B b env) (fun x => O.nos isTb x.xs = true ∧ E x env) := by
  unfold liftT
  cases td (dl env) with
  | no => simp
  | ok b => simp
  | ex x =>
    simp only [wR_ex]
    split
    · rename_i q; simp only [wU_ex, q, true_and]
    · rename_i q; simp only [wU_no, q, false_and]
      simp
@[simp] theorem wU_tru : wU (truX mx env) B E ↔ wX (mx env) (fun o e => ∃ b, truD o.er = some b ∧ B b e) E := by
  unfold truX
  cases mx env with
  | no => simp
  | ex x e => simp
  | ok o e =>
    simp only [wX_ok]
    cases truD o.er with
    | none => simp
    | some b => simp
@[simp] theorem wU_not : wU (notX t env) B E ↔ wU (t env) (fun b e => B (!b) e) E := by
  unfold notX
  cases t env <;> simp
@[simp] theorem wU_or : wU (orX t1 t2 env) B E ↔ wU (t1 env) (fun b e => if b then B true e else wU (t2 e) B E) E := by
  unfold orX
  cases t1 env with
  | no => simp
  | ex x e => simp
  | ok b e => cases b <;> simp
@[simp] theorem wU_and : wU (andX t1 t2 env) B E ↔ wU (t1 env) (fun b e => if b then wU (t2 e) B E else B false e) E := by
  unfold andX
  cases t1 env with
  | no => simp
  | ex x e => simp
  | ok b e => cases b <;> simp
@[simp] theorem wU_bol : wU (bolX mx env) B E ↔ wX (mx env) (fun o e => ∃ b, o.er = .bl b ∧ B b e) E := by
  unfold bolX
  cases mx env with
  | no => simp
  | ex x e => simp
  | ok o e =>
    simp only [wX_ok]
    cases o.er <;> simp
end
theorem wX_appAt {mp : VEnv → Option (Nat × List Nat)} {p : List Nat} (hp : mp env = some (i, p)) (hg : getP env i p = some (.lst os)) : wX (xApp mp ma env) P E ↔ wR (ma (dl env)) (fun o => o.no isTb = true ∧ os.length + 1 ≤ 16777216 ∧ P (.lf .fz .non) (setP env i p (.lst (os ++ [o])))) (fun x => O.nos isTb x.xs = true ∧ E x env) := by
  unfold xApp
  simp only [hp, hg]
  cases ma (dl env) with
  | no => simp
  | ex x =>
    simp only [wR_ex]
    split
    · rename_i q; simp only [wX_ex, q, true_and]
    · rename_i q; simp only [wX_no, q, false_and]
      simp
  | ok o =>
    simp only [wR_ok, szOk_iff]
    split
    · rename_i q
      simp only [Bool.and_eq_true, decide_eq_true_eq] at q
      simp only [wX_ok, q.1, q.2, true_and]
    · rename_i q
      simp only [wX_no, false_iff]
      intro w
      exact q (by simp only [Bool.and_eq_true, decide_eq_true_eq]; exact ⟨w.1, w.2.1⟩)
theorem gListL_at {C F : String} {k : Kd} {fs : List String} {ds xs : List D} (hl : lkD (Str.ofString F) (fs.map Str.ofString) ds = some (.lst xs)) (hz : xs.length ≤ 16777216) : gListL C F (.lf k (.obj C fs ds)) = .ok (.lst (xs.map (lfk k))) := by
  unfold gListL lstAt
  simp only [beq_self_eq_true, if_true, hl, szOk_iff, hz, decide_true]
theorem gLenL_at {C F : String} {k : Kd} {fs : List String} {ds xs : List D} (hl : lkD (Str.ofString F) (fs.map Str.ofString) ds = some (.lst xs)) (hz : xs.length ≤ 16777216) : gLenL C F (.lf k (.obj C fs ds)) = .ok (oi xs.length) := by
  unfold gLenL lstAt
  simp only [beq_self_eq_true, if_true, hl, szOk_iff, hz, decide_true]
end
@[simp] theorem tS_inj_s {l m : List Nat} : tS l = tS m ↔ l = m := tS_inj
@[simp] theorem kS_inj_s {l m : List Nat} : kS l = kS m ↔ l = m := kS_inj
section
variable {l : List Nat} {ns : List (List Nat)} {k k' : Kd}
theorem inFl_S : inFl (.str (tS l)) (ns.map fun x => D.str (tS x)) = some (decide (l ∈ ns)) := by
  unfold inFl
  have h1 : (ns.map fun x => D.str (tS x)).all D.flat = true := by
    rw [List.all_map]; exact List.all_eq_true.mpr fun _ _ => rfl
  rw [h1]
  show some _ = _
  congr 1
  rw [List.any_map]
  induction ns with
  | nil => rfl
  | cons x r ih =>
    have h2 : (r.map fun x => D.str (tS x)).all D.flat = true := by
      rw [List.all_map]; exact List.all_eq_true.mpr fun _ _ => rfl
    rw [List.any_cons, ih h2]
    show (tS x == tS l || _) = _
    by_cases q : x = l
    · subst q; simp
    · have : ¬ l = x := fun w => q w.symm
      simp [this]
      exact fun w => absurd w q
theorem gIn_Sl {o p : O} (h1 : o.er = .str (tS l)) (h2 : p.er = .lst (ns.map fun x => D.str (tS x))) : gIn o p = .ok (ob (decide (l ∈ ns))) := by
  unfold gIn inD
  rw [h1, h2]
  simp only [inFl_S]
theorem gNIn_Sl {o p : O} (h1 : o.er = .str (tS l)) (h2 : p.er = .lst (ns.map fun x => D.str (tS x))) : gNIn o p = .ok (ob (!decide (l ∈ ns))) := by
  unfold gNIn inD
  rw [h1, h2]
  simp only [inFl_S]
theorem gIn_St {o p : O} (h1 : o.er = .str (tS l)) (h2 : p.er = .tup (ns.map fun x => D.str (tS x))) : gIn o p = .ok (ob (decide (l ∈ ns))) := by
  unfold gIn inD
  rw [h1, h2]
  simp only [inFl_S]
theorem gNIn_St {o p : O} (h1 : o.er = .str (tS l)) (h2 : p.er = .tup (ns.map fun x => D.str (tS x))) : gNIn o p = .ok (ob (!decide (l ∈ ns))) := by
  unfold gNIn inD
  rw [h1, h2]
  simp only [inFl_S]
@[simp] theorem gIn_S1 : gIn (.lf k (.str (tS l))) (.lf k' (.lst (ns.map fun x => D.str (tS x)))) = .ok (ob (decide (l ∈ ns))) := gIn_Sl rfl rfl
@[simp] theorem gIn_S2 : gIn (.lf k (.str (tS l))) (.lst (ns.map fun x => oS x)) = .ok (ob (decide (l ∈ ns))) := gIn_Sl rfl (by simp)
@[simp] theorem gIn_S3 : gIn (.lf k (.str (tS l))) (.lf k' (.tup (ns.map fun x => D.str (tS x)))) = .ok (ob (decide (l ∈ ns))) := gIn_St rfl rfl
@[simp] theorem gNIn_S1 : gNIn (.lf k (.str (tS l))) (.lf k' (.lst (ns.map fun x => D.str (tS x)))) = .ok (ob (!decide (l ∈ ns))) := gNIn_Sl rfl rfl
@[simp] theorem gNIn_S2 : gNIn (.lf k (.str (tS l))) (.lst (ns.map fun x => oS x)) = .ok (ob (!decide (l ∈ ns))) := gNIn_Sl rfl (by simp)
@[simp] theorem gNIn_S3 : gNIn (.lf k (.str (tS l))) (.lf k' (.tup (ns.map fun x => D.str (tS x)))) = .ok (ob (!decide (l ∈ ns))) := gNIn_St rfl rfl
end
@[simp] theorem gSl_scrD {ns : List Int} {lo hi : Option Int} : gSl (scrD ns) lo hi = .ok (.lst ((cutA ns lo hi).map oi)) := by
  show (if D.imms (ns.map D.int) then R.ok (O.lst (cutA ((ns.map D.int).map (O.lf .fz)) lo hi)) else .no) = _
  have : D.imms (ns.map D.int) = true := by simp
  rw [if_pos this, List.map_map, cutA_map]
  rfl
@[simp] theorem nx_obj {C : String} {fs : List String} {os : List O} : (O.obj C fs os).nx = O.nxs os := (rfl)
@[simp] theorem nx_dct {ks : List Key} {os : List O} : (O.dct ks os).nx = O.nxs os := (rfl)
end VL
namespace VL
open PySem PySem.Spec PyProof.Rows L2
section
variable {i n : Nat} {p : List Nat} {env : VEnv} {mp : VEnv → Option (Nat × List Nat)} {P : O → VEnv → Prop} {E : Exn → VEnv → Prop} {Q : Ct → VEnv → Prop} {mi ma me : DEnv → R O} {os : List O} {o : O} {k : Int}
theorem wS_setIxP {oi' : O} (he : me (dl env) = .ok o) (hp : mp env = some (i, p)) (hg : getP env i p = some (.lst os)) (hi : mi (dl env) = .ok oi') (hk : oi'.er = .int k) (hn : ixN os.length k = some n) (hb : o.no isTb = true) : wS (sSetIx me mp mi env) Q E ↔ Q .next (setP env i p (.lst (os.set n o))) := by
  unfold sSetIx
  simp only [he, hp, hg, hi, hk, hn, hb, if_true, wS_ok]
end
end VL
namespace VL
open PySem PySem.Spec PyProof.Rows L2
end VL
namespace VL
open PySem PySem.Spec PyProof.Rows L2
def gDictD (o : O) : R O := match o.er with
  | .dct ks xs => if D.imms xs then .ok (.dct ks (xs.map (O.lf .fz))) else .no
  | _ => .no
section
variable {X : Cx} {a : Expr} {ma : DEnv → R O} {pos : Pos}
end
@[simp] theorem gDictD_S {k : Kd} {ns : List (List Nat)} {vs : List Int} : gDictD (.lf k (dS ns (vs.map D.int))) = .ok (.dct (ns.map kS) (vs.map oi)) := by
  show (if D.imms (vs.map D.int) = true then R.ok (O.dct (ns.map kS) ((vs.map D.int).map (O.lf .fz))) else .no) = _
  have : D.imms (vs.map D.int) = true := by simp
  rw [if_pos this, List.map_map]
  rfl
end VL
namespace VL
open PySem PySem.Spec PyProof.Rows L2
section
variable {X : Cx} {P : List Nat} {a : Expr} {mx : VEnv → RX O} {x : Str} {p apos cpos : Pos}
end
end VL
namespace VL
open PySem PySem.Spec PyProof.Rows L2
def gCntF (x y : O) : R O := match x.er with
  | .lst ds => if y.er.flat && ds.all D.flat then .ok (.lf .fz (.int (ds.countP fun z => eqF z y.er : Nat))) else .no
  | _ => .no
section
variable {X : Cx} {e a : Expr} {ma me : DEnv → R O}
end
theorem countP_tD {l : List Nat} : ∀ {r : List (List Nat)}, (r.map tD).countP (fun z => eqF z (tD l)) = r.count l
  | [] => rfl
  | m :: r => by
    rw [List.map_cons, List.countP_cons, countP_tD, List.count_cons]
    congr 1
    by_cases q : m = l
    · subst q; simp [eqF, tD]
    · have : ¬ tS m = tS l := fun w => q (tS_inj.mp w)
      simp [eqF, tD, q, this]
@[simp] theorem gCntF_S {k k' : Kd} {l : List Nat} {r : List (List Nat)} : gCntF (.lf k (.lst (r.map tD))) (.lf k' (.str (tS l))) = .ok (oi (r.count l : Nat)) := by
  show (if ((tD l).flat && (r.map tD).all D.flat) = true then R.ok (oi ((r.map tD).countP fun z => eqF z (tD l) : Nat)) else .no) = _
  rw [countP_tD, if_pos]
  have : (r.map tD).all D.flat = true := by rw [List.all_map, List.all_eq_true]; intro x _; rfl
  rw [this]; rfl
end VL
namespace VL
open PySem PySem.Spec PyProof.Rows L2
section
variable {n : Nat} {m : VEnv → RS} {env e : VEnv} {P : O → VEnv → Prop} {E : Exn → VEnv → Prop} {mA : DEnv → R (List O)} {sp : List (Option Nat)}
def retN (Q : O → Prop) : Ct → VEnv → Prop
  | .ret o, _ => o.no notFz = true ∧ Q o
  | .next, _ => Q (.lf .fz .non)
  | _, _ => False
def excN (E : Exn → Prop) : Exn → VEnv → Prop := fun x _ => O.nos notFz x.xs = true ∧ E x
@[simp] theorem retN_next {Q : O → Prop} : retN Q .next e ↔ Q (.lf .fz .non) := (Iff.rfl)
@[simp] theorem retN_ret {Q : O → Prop} {o : O} : retN Q (.ret o) e ↔ o.no notFz = true ∧ Q o := (Iff.rfl)
@[simp] theorem retN_brk {Q : O → Prop} : retN Q .brk e ↔ False := (Iff.rfl)
@[simp] theorem retN_cont {Q : O → Prop} : retN Q .cont e ↔ False := (Iff.rfl)
@[simp] theorem excN_ev {F : Exn → Prop} {x : Exn} : excN F x e ↔ O.nos notFz x.xs = true ∧ F x := (Iff.rfl)
end
end VL
namespace VL
open PySem PySem.Spec PyProof.Rows L2
def SameX (D : Addr) (H H' : Hp) : Prop := ∀ b o, b ≠ D → H b = some o → Kp H H' b o
theorem SameX.of {D : Addr} {H H' : Hp} (s : Same H H') : SameX D H H' := fun b o _ e => s b o e
theorem SameX.trans {D : Addr} {H H1 H2 : Hp} (s : SameX D H H1) (s2 : SameX D H1 H2) : SameX D H H2 := fun b o n e => (s b o n e).thn fun o' e' => s2 b o' n e'
theorem SameX.upd {D : Addr} {H H' : Hp} {u : HO} (s : SameX D H H') (nd : NT (H' D)) : SameX D H (upd H' D u) := fun b o n e => (s b o n e).but (.inl nd) (fun c v m e => by rw [upd_ne m]; exact e) fun _ => n
theorem SameX.tab {D : Addr} {H H' : Hp} {P : Addr} {q : Str} (s : SameX D H H') (nd : NT (H D)) (t : TabAt H P q) : TabAt H' P q := by
  obtain ⟨ps, e, t⟩ := t
  obtain ⟨ps', e', t'⟩ := s P _ (fun z => by rw [z] at e; exact nd.ntbl e) e
  exact ⟨ps', e', t' q t⟩
theorem SameX.keep {D : Addr} {H H' : Hp} {T : Addr → Prop} (s : SameX D H H') (h : ¬ T D) (nt : ∀ xs, H D ≠ some (.tup xs)) : KeepS H H' T T := by
  have ne : ∀ a, T a → a ≠ D := fun a z e => h (e ▸ z)
  refine ⟨fun a v z r n => ⟨z, ?_⟩, fun a C dx fs z e => s a _ (ne a z) e, fun a xs e => ?_, fun a xs z e => s a _ (ne a z) e, fun a xs z e => s a _ (ne a z) e⟩
  · rcases r with r | ⟨o, r⟩
    · exact .inl ((s a _ (ne a z) r).nt n)
    · exact .inr ⟨o, s a _ (ne a z) r⟩
  · by_cases ha : a = D
    · rw [ha] at e; exact absurd e (nt xs)
    · exact s a _ ha e
theorem KeepS.sub {H H' : Hp} {T S : Addr → Prop} (k : KeepS H H' T T) (h : VL.Sub S T) : KeepS H H' S S :=
  ⟨fun a v z r n => ⟨z, (k.1 a v (h a z) r n).2⟩, fun a C dx fs z e => k.2.1 a C dx fs (h a z) e, k.2.2.1, fun a xs z e => k.2.2.2.1 a xs (h a z) e, fun a xs z e => k.2.2.2.2 a xs (h a z) e⟩
section
variable {X : Cx} {tg a : Expr} {ma : DEnv → R O} {pos p : Pos}
end
section
variable {X : Cx} {tg iter tg1 iter1 elt : Expr} {ifs ifs1 : List Expr} {scope : Scope} {own : List (Str × Nat)} {vs1 : List Nat} {pos : Pos} {src : DEnv → R (Bool × List O)} {src1 : DEnv → R (List O)} {asg asg1 : O → AsgE} {g g1 : TG} {t t1 : DEnv → R Bool} {me : DEnv → R O}
structure Lc2I (w : Wd) (Fx : Addr → Prop) (H1 : Hp) (D : Addr) (total : List O) (H' : Hp) (acc : List V) (F : Addr → Prop) (os rest : List O) : Prop where
  d : H' D = some (.lst acc)
  sm : Same H1 H'
  ro : RepOs (wx w Fx) H' os acc F
  fr : Fresh H1 H' F
  nD : ¬ F D
  ow : O.owns os = true
  tot : os ++ rest = total
end
end VL
namespace VL
open PySem PySem.Spec PyProof.Rows L2
abbrev Clause2 := Value × Option Nat × (Addr → Value → Option Addr → TS)
inductive Clauses2 (X : Cx) : List ExceptHandler → List Clause2 → Prop
  | nil : Clauses2 X [] []
  | cons {x n : Str} {c : Value} {i : Nat} {ts : Addr → Value → Option Addr → TS} {b₀ : Stmt} {suite : List Stmt} {np q : Pos} {hds : List ExceptHandler} {l : List Clause2} (hi : X.N[i]? = some n) (hl : X.env.kindOf n = some .local) (hc : Names X x c)
      (hs : ∀ (a : Addr) (ob : Obj) (cls : Value) (d : Option Addr) (pn : List (Addr × Obj)), Zc cls d ob → (∃ vs, ob.data = .fields vs) → PSs (X.suite a ((a, ob) :: pn)) (b₀ :: suite) (ts a cls d)) (r : Clauses2 X hds l) : Clauses2 X (.ExceptHandler (some (.Name x np)) (some n) (b₀ :: suite) q :: hds) ((c, some i, ts) :: l)
  | bare {x : Str} {c : Value} {ts : Addr → Value → Option Addr → TS} {b₀ : Stmt} {suite : List Stmt} {np q : Pos} {hds : List ExceptHandler} {l : List Clause2} (hc : Names X x c)
      (hs : ∀ (a : Addr) (ob : Obj) (cls : Value) (d : Option Addr) (pn : List (Addr × Obj)), Zc cls d ob → (∃ vs, ob.data = .fields vs) → PSs (X.suite a ((a, ob) :: pn)) (b₀ :: suite) (ts a cls d)) (r : Clauses2 X hds l) : Clauses2 X (.ExceptHandler (some (.Name x np)) none (b₀ :: suite) q :: hds) ((c, none, ts) :: l)
section
variable {X : Cx} {body : List Stmt} {h₀ : ExceptHandler} {hds : List ExceptHandler} {l : List Clause2} {pos : Pos} {tb : WX → TS} {Wo : WX}
end
abbrev Cl2 := String × Option Nat × (VEnv → RS)
def sOutN (r : RS) : RS := match r with
  | .ex _ _ => .no
  | r => r
def tryGo2 (x : Exn) (e : VEnv) : List Cl2 → RS
  | [] => if badE x.cls then .ex x e else .no
  | z :: l => if subE x.cls z.1 then (match z.2.1 with
    | some i => if O.nos notFz x.xs && decide (i < e.length) then sOut i (z.2.2 (e.set i (some (.xn x.cls x.fs (O.ers x.xs))))) else .no
    | none => sOutN (z.2.2 e)) else tryGo2 x e l
inductive VCl2 (X : Cx) (P : List Nat) (E : Errs) : List ExceptHandler → List Cl2 → Prop
  | nil : VCl2 X P E [] []
  | cons {x n : Str} {D : String} {i : Nat} {m2 : VEnv → RS} {b₀ : Stmt} {suite : List Stmt} {np q : Pos} {hds : List ExceptHandler} {l : List Cl2} (hsu : ∀ (a : Addr) (oe : Obj) (pn : List (Addr × Obj)), VB (X.suite a ((a, oe) :: pn)) P (b₀ :: suite) m2) (hi : X.N[i]? = some n) (hln : X.env.kindOf n = some .local) (hD : E.has D = true) (hx : x = Str.ofString D) (hg : Gl X x) (hdb : (x == ("__debug__" : Str)) = false) (hP : P.contains i = false) (r : VCl2 X P E hds l) :
      VCl2 X P E (.ExceptHandler (some (.Name x np)) (some n) (b₀ :: suite) q :: hds) ((D, some i, m2) :: l)
  | bare {x : Str} {D : String} {m2 : VEnv → RS} {b₀ : Stmt} {suite : List Stmt} {np q : Pos} {hds : List ExceptHandler} {l : List Cl2} (hsu : ∀ (a : Addr) (oe : Obj) (pn : List (Addr × Obj)), VB (X.suite a ((a, oe) :: pn)) P (b₀ :: suite) m2) (hD : E.has D = true) (hx : x = Str.ofString D) (hg : Gl X x) (hdb : (x == ("__debug__" : Str)) = false) (r : VCl2 X P E hds l) :
      VCl2 X P E (.ExceptHandler (some (.Name x np)) none (b₀ :: suite) q :: hds) ((D, none, m2) :: l)
section
variable {X : Cx} {P : List Nat} {E : Errs}
end
end VL
namespace VL
open PySem PySem.Spec PyProof.Rows L2
section
variable {X : Cx} {P : List Nat} {c : Expr} {body : List Stmt} {t : DEnv → R Bool} {m : VEnv → RS} {pos : Pos}
def rTf (f : Fm) (W : WX) (t : DEnv → R Bool) : TT := fun σ H Q => ∃ Z Fs, rT (tw f Z Fs) W t σ H Q
theorem VT.ef (h : VT X c t) {W : WX} (tk : Takes X W) {f : Fm} (hf : FOk X P f) : PT X c (rTf f W t) := ⟨fun pins s σ H Q I ⟨Z, Fs, q⟩ => (h W tk (tw f Z Fs) hf.1).run pins s σ H Q I q⟩
end
section
variable {f : Fm} {Z Z2 F : Addr → Prop} {Fs Fs2 : Nat → Addr → Prop} {env env2 : VEnv} {σ σ2 : L2.St} {H H2 : Hp}
theorem re_keepS (g : GoodAt f Z Fs env σ H) (g2 : GoodAt (f.re Z Fs H) Z2 Fs2 env2 σ2 H2) : ∀ x : Kd, (fun _ : Kd => false) x = false → KeepS H H2 ((f.w Z).S x) ((f.w Z2).S x) := fun x _ => by
  have kp : ∀ a u, (∀ i, ¬ Fs i a) → H a = some u → Kp H H2 a u := fun a u n e => g2.keep a u e fun ⟨i, q⟩ => n i q
  have tup : ∀ a xs, H a = some (.tup xs) → H2 a = some (.tup xs) := fun a xs e => kp a _ (fun i q => by
    obtain ⟨u, e', n⟩ := (g.own i a q).2.2
    rw [e] at e'; cases e'; exact n) e
  have gen : ∀ {S S' : Addr → Prop}, VL.Sub S S' → (∀ a, S a → ∀ i, ¬ Fs i a) → KeepS H H2 S S' := fun sub hS =>
    ⟨fun a u z rd n => ⟨sub a z, rd.elim (fun e => .inl ((kp a _ (hS a z) e).nt n)) fun ⟨o, e⟩ => .inr ⟨o, kp a _ (hS a z) e⟩⟩, fun a C dx fs z e => kp a _ (hS a z) e, tup, fun a xs z e => kp a _ (hS a z) e, fun a xs z e => kp a _ (hS a z) e⟩
  cases x with
  | fz => exact gen (fun a z => g2.zold a z) fun a z i q => (g.own i a q).1 z
  | bo => exact gen (fun a z => z) fun a z i q => (g.own i a q).2.1 z
  | tb => exact gen (fun a z => z) fun a z => z.elim
theorem re_extra (g : GoodAt f Z Fs env σ H) (x : Extra f Z Fs H F) (g2 : GoodAt (f.re Z Fs H) Z2 Fs2 env2 σ2 H2) : Extra f Z2 Fs2 H2 F ∧ ∀ a u, F a → H a = some u → H2 a = some u := by
  have kp : ∀ a u, F a → H a = some u → H2 a = some u := fun a u z e => (g2.keep a u e fun ⟨i, q⟩ => (x a z).2.2.2.2 i q).nt ((x a z).2.2.1.nt e)
  refine ⟨fun a z => ?_, kp⟩
  obtain ⟨h1, h2, h3, h4, h5⟩ := x a z
  refine ⟨fun q => ?_, h2, ?_, h4, fun i q => ?_⟩
  · rcases g2.znew a q with q | ⟨i, q⟩ | q
    · exact h1 q
    · exact h5 i q
    · exact h3.ne q
  · obtain ⟨u, e, n⟩ := h3
    exact ⟨u, kp a u z e, n⟩
  · rcases g2.fnew i a q with ⟨j, q⟩ | q
    · exact h5 j q
    · exact h3.ne q
end
end VL
namespace VL
open PySem PySem.Spec PyProof.Rows L2
section
variable {α : Type} {vs1 : List Nat} {asg asg1 : O → AsgE} {t t1 : DEnv → R Bool} {src1 : DEnv → R (List O)} {me : DEnv → R O} {env : DEnv}
end
section
variable {t : DEnv → R Bool} {m mF : VEnv → RS} {env e : VEnv} {Q : Ct → VEnv → Prop} {E : Exn → VEnv → Prop} {x : Exn}
def elseK (k : VEnv → Prop) (Q : Ct → VEnv → Prop) : Ct → VEnv → Prop
  | .next, e => k e
  | c, e => Q c e
@[simp] theorem elseK_next {k : VEnv → Prop} : elseK k Q .next e ↔ k e := (Iff.rfl)
@[simp] theorem elseK_brk {k : VEnv → Prop} : elseK k Q .brk e ↔ Q .brk e := (Iff.rfl)
@[simp] theorem elseK_cont {k : VEnv → Prop} : elseK k Q .cont e ↔ Q .cont e := (Iff.rfl)
@[simp] theorem elseK_ret {k : VEnv → Prop} {o : O} : elseK k Q (.ret o) e ↔ Q (.ret o) e := (Iff.rfl)
@[simp] theorem tryGo2_nil : wS (tryGo2 x e []) Q E ↔ badE x.cls = true ∧ E x e := by
  unfold tryGo2
  split
  · rename_i q; simp [q]
  · rename_i q; simp [q]
end
end VL
namespace VL
open PySem PySem.Spec PyProof.Rows L2
section
variable {X : Cx} {P : List Nat} {a b : Expr} {mp : VEnv → Option (Nat × List Nat)} {mb : DEnv → R O} {pos : Pos}
end
section
variable {i n : Nat} {p : List Nat} {env : VEnv} {mp : VEnv → Option (Nat × List Nat)} {mi : DEnv → R O} {os : List O} {k : Int}
end
end VL
namespace VL
open PySem PySem.Spec PyProof.Rows L2
def GoodVs (f : Fm) (env : VEnv) (os : List O) (vs : List V) (σ : L2.St) (H : Hp) : Prop := ∃ Z Fs F, GoodAt f Z Fs env σ H ∧ RepOs (f.w Z) H os vs F ∧ Extra f Z Fs H F
def rXA (f : Fm) (W : WX) (m : VEnv → RX (List O)) : TA := fun σ H Q => ∃ env, Good f env σ H ∧ match m env with
  | .ok os env' => ∀ vs H', GoodVs f env' os vs σ H' → Q vs H'
  | .ex x env' => ∀ cls d H', GoodX f env' x cls d σ H' → W cls d σ H'
  | .no => False
def XA (X : Cx) (P : List Nat) (es : List Expr) (m : VEnv → RX (List O)) : Prop := ∀ (W : WX), Takes X W → ∀ f : Fm, FOk X P f → PA X es (rXA f W m)
def AOut (f : Fm) (W : WX) (σ : L2.St) (r : RX (List O)) (Q : List V → Hp → Prop) : Prop := match r with
  | .ok os env' => ∀ vs H', GoodVs f env' os vs σ H' → Q vs H'
  | .ex x env' => ∀ cls d H', GoodX f env' x cls d σ H' → W cls d σ H'
  | .no => False
def xaNil : VEnv → RX (List O) := fun env => .ok [] env
def xaCons (mx : VEnv → RX O) (mA : VEnv → RX (List O)) : VEnv → RX (List O) := fun env => (mx env).bind fun o e => (mA e).bind fun os e2 => .ok (o :: os) e2
section
variable {X : Cx} {P : List Nat} {a : Expr} {es : List Expr} {mx : VEnv → RX O} {mA : VEnv → RX (List O)} {pos : Pos}
theorem xa_nil : XA X P [] xaNil := fun W tk f hf => pa_nil.imp fun σ H Q h => by
  obtain ⟨env, ⟨Z, Fs, g⟩, h⟩ := h
  exact h [] H ⟨Z, Fs, fun _ => False, g, by simp [RepOs], fun _ z => z.elim⟩
theorem held {f : Fm} {Z Z2 F F2 : Addr → Prop} {Fs Fs2 : Nat → Addr → Prop} {env env2 : VEnv} {σ σ2 : L2.St} {H H2 : Hp} {o : O} {v : V} {os : List O} {vs : List V} (g : GoodAt f Z Fs env σ H) (r : RepO (f.w Z) H o v F) (ex : Extra f Z Fs H F) (g2 : GoodAt (f.re Z Fs H) Z2 Fs2 env2 σ2 H2) (r2 : RepOs ((f.re Z Fs H).w Z2) H2 os vs F2) (ex2 : Extra (f.re Z Fs H) Z2 Fs2 H2 F2) : GoodVs f env2 (o :: os) (v :: vs) σ2 H2 := by
  obtain ⟨e2, kp⟩ := re_extra g ex g2
  have ex3 := ex2.unre g
  have dj : ∀ a, F a → ¬ F2 a := fun a z z2 => by
    rcases (ex2 a z2).2.2.2.1 with ⟨i, q⟩ | q
    · exact (ex a z).2.2.2.2 i q
    · exact (ex a z).2.2.1.ne q
  refine ⟨Z2, Fs2, fun a => F a ∨ F2 a, g.unre g2, ?_, fun a z => z.elim (e2 a) (ex3 a)⟩
  simp only [RepOs]
  exact ⟨v, vs, F, F2, rfl, fun _ z => .inl z, fun _ z => .inr z, dj, RepO.keep (w := f.w Z) (w' := f.w Z2) (p := fun _ => false) rfl (re_keepS g g2) (re_keepS g g2 .fz rfl).2.2.1 (O.no_none _) (fun a u z e _ => kp a u z e) r, r2⟩
theorem xa_cons (hx : VX X P a mx) (h : XA X P es mA) (hs : starEach (a :: es) X.env = (false, eval a X.env) :: starEach es X.env := by rfl) : XA X P (a :: es) (xaCons mx mA) := fun W tk f hf => by
  have hA : PA X es (fun σ H Q => ∃ f', FOk X P f' ∧ rXA f' W mA σ H Q) := ⟨fun pos pins s σ H Q I ⟨f', hf', q⟩ => (h W tk f' hf').run pos pins s σ H Q I q⟩
  refine (pa_cons (hx W tk f hf) hA hs).imp fun σ H Q h => ?_
  obtain ⟨env, g, h⟩ := h
  replace h : AOut f W σ (xaCons mx mA env) Q := h
  refine rX_of g ?_
  unfold xaCons at h
  cases e : mx env with
  | no => rw [e] at h; exact h
  | ex x env' => rw [e] at h; exact fun cls d H' gx => h cls d H' gx
  | ok o e1 =>
    rw [e] at h
    simp only [RX.bind] at h
    rintro v H1 ⟨Z, Fs, F, g1, r, ex⟩
    refine ⟨f.re Z Fs H1, hf, e1, ⟨Z, Fs, g1.re⟩, ?_⟩
    cases e2 : mA e1 with
    | no => rw [e2] at h; exact h
    | ex x env' => rw [e2] at h; exact fun cls d H' gx => h cls d H' (gx.unre g1)
    | ok os e3 =>
      rw [e2] at h
      rintro vs H2 ⟨Z2, Fs2, F2, g2, r2, ex2⟩
      exact h (v :: vs) H2 (held g1 r ex g2 r2 ex2)
def xTup (mA : VEnv → RX (List O)) : VEnv → RX O := fun env => (mA env).bind fun os e => if szOk os.length then .ok (.tup os) e else .no
def xLst (mA : VEnv → RX (List O)) : VEnv → RX O := fun env => (mA env).bind fun os e => if szOk os.length then .ok (.lst os) e else .no
theorem rXA_then {f : Fm} {W : WX} {env : VEnv} {σ : L2.St} {H : Hp} {Q : VK} {Q1 : List V → Hp → Prop} {k : List O → VEnv → RX O} (g : Good f env σ H) (h : EOut f W σ ((mA env).bind k) Q) (c : ∀ os env' vs H', GoodVs f env' os vs σ H' → EOut f W σ (k os env') Q → Q1 vs H') : rXA f W mA σ H Q1 := by
  refine ⟨env, g, ?_⟩
  cases e : mA env with
  | ok o env' => rw [e] at h; exact fun v H' gv => c o env' v H' gv h
  | ex x env' => rw [e] at h; exact fun cls d H' gx => h cls d H' gx
  | no => rw [e] at h; exact h
theorem vx_tupX {k : Nat} (h : XA X P es mA) : VX X P (.Tuple es k pos) (xTup mA) := fun W tk f hf => (pe_tup (h W tk f hf)).imp fun σ H Q h => by
  obtain ⟨env, g, h⟩ := h
  replace h : EOut f W σ (xTup mA env) Q := h
  refine rXA_then g h fun os e1 vs H1 gv h => ?_
  obtain ⟨Z, Fs, F, g1, r, ex⟩ := gv
  split at h
  · rename_i hz
    refine ⟨by rw [RepOs.length r]; exact szOk_le hz, fun q nq => ?_⟩
    have sm : Same H1 (upd H1 q (.tup vs)) := Same.of fun b o e => by rw [upd_ne (ne_of_none e nq)]; exact e
    refine h (.ref q) _ ⟨Z, Fs, F, g1.same sm, ?_, ?_⟩
    · simp only [RepO]
      exact ⟨q, vs, rfl, upd_same, RepOs.same sm r⟩
    · intro a z
      exact ⟨(ex a z).1, (ex a z).2.1, (ex a z).2.2.1.same sm, (ex a z).2.2.2⟩
  · exact h.elim
end
def frzA : O → Option O
  | .lf .bo d => some (lfk .bo d)
  | o => if o.no notFz then some (lfk .fz o.er) else none
def frzL : List O → Option (List O)
  | [] => some []
  | o :: os => match frzA o, frzL os with
    | some o', some os' => some (o' :: os')
    | _, _ => none
theorem GoodVs.fz {f : Fm} {env : VEnv} {os args : List O} {vs : List V} {σ : L2.St} {H : Hp} (e : frzL os = some args) (g : GoodVs f env os vs σ H) : ∃ Z Fs, GoodAt f Z Fs env σ H ∧ RepOs (f.w Z) H args vs (fun _ => False) := by
  obtain ⟨Z, Fs, F, g, r, ex⟩ := g
  refine ⟨fun a => Z a ∨ F a, Fs, g.frz ex, ?_⟩
  have go : ∀ {os args : List O} {vs : List V} {F1 : Addr → Prop}, Sub F1 F → frzL os = some args → RepOs (f.w Z) H os vs F1 → RepOs (f.w fun a => Z a ∨ F a) H args vs (fun _ => False) := by
    intro os
    induction os with
    | nil => intro args vs F1 _ e r; cases e; simpa [RepOs] using r
    | cons o os ih =>
      intro args vs F1 s1 e r
      simp only [RepOs] at r
      obtain ⟨v, r', Fa, Fb, rfl, sa, sb, d, r1, r2⟩ := r
      unfold frzL at e
      cases e1 : frzA o with
      | none => rw [e1] at e; cases e
      | some o' =>
        cases e2 : frzL os with
        | none => rw [e1, e2] at e; cases e
        | some os' =>
          rw [e1, e2] at e
          cases e
          simp only [RepOs]
          refine ⟨v, r', fun _ => False, fun _ => False, rfl, fun _ z => z, fun _ z => z, fun _ z _ => z, ?_, ih (fun a z => s1 a (sb a z)) e2 r2⟩
          unfold frzA at e1
          split at e1
          · cases e1
            simp only [RepO] at r1
            exact lfk_rep (w := f.w fun a => Z a ∨ F a) (k := .bo) (Rep.keep (KeepS.same (Same.refl _) fun _ z => z) r1)
          · split at e1
            · rename_i n
              cases e1
              refine lfk_rep (w := f.w fun a => Z a ∨ F a) (k := .fz) ?_
              refine RepO.toRep (w := f.w Z) (p := notFz) (fun k hk => ?_) n (fun a z => .inr (s1 a (sa a z))) r1
              cases k with
              | fz => exact fun _ z => .inl z
              | bo => cases hk
              | tb => cases hk
            · cases e1
  exact go (fun _ z => z) e r
section
variable {f : Fm} {Z : Addr → Prop} {Fs : Nat → Addr → Prop} {env : VEnv} {σ : L2.St} {H : Hp} {args : List O} {vs : List V}
theorem GoodAt.cutA {env' : VEnv} {ts : L2.St} (hp : ∀ p ∈ f.pin, σ[p.1]? = some (some p.2)) (g : GoodAt f Z Fs env' (σ ++ ts) H) : GoodAt f Z (fun i a => i < σ.length ∧ Fs i a) (env'.take σ.length) σ H := by
  have hl := g.len
  rw [List.length_append] at hl
  refine ⟨fun i o e => ?_, fun i j a n z z2 => g.dis i j a n z.2 z2.2, fun i a z => g.own i a z.2, g.zal, g.bal, g.keep, g.there, fun i a z => g.fnew i a z.2, g.znew, g.zold, hp, by rw [List.length_take]; omega⟩
  rw [List.getElem?_take] at e
  split at e
  · rename_i hi
    obtain ⟨v, ev, r⟩ := g.rep i o e
    rw [List.getElem?_append_left hi] at ev
    exact ⟨v, ev, RepO.mono (fun a z => ⟨hi, z⟩) r⟩
  · cases e
end
section
variable {X : Cx} {P : List Nat} {a : Expr} {es : List Expr} {mA : VEnv → RX (List O)} {pos p : Pos} {x : Str} {m : VEnv → RS}
end
end VL
namespace VL
open PySem PySem.Spec PyProof.Rows L2
structure wA (r : RX (List O)) (P : List O → VEnv → Prop) (E : Exn → VEnv → Prop) : Prop where
  out : match r with
    | .ok os e => P os e
    | .ex x e => E x e
    | .no => False
section
variable {os : List O} {e env : VEnv} {x : Exn} {P : List O → VEnv → Prop} {Q : O → VEnv → Prop} {E : Exn → VEnv → Prop} {mx : VEnv → RX O} {mA : VEnv → RX (List O)} {n : Nat} {m : VEnv → RS}
@[simp] theorem wA_ok : wA (.ok os e) P E ↔ P os e := ⟨fun h => h.out, fun h => ⟨h⟩⟩
@[simp] theorem wA_ex : wA (.ex x e) P E ↔ E x e := ⟨fun h => h.out, fun h => ⟨h⟩⟩
@[simp] theorem wA_no : wA .no P E ↔ False := ⟨fun h => h.out, fun h => ⟨h⟩⟩
@[simp] theorem wA_nil : wA (xaNil env) P E ↔ P [] env := wA_ok
@[simp] theorem wA_cons : wA (xaCons mx mA env) P E ↔ wX (mx env) (fun o e => wA (mA e) (fun os e2 => P (o :: os) e2) E) E := by
  unfold xaCons
  cases mx env with
  | no => simp [RX.bind]
  | ex x e => simp [RX.bind]
  | ok o e =>
    simp only [RX.bind, wX_ok]
    cases mA e with
    | no => simp
    | ex x e => simp
    | ok os e => simp
@[simp] theorem wX_tupX : wX (xTup mA env) Q E ↔ wA (mA env) (fun os e => os.length ≤ 16777216 ∧ Q (.tup os) e) E := by
  unfold xTup
  cases mA env with
  | no => simp [RX.bind]
  | ex x e => simp [RX.bind]
  | ok os e =>
    simp only [RX.bind, wA_ok, szOk_iff, decide_eq_true_eq]
    split
    · rename_i h; simp [h]
    · rename_i h; simp [h]
@[simp] theorem wX_lstX : wX (xLst mA env) Q E ↔ wA (mA env) (fun os e => os.length ≤ 16777216 ∧ Q (.lst os) e) E := by
  unfold xLst
  cases mA env with
  | no => simp [RX.bind]
  | ex x e => simp [RX.bind]
  | ok os e =>
    simp only [RX.bind, wA_ok, szOk_iff, decide_eq_true_eq]
    split
    · rename_i h; simp [h]
    · rename_i h; simp [h]
end
end VL
namespace VL
open PySem PySem.Spec PyProof.Rows L2
section
variable {X : Cx} {P : List Nat} {body : List Stmt} {m : VEnv → RS} {pos : Pos}
end
end VL
namespace VL
open PySem PySem.Spec PyProof.Rows L2
abbrev Tst := (DEnv → R Bool) × (DEnv → R O)
section
variable {X : Cx} {c e : Expr} {body : List Stmt} {t : DEnv → R Bool} {me : DEnv → R O} {l : List Tst} {pos p2 : Pos}
end
section
variable {X : Cx} {P : List Nat} {tg iter : Expr} {body : List Stmt} {src : DEnv → R (Bool × List O)} {asg : O → AsgE} {g : TG} {l : List Tst} {vs : List Nat} {pos : Pos}
end
end VL
namespace VL
open PySem PySem.Spec PyProof.Rows L2
section
variable {prog : Program} {w : World} {A : Around} {E : Value → Shared → Prop} {s : Shared}
end
section
variable {X : Cx} {P : List Nat} {a : Expr} {ma : DEnv → R O} {pos p : Pos}
def iEnT (js : List Nat) (ma : DEnv → R O) : DEnv → R (List Asg) := fun env => (ma env).bind fun o => match seqF o, o.er.isTp with
  | some (k, ds), true => .ok (ds.mapIdx fun i d => setL js [.lf .fz (.int (i : Nat)), lfk k d])
  | _, _ => .no
end
section
variable {ma : DEnv → R O} {de : DEnv}
@[simp] theorem iEnT_ev {js : List Nat} : iEnT js ma de = (ma de).bind fun o => gd ((seqF o).isSome = true ∧ o.er.isTp = true) (.ok (((seqF o).getD (.tb, [])).2.mapIdx fun i d => setL js [oi (i : Nat), lfk ((seqF o).getD (.tb, [])).1 d])) := by
  unfold iEnT
  cases ma de with
  | no => rfl
  | ex x => rfl
  | ok o =>
    show (match seqF o, o.er.isTp with
      | some (k, ds), true => R.ok (ds.mapIdx fun i d => setL js [O.lf .fz (.int (i : Nat)), lfk k d])
      | _, _ => .no) = gd _ _
    cases e : seqF o with
    | none => simp
    | some kd =>
      cases h : o.er.isTp with
      | true => simp
      | false => simp
end
end VL
namespace VL
open PySem PySem.Spec PyProof.Rows L2
def kidsO : O → Option (Bool × List O)
  | .tup os => some (true, os)
  | .lst os => some (false, os)
  | _ => none
def mvIx (i : Nat) (c : Int) : VEnv → RX O := fun env => match env[i]? with
  | some (some o) => (match kidsO o with
    | some (_, os) => (match atI os c with
      | some p => .ok p (env.set i none)
      | none => .no)
    | none => .no)
  | _ => .no
section
variable {X : Cx} {P : List Nat}
end
section
variable {env : VEnv} {i : Nat} {c : Int} {P : O → VEnv → Prop} {E : Exn → VEnv → Prop}
@[simp] theorem wX_mvIxT {os : List O} (h : env[i]? = some (some (.tup os))) : wX (mvIx i c env) P E ↔ ∃ o, atI os c = some o ∧ P o (env.set i none) := by
  unfold mvIx
  rw [h]
  show wX (match atI os c with
    | some p => RX.ok p (env.set i none)
    | none => .no) P E ↔ _
  cases atI os c <;> simp
end
end VL
namespace VL
open PySem PySem.Spec PyProof.Rows L2
def srtI (ns : List Int) : List Int := ns.mergeSort fun a b => decide (a ≤ b)
def gSorted (o : O) : R O := match listInts o.er with
  | some ns => .ok (.lst ((srtI ns).map fun n => .lf .fz (.int n)))
  | none => .no
section
variable {X : Cx} {a : Expr} {ma : DEnv → R O} {pos : Pos}
end
section
variable {ns : List Int} {o : O}
@[simp] theorem gSorted_ev : gSorted o = (optR (listInts o.er)).bind fun ns => .ok (.lst ((srtI ns).map oi)) := by
  unfold gSorted
  cases listInts o.er <;> rfl
end
end VL
namespace VL
open PySem PySem.Spec PyProof.Rows L2
section
variable {X : Cx} {e : Expr} {te : TE} {p apos cpos pos : Pos}
end
section
variable {X : Cx} {a : Expr} {ma : DEnv → R O} {p apos cpos pos : Pos}
end
end VL
namespace VL
open PySem PySem.Spec PyProof.Rows L2
def e4 (g : O → O → O → O → R O) (ma mb mc md : DEnv → R O) : DEnv → R O := fun env => (ma env).bind fun a => (mb env).bind fun b => (mc env).bind fun c => (md env).bind fun d => g a b c d
section
variable {X : Cx} {kx vx kx' vx' : Expr} {mk mv mk' mv' : DEnv → R O} {pos : Pos}
end
end VL
namespace VL
open PySem PySem.Spec PyProof.Rows L2
section
variable {X : Cx} {CX : CXT} {k n : Nat} {f C : Addr} {fd : FuncData} {ps ks : List Str} {sp : Sp} {E : L2.St → XK} {x : Str} {p pos : Pos} {e : Expr} {es : List Expr} {kws : List Keyword} {t tk : TA} {dvs : List V} {ds : List Value}
end
def DvOk (K : PySem.W.Frag) (d : D) (dv : V) : Prop := ∀ cl : Cl, (∀ a, KT K a → cl.b.kt a) → ∀ H S, Rep cl H S d dv
section
variable {X : Cx} {P : List Nat} {f : Fm} {Z : Addr → Prop} {Fs : Nat → Addr → Prop} {e : VEnv} {σ : L2.St} {H1 : Hp} {args : List O} {vs : List V} {W : WX} {Q : VK} {N : List Str} {n : Nat} {m : VEnv → RS} {C : String} {Ca : Addr}
end
def OkIK (P : Program) (w : World) (K : PySem.W.Frag) (mg : Str → Option Value) (base : Heap) (C : String) (N ps : List Str) (kw : Str) (d : D) (j : Nat) (m : VEnv → RS) (k : Nat) : Prop :=
  ∃ Ca f fd, mg (Str.ofString C) = some (.ref Ca) ∧ Mk K Ca f ∧ (∃ dv ds, DvOk K d dv ∧ Vals [dv] ds ∧ Binds K fd ps ds) ∧ KBn K fd ps (j + 1) [kw] (fun us ws => us ++ ws) (fun vs zs => vs ++ zs) ∧ FnOk P w K mg base (CXv mg P w) k f fd ps (SpV K mg N ps.length [0] m)
section
variable {X : Cx} {P : List Nat} {a b : Expr} {es : List Expr} {mA : VEnv → RX (List O)} {ma mb : VEnv → RX O} {pos p kpos : Pos} {x kw y : Str} {m : VEnv → RS} {k j : Nat} {N ps : List Str} {d : D}
end
def FnIK (K : PySem.W.Frag) (mg : Str → Option Value) (C : String) (qual : Str) (st : Stmt) (ps : List Str) (kw : Str) (d : D) (j : Nat) : Prop :=
  ∃ Ca f fd, mg (Str.ofString C) = some (.ref Ca) ∧ Mk K Ca f ∧ Fun K "__init__" qual st f fd ∧ (∃ dv ds, DvOk K d dv ∧ Vals [dv] ds ∧ Binds K fd ps ds) ∧ KBn K fd ps (j + 1) [kw] (fun us ws => us ++ ws) (fun vs zs => vs ++ zs)
theorem FnIK.ok {P : Program} {w : World} {K : PySem.W.Frag} {mg : Str → Option Value} {base : Heap} {C : String} {qual : Str} {st : Stmt} {N ps : List Str} {kw : Str} {d : D} {j k : Nat} {m : VEnv → RS} (T : FnIK K mg C qual st ps kw d j) (S : FnScope N ps (defScope st))
    (hb : ∀ (f : Addr) (cdv : Value) (A : Around) (outer : List Env) (s : Shared) (H : Hp) (E : XK), Room k (A.deeper (envOfC qual (defScope st) s.heap.objs.size f cdv)) → VB (cxOf (CXv mg P w) P w K mg base N qual (defScope st) f cdv A outer s H E) [0] (defBody st) m) : OkIK P w K mg base C N ps kw d j m (k + 1) := by
  obtain ⟨Ca, f, fd, hm, M, F, hd, hbn⟩ := T
  exact ⟨Ca, f, fd, hm, M, hd, hbn, fn_v F S (hb f)⟩
end VL
namespace VL
open PySem PySem.Spec PyProof.Rows L2
section
variable {X : Cx} {P : List Nat} {a b e : Expr} {es : List Expr} {ma mb me : DEnv → R O} {pos p apos cpos : Pos}
def gIdxD (x y : O) : R O := match x.er with
  | .lst ds => (match D.pys ds, y.er.py with
    | some ps, some q => if SeqAt.shaped (.list ps) && SeqAt.shaped q then (match ps.findIdx? (fun p => PyData.eqv p q) with
      | some j => .ok (.lf .fz (.int (j : Nat)))
      | none => .no) else .no
    | _, _ => .no)
  | _ => .no
theorem idxD_op : Op2 X (fun x y H Q => rIndexD X.K x [y] H Q) gIdxD := by
  intro w W σ H0 H o1 o2 x y F1 F2 Q hc s p1 p2 dj f1 f2 h
  have z1 := RepO.at p1
  have z2 := RepO.at p2
  unfold gIdxD at h
  split at h
  · rename_i ds e1
    split at h
    · rename_i ps q e2 e3
      split at h
      · rename_i hs
        rw [Bool.and_eq_true] at hs
        split at h
        · rename_i j ej
          have d1 := Rep.dp (K := X.K) z1 (p := .list ps) (by rw [e1]; simp only [D.py]; rw [e2]; rfl)
          have d2 := Rep.dp (K := X.K) z2 e3
          obtain ⟨hj, hj2, hj3⟩ := List.findIdx?_eq_some_iff_getElem.mp ej
          have hx : ∃ a, x = .ref a := by
            rw [e1] at z1
            simp only [Rep] at z1
            obtain ⟨a, _, rfl, _⟩ := z1
            exact ⟨a, rfl⟩
          obtain ⟨a, rfl⟩ := hx
          refine ⟨a, y, q, ps, j, ps[j], rfl, rfl, d1, d2, hs.1, hs.2, List.getElem?_eq_getElem hj, hj2, fun m z' hm hz => ?_, out_int h⟩
          obtain ⟨hm', rfl⟩ := List.getElem?_eq_some_iff.mp hz
          have := hj3 m hm
          simpa using this
        · exact h.elim
      · exact h.elim
    · exact h.elim
  · exact h.elim
theorem ve_indexD (hu : X.A.units + 65 < cLine) (he : VE X e me) (ha : VE X a ma) (hbase : attributeBase e "index" X.env (eval e X.env) = eval e X.env := by rfl)
    (hfew : ((backTo cpos (starEach [a] X.env)).all (fun x => !x.1) && (backToKw cpos (keywordEach [] X.env)).all (fun x => x.1.isSome)
      && decide ([a].length + ([] : List Keyword).length + (if ([] : List Keyword).isEmpty then 0 else 1) < 30)) = true := by rfl)
    (hline : (apos.endLine == cpos.line) = true := by rfl) (hs : starEach [a] X.env = (false, eval a X.env) :: starEach [] X.env := by rfl) (hplain : (backTo cpos (starEach [] X.env)).any (·.1) = false := by rfl) :
    VE X (.Call (.Attribute e "index" apos) [a] [] cpos) (eMeth isLO gIdxD me ma) := ve_meth PySem.F.slot_list_index PySem.F.type_list_index (mt_indexD hu) idxD_op he ha hbase hfew hline hs hplain
variable {mp : VEnv → Option (Nat × List Nat)} {tpos : Pos}
end
end VL
namespace VL
open PySem PySem.Spec PyProof.Rows L2
section
variable {X : Cx} {P : List Nat} {a b : Expr} {ma mb : DEnv → R O} {pos : Pos} {C f : Addr} {fd : FuncData} {ps : List Str} {sp : Sp} {k : Nat}
variable {N : List Str} {m : VEnv → RS} {w : Wd} {W : WX} {σ : L2.St} {H : Hp} {env : DEnv} {Q : VK}
end
end VL
namespace VL
open PySem PySem.Spec PyProof.Rows L2
section
variable {X : Cx} {P : List Nat} {a b : Expr} {rest : List Expr} {m m' : VEnv → RX O} {pos : Pos}
theorem GoodV.bl {f : Fm} {env : VEnv} {σ : L2.St} {H : Hp} {b : Bool} (g : Good f env σ H) : GoodV f env (.lf .fz (.bl b)) (.bl b) σ H :=
  let ⟨Z, Fs, g⟩ := g; ⟨Z, Fs, fun _ => False, g, by simp [RepO, Rep], fun _ z => z.elim⟩
end
end VL
namespace VL
open PySem PySem.Spec PyProof.Rows L2
section
variable {X : Cx} {P : List Nat} {E : Errs} {e a : Expr} {mx : VEnv → RX O} {mp : VEnv → Option (Nat × List Nat)} {pos tpos : Pos} {x y : Str}
end
end VL
namespace VL
open PySem PySem.Spec PyProof.Rows L2
theorem ArgsRep.seen {w w' : Wd} {H : Hp} {σ : L2.St} (hc : w'.cl = w.cl) (hz : Sub w.Z w'.Z) (hb : Sub w.B w'.B) : ∀ {sp : List (Option Nat)} {os : List O} {vs : List V} {F : Addr → Prop}, O.nos isTb os = true → ArgsRep w H σ sp os vs F → ArgsRep w' H σ sp os vs F
  | [], _, _, _, _, h => h
  | some i :: sp, os, vs, F, n, h => let ⟨v, r, e, e1, h⟩ := h; ⟨v, r, e, e1, ArgsRep.seen hc hz hb n h⟩
  | none :: sp, os, vs, F, n, h => by
    obtain ⟨o, q, v, r, F1, F2, rfl, rfl, s1, s2, d, h1, h2⟩ := h
    simp only [O.nos, Bool.and_eq_true] at n
    refine ⟨o, q, v, r, F1, F2, rfl, rfl, s1, s2, d, RepO.keep (p := isTb) hc (fun k hk => ?_) (fun _ _ e => e) n.1 (fun _ _ _ e _ => e) h1, ArgsRep.seen hc hz hb n.2 h2⟩
    cases k with
    | fz => exact KeepS.same (Same.refl _) hz
    | bo => exact KeepS.same (Same.refl _) hb
    | tb => cases hk
section
variable {X : Cx} {P : List Nat} {a : Expr} {es : List Expr} {mA : DEnv → R (List O)} {sp : List (Option Nat)} {x : Str} {pos p : Pos} {n : Nat} {m : VEnv → RS} {f : Fm} {W : WX}
end
end VL
namespace VL
open PySem PySem.Spec PyProof.Rows L2
section
variable {w : Wd} {H : Hp}
theorem RepOs.item : ∀ {os : List O} {k : Nat} {s : O} {vs : List V} {F : Addr → Prop}, RepOs w H os vs F → os[k]? = some s → ∃ v F1, vs[k]? = some v ∧ RepO w H s v F1 ∧ Sub F1 F ∧
    ∀ (w' : Wd) (H' : Hp) (s' : O) (F1' : Addr → Prop), w'.cl.b = w.cl.b → KeepS H H' w.Z w'.Z → O.nos notFz os = true → (∀ a u, F a → ¬ F1 a → H a = some u → H' a = some u) → RepO w' H' s' v F1' → (∀ a, F1' a → F a → F1 a) → RepOs w' H' (os.set k s') vs (fun a => (F a ∧ ¬ F1 a) ∨ F1' a)
  | [], k, s, vs, F, h, e => by simp at e
  | o :: os, 0, s, vs, F, h, e => by
    simp only [List.getElem?_cons_zero, Option.some.injEq] at e
    subst e
    simp only [RepOs] at h
    obtain ⟨v, r, Fa, Fb, rfl, sa, sb, d, h1, h2⟩ := h
    refine ⟨v, Fa, rfl, h1, sa, fun w' H' s' F1' e k n f h' hd => ?_⟩
    simp only [O.nos, Bool.and_eq_true] at n
    simp only [List.set_cons_zero, RepOs]
    refine ⟨v, r, F1', Fb, rfl, fun a z => .inr z, fun a z => .inl ⟨sb a z, fun q => d a q z⟩, fun a z q => d a (hd a z (sb a q)) q, h', ?_⟩
    exact RepOs.pass e k n.2 (fun a u z q => f a u (sb a z) (fun w => d a w z) q) h2
  | o :: os, k + 1, s, vs, F, h, e => by
    simp only [RepOs] at h
    obtain ⟨v, r, Fa, Fb, rfl, sa, sb, d, h1, h2⟩ := h
    obtain ⟨v1, F1, ev, hs, s1, up⟩ := RepOs.item h2 (by simpa using e)
    refine ⟨v1, F1, by simpa using ev, hs, fun a z => sb a (s1 a z), fun w' H' s' F1' e k n f h' hd => ?_⟩
    simp only [O.nos, Bool.and_eq_true] at n
    have h3 := up w' H' s' F1' e k n.2 (fun a u z q => f a u (sb a z) q) h' fun a z q => hd a z (sb a q)
    simp only [List.set_cons_succ, RepOs]
    refine ⟨v, r, Fa, _, rfl, fun a z => .inl ⟨sa a z, fun q => d a z (s1 a q)⟩, ?_, ?_, RepO.pass e k n.1 (fun a u z q => f a u (sa a z) (fun w => d a z (s1 a w)) q) h1, h3⟩
    · rintro a (z | z)
      · exact .inl ⟨sb a z.1, z.2⟩
      · exact .inr z
    · rintro a z (q | q)
      · exact d a z q.1
      · exact d a z (s1 a (hd a q (sa a z)))
end
section
variable {f : Fm} {Z Z2 : Addr → Prop} {Fs Fs2 : Nat → Addr → Prop} {env e2 : VEnv} {σ : L2.St} {H H2 : Hp} {i k : Nat} {os : List O} {s s' : O} {v0 v1 : V} {G2 F : Addr → Prop}
def lndF (i n : Nat) (Fs : Nat → Addr → Prop) (G2 : Addr → Prop) : Nat → Addr → Prop := fun j a => if j = n then G2 a else (j ≠ i ∧ Fs j a)
structure LndAt (f : Fm) (Z : Addr → Prop) (Fs : Nat → Addr → Prop) (env : VEnv) (σ : L2.St) (H : Hp) (i k : Nat) (os : List O) (s : O) (v0 v1 : V) (G2 : Addr → Prop) : Prop where
  sl : σ[i]? = some (some v0)
  wk : walkV H v0 [k] = some v1
  rs : RepO (f.w Z) H s v1 G2
  sb : Sub G2 (Fs i)
  up : ∀ (Z' : Addr → Prop) (H' : Hp) (s' : O) (G' : Addr → Prop), KeepS H H' Z Z' → O.nos notFz os = true → (∀ a u, Fs i a → ¬ G2 a → H a = some u → H' a = some u) → RepO (f.w Z') H' s' v1 G' → (∀ a, G' a → Fs i a → G2 a) →
    RepO (f.w Z') H' (.lst (os.set k s')) v0 (fun a => (Fs i a ∧ ¬ G2 a) ∨ G' a)
theorem GoodAt.item (g : GoodAt f Z Fs env σ H) (e : env[i]? = some (some (.lst os))) (es : os[k]? = some s) : ∃ v0 v1 G2, LndAt f Z Fs env σ H i k os s v0 v1 G2 := by
  obtain ⟨v0, ev, r⟩ := g.rep i _ e
  simp only [RepO] at r
  obtain ⟨a, us, G, rfl, ha, fa, ga, sg, q⟩ := r
  obtain ⟨v1, G2, e1, hs, s1, up⟩ := RepOs.item q es
  refine ⟨.ref a, v1, G2, ev, ?_, hs, fun b z => sg b (s1 b z), fun Z' H' s' G' k n kf h' hd => ?_⟩
  · simp [walkV, kidV, ha, e1]
  · have na : ¬ G2 a := fun z => ga (s1 a z)
    simp only [RepO]
    refine ⟨a, us, _, rfl, kf a _ fa na ha, .inl ⟨fa, na⟩, ?_, ?_, up (f.w Z') H' s' G' rfl k n (fun b u z q => kf b u (sg b z) q) h' fun b z q => hd b z (sg b q)⟩
    · rintro (z | z)
      · exact ga z.1
      · exact na (hd a z fa)
    · rintro b (z | z)
      · exact .inl ⟨sg b z.1, z.2⟩
      · exact .inr z
theorem GoodAt.lend (g : GoodAt f Z Fs env σ H) (l : LndAt f Z Fs env σ H i k os s v0 v1 G2) : GoodAt (f.hid i v0 Z (lndF i env.length Fs G2) H) Z (lndF i env.length Fs G2) (env.set i none ++ [some s]) (σ ++ [some v1]) H := by
  have hlen := g.len
  have hi : i < σ.length := (List.getElem?_eq_some_iff.mp l.sl).1
  have hin : i ≠ env.length := by omega
  have own : ∀ j a, lndF i env.length Fs G2 j a → ∃ j', Fs j' a ∧ (j = env.length → j' = i) ∧ (j ≠ env.length → j' = j ∧ j ≠ i) := fun j a z => by
    unfold lndF at z
    split at z
    · rename_i q; exact ⟨i, l.sb a z, fun _ => rfl, fun w => absurd q w⟩
    · rename_i q; exact ⟨j, z.2, fun w => absurd w q, fun _ => ⟨rfl, z.1⟩⟩
  refine ⟨fun j o e => ?_, fun j j' a n h h' => ?_, fun j a h => ?_, g.zal, g.bal, fun b u e _ => Same.refl H b u e, ⟨fun _ n => n, g.there.2⟩, fun j a h => ?_, fun a z => .inl z, fun _ z => z, fun p hp => ?_, by simp [hlen]⟩
  · by_cases hj : j < env.length
    · rw [List.getElem?_append_left (by rw [List.length_set]; exact hj)] at e
      by_cases q : i = j
      · subst q
        rw [List.getElem?_set_self hj] at e
        cases e
      · rw [List.getElem?_set_ne q] at e
        obtain ⟨u, eu, r⟩ := g.rep j o e
        refine ⟨u, by rw [List.getElem?_append_left (by omega)]; exact eu, ?_⟩
        have e2 : lndF i env.length Fs G2 j = Fs j := by
          funext a
          unfold lndF
          rw [if_neg (by omega)]
          exact propext ⟨fun z => z.2, fun z => ⟨fun w => q w.symm, z⟩⟩
        show RepO (f.w Z) H o u (lndF i env.length Fs G2 j)
        rw [e2]
        exact r
    · rw [List.getElem?_append_right (by rw [List.length_set]; omega), List.length_set] at e
      have hj2 : j = env.length := by
        cases h : j - env.length with
        | zero => omega
        | succ k => rw [h] at e; simp at e
      subst hj2
      simp only [Nat.sub_self, List.getElem?_cons_zero, Option.some.injEq] at e
      subst e
      refine ⟨v1, by rw [List.getElem?_append_right (by omega), hlen, Nat.sub_self]; rfl, ?_⟩
      have e2 : lndF i env.length Fs G2 env.length = G2 := by
        funext a
        unfold lndF
        rw [if_pos rfl]
      show RepO (f.w Z) H s v1 (lndF i env.length Fs G2 env.length)
      rw [e2]
      exact l.rs
  · obtain ⟨q, h1, h2, h3⟩ := own j a h
    obtain ⟨q', h1', h2', h3'⟩ := own j' a h'
    by_cases e1 : j = env.length
    · have n2 : j' ≠ env.length := fun e2 => n (e1.trans e2.symm)
      obtain ⟨rfl, n3⟩ := h3' n2
      rw [h2 e1] at h1
      exact g.dis i q' a (fun e => n3 e.symm) h1 h1'
    · obtain ⟨rfl, n3⟩ := h3 e1
      by_cases e2 : j' = env.length
      · rw [h2' e2] at h1'
        exact g.dis q i a n3 h1 h1'
      · obtain ⟨rfl, _⟩ := h3' e2
        exact g.dis q q' a n h1 h1'
  · obtain ⟨q, h1, _, _⟩ := own j a h
    exact g.own q a h1
  · refine .inl ⟨j, fun e => ?_, h⟩
    subst e
    unfold lndF at h
    rw [if_neg hin] at h
    exact h.1 rfl
  · rcases List.mem_cons.mp hp with rfl | hp
    · show (σ ++ [some v1])[i]? = _
      rw [List.getElem?_append_left hi]; exact l.sl
    · have := g.pin p hp
      have hp2 : p.1 < σ.length := (List.getElem?_eq_some_iff.mp this).1
      rw [List.getElem?_append_left hp2]; exact this
def unF (i n : Nat) (Fi G2 : Addr → Prop) (Fs2 : Nat → Addr → Prop) : Nat → Addr → Prop := fun j a => if j = i then (Fi a ∧ ¬ G2 a) ∨ Fs2 n a else (j < n ∧ Fs2 j a)
theorem lnd_f0 (g : GoodAt f Z Fs env σ H) (l : LndAt f Z Fs env σ H i k os s v0 v1 G2) {a : Addr} (h : (f.hid i v0 Z (lndF i env.length Fs G2) H).F0 a) : (f.F0 a ∨ f.H0 a = none) ∧ ¬ (Fs i a ∧ ¬ G2 a) ∧ ∃ j, Fs j a := by
  obtain ⟨j, n, q⟩ := h
  unfold lndF at q
  split at q
  · exact ⟨g.fnew i a (l.sb a q), fun w => w.2 q, i, l.sb a q⟩
  · exact ⟨g.fnew j a q.2, fun w => g.dis i j a (fun e => n e.symm) w.1 q.2, j, q.2⟩
theorem GoodAt.unlend (g : GoodAt f Z Fs env σ H) (l : LndAt f Z Fs env σ H i k os s v0 v1 G2) (nf : O.nos notFz os = true) (h : GoodAt (f.hid i v0 Z (lndF i env.length Fs G2) H) Z2 Fs2 e2 (σ ++ [some v1]) H2) (e' : e2[env.length]? = some (some s')) :
    GoodAt f Z2 (unF i env.length (Fs i) G2 Fs2) ((e2.take env.length).set i (some (.lst (os.set k s')))) σ H2 := by
  have hlen := g.len
  have hl2 := h.len
  rw [List.length_append, List.length_singleton] at hl2
  have hi : i < σ.length := (List.getElem?_eq_some_iff.mp l.sl).1
  have kt : ∀ a xs, H a = some (.tup xs) → H2 a = some (.tup xs) := fun a xs e => h.keep a _ e fun w => by
    obtain ⟨_, _, j, q⟩ := lnd_f0 g l w
    obtain ⟨u, e', n⟩ := (g.own j a q).2.2
    rw [e] at e'; cases e'; exact n
  have hz : ∀ a u, Z a → H a = some u → Kp H H2 a u := fun a u z e => h.keep a u e fun w => by
    obtain ⟨_, _, j, q⟩ := lnd_f0 g l w
    exact (g.own j a q).1 z
  have kz : KeepS H H2 Z Z2 := ⟨fun a u z r n => ⟨h.zold a z, r.elim (fun e => .inl ((hz a _ z e).nt n)) fun ⟨o, e⟩ => .inr ⟨o, hz a _ z e⟩⟩, fun a C dx fs z e => hz a _ z e, kt, fun a xs z e => hz a _ z e, fun a xs z e => hz a _ z e⟩
  have kf : ∀ a u, Fs i a → ¬ G2 a → H a = some u → H2 a = some u := fun a u q n e => (h.keep a u e fun w => (lnd_f0 g l w).2.1 ⟨q, n⟩).nt ((g.own i a q).2.2.nt e)
  have nf0 : ∀ a, Fs i a → H a ≠ none := fun a q => (g.own i a q).2.2.ne
  have notF : ∀ j a, Fs2 j a → ¬ (Fs i a ∧ ¬ G2 a) := fun j a q w => by
    rcases h.fnew j a q with z | z
    · exact (lnd_f0 g l z).2.1 w
    · exact nf0 a w.1 z
  have hs : RepO (f.w Z2) H2 s' v1 (Fs2 env.length) := by
    obtain ⟨u, eu, r⟩ := h.rep _ _ e'
    rw [List.getElem?_append_right (by omega), hlen, Nat.sub_self] at eu
    cases eu
    exact r
  have hd : ∀ a, Fs2 env.length a → Fs i a → G2 a := fun a z q => Classical.byContradiction fun n => notF _ a z ⟨q, n⟩
  have whole := l.up Z2 H2 s' (Fs2 env.length) kz nf kf hs hd
  refine ⟨fun j p e => ?_, fun j j' a ne h1 h2 => ?_, fun j a q => ?_, h.zal, h.bal, fun a u e m => (g.keep a u e m).thn fun o eo => h.keep a o eo fun w => ?_, ⟨fun a m => h.there.1 a (g.there.1 a m), h.there.2⟩, fun j a q => ?_, fun a q => ?_, fun a q => h.zold a (g.zold a q), fun p hp => g.pin p hp, by rw [List.length_set, List.length_take]; omega⟩
  · by_cases q : i = j
    · subst q
      rw [List.getElem?_set_self (by rw [List.length_take]; omega)] at e
      cases e
      refine ⟨v0, l.sl, ?_⟩
      have e2 : unF i env.length (Fs i) G2 Fs2 i = fun a => (Fs i a ∧ ¬ G2 a) ∨ Fs2 env.length a := by
        funext a
        unfold unF
        rw [if_pos rfl]
      rw [e2]
      exact whole
    · rw [List.getElem?_set_ne q, List.getElem?_take] at e
      split at e
      · rename_i hj
        obtain ⟨u, eu, r⟩ := h.rep j p e
        rw [List.getElem?_append_left (by omega)] at eu
        refine ⟨u, eu, ?_⟩
        have e2 : unF i env.length (Fs i) G2 Fs2 j = Fs2 j := by
          funext a
          unfold unF
          rw [if_neg (fun w => q w.symm)]
          exact propext ⟨fun z => z.2, fun z => ⟨hj, z⟩⟩
        rw [e2]
        exact r
      · cases e
  · unfold unF at h1 h2
    split at h1 <;> split at h2
    · rename_i e1 e2; exact ne (e1.trans e2.symm)
    · rcases h1 with h1 | h1
      · exact notF j' a h2.2 h1
      · exact h.dis env.length j' a (by omega) h1 h2.2
    · rcases h2 with h2 | h2
      · exact notF j a h1.2 h2
      · exact h.dis j env.length a (by omega) h1.2 h2
    · exact h.dis j j' a ne h1.2 h2.2
  · have old : Fs i a → ¬ G2 a → ¬ Z2 a ∧ ¬ f.B a ∧ NT (H2 a) := fun q n => by
      have o1 := g.own i a q
      refine ⟨fun z => ?_, o1.2.1, ?_⟩
      · rcases h.znew a z with w | w | w
        · exact o1.1 w
        · exact (lnd_f0 g l w).2.1 ⟨q, n⟩
        · exact nf0 a q w
      · obtain ⟨u, eu, nu⟩ := o1.2.2
        exact ⟨u, kf a u q n eu, nu⟩
    unfold unF at q
    split at q
    · rcases q with q | q
      · exact old q.1 q.2
      · exact h.own _ a q
    · exact h.own j a q.2
  · rcases (lnd_f0 g l w).1 with z | z
    · exact m z
    · rw [e] at z; cases z
  · have new : ∀ j, Fs2 j a → f.F0 a ∨ f.H0 a = none := fun j q => by
      rcases h.fnew j a q with z | z
      · exact (lnd_f0 g l z).1
      · exact .inr (free_of g z)
    unfold unF at q
    split at q
    · rcases q with q | q
      · exact g.fnew i a q.1
      · exact new _ q
    · exact new _ q.2
  · rcases h.znew a q with z | z | z
    · exact g.znew a z
    · exact .inr (lnd_f0 g l z).1
    · exact .inr (.inr (free_of g z))
theorem Extra.unlend (g : GoodAt f Z Fs env σ H) (l : LndAt f Z Fs env σ H i k os s v0 v1 G2) (x : Extra (f.hid i v0 Z (lndF i env.length Fs G2) H) Z2 Fs2 H2 F) : Extra f Z2 (unF i env.length (Fs i) G2 Fs2) H2 F := fun a q => by
  obtain ⟨h1, h2, h3, h4, h5⟩ := x a q
  have nj : ¬ (Fs i a ∧ ¬ G2 a) := fun w => by
    rcases h4 with z | z
    · exact (lnd_f0 g l z).2.1 w
    · exact (g.own i a w.1).2.2.ne z
  refine ⟨h1, h2, h3, ?_, fun j w => ?_⟩
  · rcases h4 with z | z
    · exact (lnd_f0 g l z).1
    · exact .inr (free_of g z)
  · unfold unF at w
    split at w
    · rcases w with w | w
      · exact nj w
      · exact h5 _ w
    · exact h5 _ w.2
end
def unlR (i n k : Nat) (os : List O) : RX O → RX O
  | .ok o e => (match e[n]? with
    | some (some s') => .ok o ((e.take n).set i (some (.lst (os.set k s'))))
    | _ => .no)
  | .ex x e => (match e[n]? with
    | some (some s') => .ex x ((e.take n).set i (some (.lst (os.set k s'))))
    | _ => .no)
  | .no => .no
def lendI (i k : Nat) (body : VEnv → RX O) : VEnv → RX O := fun env => match env[i]? with
  | some (some (.lst os)) => (match os[k]? with
    | some s => if O.nos notFz os then unlR i env.length k os (body (env.set i none ++ [some s])) else .no
    | none => .no)
  | _ => .no
theorem lendI_out {f : Fm} {Z : Addr → Prop} {Fs : Nat → Addr → Prop} {env : VEnv} {σ : L2.St} {H : Hp} {i k : Nat} {W : WX} {Q : VK} {body : VEnv → RX O} (g : GoodAt f Z Fs env σ H) (h : EOut f W σ (lendI i k body env) Q) :
    ∃ os s v0 v1 G2, env[i]? = some (some (.lst os)) ∧ os[k]? = some s ∧ σ[i]? = some (some v0) ∧ walkV H v0 [k] = some v1 ∧ GoodAt (f.hid i v0 Z (lndF i env.length Fs G2) H) Z (lndF i env.length Fs G2) (env.set i none ++ [some s]) (σ ++ [some v1]) H ∧
      EOut (f.hid i v0 Z (lndF i env.length Fs G2) H) (fun cls d _ H' => W cls d σ H') (σ ++ [some v1]) (body (env.set i none ++ [some s])) Q := by
  unfold lendI at h
  split at h
  · rename_i os eo
    split at h
    · rename_i s es
      split at h
      · rename_i nf
        obtain ⟨v0, v1, G2, l⟩ := g.item eo es
        refine ⟨os, s, v0, v1, G2, eo, es, l.sl, l.wk, g.lend l, ?_⟩
        cases e : body (env.set i none ++ [some s]) with
        | no => rw [e] at h; exact h
        | ok o e2 =>
          rw [e] at h
          unfold unlR at h
          simp only at h
          split at h
          · rename_i s' e'
            rintro v H' ⟨Z2, Fs2, F, g2, r, x⟩
            exact h v H' ⟨Z2, _, F, g.unlend l nf g2 e', r, x.unlend g l⟩
          · exact h.elim
        | ex x e2 =>
          rw [e] at h
          unfold unlR at h
          simp only at h
          split at h
          · rename_i s' e'
            rintro cls d H' ⟨Z2, Fs2, F, g2, r, x⟩
            exact h cls d H' ⟨Z2, _, F, g.unlend l nf g2 e', r, x.unlend g l⟩
          · exact h.elim
      · exact h.elim
    · exact h.elim
  · exact h.elim
end VL
namespace VL
open PySem PySem.Spec PyProof.Rows L2
theorem ArgsRep.ext {w : Wd} {H : Hp} {σ ts : L2.St} : ∀ {sp : List (Option Nat)} {os : List O} {vs : List V} {F : Addr → Prop}, ArgsRep w H σ sp os vs F → ArgsRep w H (σ ++ ts) sp os vs F
  | [], _, _, _, h => h
  | some i :: sp, os, vs, F, h => by
    obtain ⟨v, r, e, e1, h⟩ := h
    have hi : i < σ.length := (List.getElem?_eq_some_iff.mp e1).1
    exact ⟨v, r, e, by rw [List.getElem?_append_left hi]; exact e1, ArgsRep.ext h⟩
  | none :: sp, os, vs, F, h => by
    obtain ⟨o, q, v, r, F1, F2, e1, e2, s1, s2, d, h1, h2⟩ := h
    exact ⟨o, q, v, r, F1, F2, e1, e2, s1, s2, d, h1, ArgsRep.ext h2⟩
def callPS (n : Nat) (m : VEnv → RS) (mp : VEnv → Option (Nat × List Nat)) (sp : List (Option Nat)) (mA : DEnv → R (List O)) : VEnv → RX O := fun env => match mp env with
  | some (i, [k]) => if lentOk sp env then (match mA (dl env) with
    | .no => .no
    | .ex x => if O.nos isTb x.xs then .ex x env else .no
    | .ok os => if O.nos isTb os then lendI i k (callW n m (some env.length :: sp) (fun _ => .ok os)) env else .no) else .no
  | _ => .no
section
variable {X : Cx} {P : List Nat} {a e : Expr} {es : List Expr} {mp : VEnv → Option (Nat × List Nat)} {mA : DEnv → R (List O)} {sp : List (Option Nat)} {x : Str} {pos p : Pos} {n : Nat} {m : VEnv → RS} {f : Fm} {W : WX}
theorem lent_nodup {env : VEnv} (hl : lentOk sp env = true) (nd : (sp.filterMap id).Nodup) : ((some env.length :: sp).filterMap id).Nodup := by
  rw [List.filterMap_cons_some (f := id) (a := some env.length) (b := env.length) rfl, List.nodup_cons]
  refine ⟨fun h => ?_, nd⟩
  obtain ⟨q, hq, e⟩ := List.mem_filterMap.mp h
  simp only [id] at e
  subst e
  obtain ⟨o, e⟩ := lentOk_at hl hq
  exact absurd (List.getElem?_eq_some_iff.mp e).1 (Nat.lt_irrefl _)
theorem callPS_run {N : List Str} {σ : L2.St} {H : Hp} {Q : VK} (hf : FOk X P f) (hn : sp.length + 1 = n) (nd : (sp.filterMap id).Nodup) (h : rX f W (callPS N.length m mp sp mA) σ H Q) :
    rP f mp σ H fun v H1 => ∃ w : Wd, ClOk X w.cl ∧ rQ w W sp mA σ H1 fun vs H2 => SpV X.K X.mg N n (pinsW 0 (some 0 :: sp)) m (v :: vs) H2 Q (fun cls d H => W cls d σ H) := by
  obtain ⟨env, ⟨Z, Fs, g⟩, h⟩ := h
  replace h : EOut f W σ (callPS N.length m mp sp mA env) Q := h
  refine ⟨Z, Fs, env, g, ?_⟩
  unfold callPS at h
  split at h
  · rename_i i k em
    rw [em]
    simp only
    split at h
    · rename_i hl
      intro v0 v H1 ev s1 ew
      refine ⟨tw f Z Fs, hf.1, dl env, (g.same s1).goodE, fun i hi => ?_, ?_⟩
      · obtain ⟨o, e⟩ := lentOk_at hl hi
        obtain ⟨v, ev, _⟩ := g.rep i o e
        exact ⟨v, ev⟩
      · cases eA : mA (dl env) with
        | no => rw [eA] at h; exact h
        | ex y =>
          rw [eA] at h
          simp only at h
          split at h
          · rename_i q1
            exact fun cls d H' F s r fr => h cls d H' ⟨Z, Fs, F, (g.same s1).same s, RepX.unlend q1 r, (g.same s1).fresh fr⟩
          · exact h.elim
        | ok os =>
          rw [eA] at h
          simp only at h
          split at h
          · rename_i q1
            intro vs H2 F1 s r fr
            obtain ⟨as, t, u0, u1, G2, e1, e2, e3, e4, g2, h2⟩ := lendI_out (g.same s1) h
            rw [ev] at e3
            cases e3
            rw [ew] at e4
            cases e4
            have hlen := g.len
            refine callW_out (f := f.hid i v0 Z (lndF i env.length Fs G2) H1) (W := fun cls d _ H' => W cls d σ H') (sp := some env.length :: sp) (mA := fun _ => .ok os) hf.1 (by simp [hn]) (lent_nodup hl nd) g2 rfl s ?_ fr h2
            refine ⟨v, vs, rfl, by rw [List.getElem?_append_right (by omega), hlen, Nat.sub_self]; rfl, ?_⟩
            exact ArgsRep.ext (ArgsRep.seen (w := tw f Z Fs) (w' := tw (f.hid i v0 Z (lndF i env.length Fs G2) H1) Z (restF (some env.length :: sp) (lndF i env.length Fs G2))) rfl (fun _ z => z) (fun _ z => z) q1 r)
          · exact h.elim
    · exact h.elim
  · exact h.elim
theorem vx_callPS {k : Nat} {N ps : List Str} {pi : List Nat} (F : OkFW X.prog X.w X.K X.mg X.base x N ps pi m k) (hr : Room k X.A) (hp : VP X P a mp) (hq : VQ X (e :: es) sp mA) {n : Nat} (hNn : N.length = n := by rfl) (hpi : pinsW 0 (some 0 :: sp) = pi := by rfl) (hsp : sp.length + 1 = ps.length := by rfl) (nd : (sp.filterMap id).Nodup := by decide) (hg : Gl X x := by rfl) (hdb : (x == ("__debug__" : Str)) = false := by decide)
    (he : starEach (a :: e :: es) X.env = (false, eval a X.env) :: starEach (e :: es) X.env := by rfl) (hpl : (backTo pos (starEach (e :: es) X.env)).any (·.1) = false := by rfl) : VX X P (.Call (.Name x p) (a :: e :: es) [] pos) (callPS n m mp sp mA) := fun W tk f hf => by
  subst hNn
  subst hpi
  obtain ⟨fa, fd, hm, hk, hb, F⟩ := F
  exact (pe_callS (E := WE W) F hr hg hm hk hb (fun σ => passAt tk σ) (pa_cons (hp W tk f hf) (hq.ew tk) he) hdb he hpl).imp fun σ H Q h => callPS_run hf hsp nd h
end
end VL
namespace L2
open PySem PySem.Spec PyProof.Rows
section
variable {X : Cx}
end
section
variable {X : Cx} {C fi fl : Addr} {F : Str} {fdI : FuncData} {n : Nat} {tg e : Expr} {te : TE}
end
end L2
namespace VL
open PySem PySem.Spec PyProof.Rows L2
section
variable {X : Cx} {P : List Nat} {tg a : Expr} {g : TG} {ma : DEnv → R O} {k : Nat}
end
end VL
namespace VL
open PySem PySem.Spec PyProof.Rows L2
section
variable {prog : Program} {w : World} {A : Around} {E : Value → Shared → Prop} {env : Env} {s : Shared}
end
section
variable {M : Model} {Γ : PySem.Ctx} {L : Addr} {env : Env} {s : Shared} {base : Heap} {e : Addr} {Z : Obj → Prop} {p : Pos}
end
section
variable {X : Cx} {f₀ : Stmt} {fs : List Stmt} {tfs : TS} {Wout : WX} {pins : List (Addr × Obj)} {D : Ends} {u : Value} {s' : Shared} {xe : Value → Shared → Prop}
end
section
variable {X : Cx} {P : List Nat} {body : List Stmt} {f₀ : Stmt} {fs : List Stmt} {pos : Pos} {m mF : VEnv → RS}
end
end VL
namespace VL
open PySem PySem.Spec PyProof.Rows L2 HotX
section
variable {prog : Program} {w : World} {A : Around} {E : Value → Shared → Prop} {env : Env} {s : Shared} {x c : Sem Value} {Q : Flow → Shared → Prop} {x1 : Addr}
end
section
end
end VL
namespace VL
open PySem PySem.Spec PyProof.Rows L2 HotX
abbrev suiteZ (X : Cx) (a : Addr) (pn : List (Addr × Obj)) (xe : Value → Shared → Prop) : Cx := { X with A := X.A.mark (some (.ref a)), calm := false, pn := pn, xe := xe }
section
variable {X : Cx} {pins : List (Addr × Obj)} {σ : L2.St} {H : Hp} {s : Shared}
theorem Inv.toZ {a : Addr} {pn pn' : List (Addr × Obj)} {xe : Value → Shared → Prop} (I : Inv (X.suite a pn) pn' σ H s) : Inv (suiteZ X a pn xe) pn' σ H s := Inv.unwish (X := suiteZ X a pn xe) (E := fun _ _ => False) I
theorem Inv.ofZ {a : Addr} {q : Addr × Obj} {pn' : List (Addr × Obj)} {xe : Value → Shared → Prop} (I : Inv (suiteZ X a (q :: (X.pn ++ pins)) xe) pn' σ H s) (ok : X.Ok) : Inv X pins σ H s :=
  Inv.unsuite (X := X) (a := a) (q := q) (pn' := pn') (show Inv (X.suite a (q :: (X.pn ++ pins))) pn' σ H s from I.wish fun _ _ => False) ok
end
section
variable {X : Cx} {pins : List (Addr × Obj)} {Wo : WX} {i : Nat} {n : Str} {pz : Pos}
theorem gone_exc {a : Addr} {oe : Obj} {xe N N2 N3 : Value → Shared → Prop} {A' : Around} {u : Value} {s' : Shared} (hA : A'.frames = some (X.env :: X.outer)) (hst : X.stack = X.env :: X.outer) (hfr : X.env.frame = some X.env.locals) (hx0 : X.ex = []) (ok : X.Ok) (hN : X.N.Nodup) (hi : X.N[i]? = some n) (hl : X.env.kindOf n = some .local) (tk : L2.Takes X Wo) (hn : ∀ e s, X.xe e s → N e s)
    (xx : L2.XE (suiteZ X a ((a, oe) :: (X.pn ++ pins)) xe) (fun c d τ G => Wo c d (τ.set i none) G) u s') :
    wpAny (model X.prog X.w) A' (noteFrame u X.env) (fun _ s1 => wpAny (model X.prog X.w) A' (do bindName X.env n .none; unbindBehindTheSuite X.env n pz) (fun _ s2 => wpAny (model X.prog X.w) A' (passOn "try.except-as" u X.env : Sem Flow) (fun _ _ => False) N s2) N2 s1) N3 s' := by
  obtain ⟨b, B, sI, pins', τ, G, cls, d, rfl, J', nb, up, sk0, nG, os, ag, hw⟩ := xx
  have J : Inv X pins τ G sI := Inv.ofZ J' ok
  have sk : Sky B (X.env :: X.outer) b (Zc cls d) X.env.locals s'.heap := hst ▸ sk0
  have fin : ∀ h1, HandSPX.HeldZ B (X.env :: X.outer) b (Zc cls d) X.env.locals h1 → s'.heap.UpToSlots h1 →
      wpAny (model X.prog X.w) A' (do bindName X.env n .none; unbindBehindTheSuite X.env n pz) (fun _ s2 => wpAny (model X.prog X.w) A' (passOn "try.except-as" (.ref b) X.env : Sem Flow) (fun _ _ => False) N s2) N2 { s' with heap := h1 } := fun h1 hh1 up1 => by
    have J1 : Inv X pins τ G { s' with heap := h1 } := J.landed nb hh1.1 (up.trans up1) os ag
    obtain ⟨c1, c2, c3, ob, vb, T, oT, vT, eb, zb, db, v1b, noT, Tb, eT, dT, fl⟩ := id hh1
    have gT : G T = none := (J.inGround nb).gone noT
    have apart : ∀ (c : Addr) (o : Obj) (vs : Array Value), h1.get? c = some o → o.data = .fields vs → c ∉ frs (X.env :: X.outer) := fun c o vs e dd hm => by
      obtain ⟨_, o', e', nf⟩ := c3.mem hm
      have eo := Option.some.inj (e.symm.trans e')
      exact nf vs (eo ▸ dd)
    have mL : X.env.locals ∈ frs (X.env :: X.outer) := List.mem_filterMap.mpr ⟨X.env, by simp, hfr⟩
    have mF : ∀ c ∈ X.fs, c ∈ frs (X.env :: X.outer) := fun c hm => by
      obtain ⟨e, he, q⟩ := List.mem_filterMap.mp hm
      exact List.mem_filterMap.mpr ⟨e, by simp [he], q⟩
    have ab := apart b ob vb eb db
    have aT := apart T oT vT eT dT
    have pinsOk : ∀ p : Addr × Obj, p ∈ X.pn ++ ((b, ob) :: (T, oT) :: pins) → h1.get? p.1 = some p.2 ∧ G p.1 = none ∧ p.1 ≠ X.env.locals ∧ p.1 ∉ X.fs ∧ ∀ v, p.2.data ≠ .cell v := fun p hp => by
      have two : ∀ (c : Addr) (o : Obj) (vs : Array Value), h1.get? c = some o → o.data = .fields vs → G c = none → c ∉ frs (X.env :: X.outer) → h1.get? c = some o ∧ G c = none ∧ c ≠ X.env.locals ∧ c ∉ X.fs ∧ ∀ v, o.data ≠ .cell v := fun c o vs e dd g nf => ⟨e, g, fun z => nf (z ▸ mL), fun z => nf (mF c z), fun v z => by rw [dd] at z; cases z⟩
      rcases List.mem_append.mp hp with h | h
      · exact J1.pin p (List.mem_append_left _ h)
      · rcases List.mem_cons.mp h with rfl | h
        · exact two _ _ _ eb db nG ab
        · rcases List.mem_cons.mp h with rfl | h
          · exact two _ _ _ eT dT gT aT
          · exact J1.pin p (List.mem_append_right _ h)
    have S1 : Inv X ((b, ob) :: (T, oT) :: pins) τ G { s' with heap := h1 } := ⟨J1.ok, J1.os, J1.bare, J1.base, J1.loc, J1.cell, J1.free, J1.freeC, pinsOk, J1.hok, J1.len⟩
    refine gone_ok S1 hN hi hl fun s7 S7 => ?_
    have pb := S7.pin (b, ob) (by simp)
    have pT := S7.pin (T, oT) (by simp)
    have J7 : Inv X pins (τ.set i none) G s7 := ⟨S7.ok, S7.os, S7.bare, S7.base, S7.loc, S7.cell, S7.free, S7.freeC, fun p hp => S7.pin p (by
      rcases List.mem_append.mp hp with h | h
      · exact List.mem_append_left _ h
      · exact List.mem_append_right _ (by simp [h])), S7.hok, S7.len⟩
    have away : ∀ c o, sI.heap.get? c = some o → c ≠ b ∧ c ≠ T := fun c o e => by
      by_cases hc : c ∈ frs X.stack
      · rw [hst] at hc
        exact ⟨fun z => ab (z ▸ hc), fun z => aT (z ▸ hc)⟩
      · have q := nb c o e hc
        refine ⟨fun z => ?_, fun z => ?_⟩
        · rw [z, c2] at q; cases q
        · rw [z, noT] at q; cases q
    have away0 : ∀ c o, X.s_0.heap.get? c = some o → c ≠ b ∧ c ≠ T := fun c o e => by
      obtain ⟨o', q⟩ := J.base.there c o e (by rw [hx0]; simp)
      exact away c o' q
    obtain ⟨K, k1, k2⟩ := restrict s7.heap fun c => !(decide (c = b) || decide (c = T))
    have kIn : ∀ c o, K.get? c = some o → s7.heap.get? c = some o ∧ c ≠ b ∧ c ≠ T := fun c o e => by
      cases q : (!(decide (c = b) || decide (c = T))) with
      | false => rw [k2 c q] at e; cases e
      | true =>
        rw [k1 c q] at e
        simp only [Bool.not_eq_true', Bool.or_eq_false_iff, decide_eq_false_iff_not] at q
        exact ⟨e, q.1, q.2⟩
    have kOf : ∀ c o, c ≠ b → c ≠ T → s7.heap.get? c = some o → K.get? c = some o := fun c o h1 h2 e => (k1 c (by simp [h1, h2])).trans e
    have J8 : Inv X pins (τ.set i none) G { s7 with heap := K } := J7.less (fun c o e => (kIn c o e).1) kOf ⟨ob, vb, pb.1, db⟩ ⟨oT, vT, pT.1, dT⟩ nG gT away0 fun p hp => away p.1 p.2 (J.pin p hp).1
    have gone : ∀ c, (c = b ∨ c = T) → (PySem.W.hideAll K (frs X.stack)).get? c = none := fun c hc => by
      cases q : (PySem.W.hideAll K (frs X.stack)).get? c with
      | none => rfl
      | some o =>
        obtain ⟨_, n1, n2⟩ := kIn c o (PySem.W.of_hideAll _ q)
        exact hc.elim (fun z => absurd z n1) fun z => absurd z n2
    have held : HandSPX.HeldZ (PySem.W.hideAll K (frs X.stack)) (X.env :: X.outer) b (Zc cls d) X.env.locals s7.heap :=
      ⟨fun c o e => (kIn c o (PySem.W.of_hideAll _ e)).1, gone b (.inl rfl), hst ▸ funFrames_none (B := PySem.W.hideAll K (frs X.stack)) J7.stack fun c hc => PySem.W.hideAll_none _ hc, ob, vb, T, oT, vT, pb.1, zb, db, v1b, gone T (.inr rfl), Tb, pT.1, dT, fl⟩
    unfold PySem.passOn
    refine wpAny_bind (wpAny_field pb.1 db v1b ?_)
    rw [if_neg (by simp : ¬ ((Value.ref T == Value.none) = true))]
    have out : wpAny (model X.prog X.w) A' (setFlight (.ref b) X.env.frame) (fun _ s4 => wpAny (model X.prog X.w) A' (throw (.ref b) : Sem Flow) (fun _ _ => False) N s4) N s7 := by
      rw [hfr]
      refine HandSPX.setFlight_onZ held fun h4 hh4 up4 => wpAny_throw (hn _ _ (tk _ _ ⟨b, PySem.W.hideAll K (frs X.stack), { s7 with heap := K }, pins, τ.set i none, G, cls, d, rfl, J8, fun c o e hc => PySem.W.hideAll_get _ e hc, (Heap.UpToSlots.of_keeps fun c o e => (kIn c o e).1).trans up4, .inr (.inr (hst ▸ hh4)), nG, rfl, J7.bare, hw⟩))
    first | exact wpAny_bind (wpAny_pure (wpAny_bind out)) | exact wpAny_bind out
  rcases sk with ⟨q1, q2, q3, ob, vs, e0, z0, d0, w0⟩ | f0 | h0
  · exact HandSPX.look_newZ Zc.steady hA q3 hfr e0 q1 q2 d0 w0 z0 fin
  · exact HandSPX.looks_onZ Zc.steady hA hfr f0 fin
  · exact HandSPX.againZ hfr h0.2.2.2 (fin s'.heap h0 (Heap.UpToSlots.refl _))
end
def wTryR (K : PySem.W.Frag) (mg : Str → Option Value) (c : Value) (i : Nat) (ts : Addr → Value → Option Addr → TS) (D : Ends) : WX := fun cls d σ H => ¬ BadC mg cls ∧ PySem.W.exmOne K cls c = some true ∧
  ∀ a, H a = none → ts a cls d ⟨fun τ G => D.nx (τ.set i none) G, D.rt, fun τ G => D.bk (τ.set i none) G, fun τ G => D.ct (τ.set i none) G⟩ (σ.set i (some (.ref a))) H
section
variable {X : Cx} {x n : Str} {c : Value} {i : Nat} {body suite : List Stmt} {b₀ : Stmt} {np pos pz : Pos} {tb : WX → TS} {ts : Addr → Value → Option Addr → TS} {Wo : WX}
theorem ps_tryR (hst : X.stack = X.env :: X.outer) (hfr : X.env.frame = some X.env.locals) (hx0 : X.ex = []) (hN : X.N.Nodup) (hi : X.N[i]? = some n) (hl : X.env.kindOf n = some .local) (hc : Names X x c) (hpa : ∀ hd : Option Value, PassesOwnAt (model X.prog X.w) (X.A.mark hd) X.A X.env X.xe) (tk : L2.Takes X Wo)
    (hb : ∀ (W : WX) (pn : List (Addr × Obj)) (xe : Value → Shared → Prop), Takes (X.tr pn xe) W → PassesOwn (model X.prog X.w) X.A X.env xe → PSs (X.tr pn xe) body (tb W))
    (hs : ∀ (a : Addr) (oe : Obj) (cls : Value) (d : Option Addr) (pn : List (Addr × Obj)) (xe : Value → Shared → Prop), L2H.Hot1 (X.A.mark (some (.ref a))) (a, oe) → Zc cls d oe → (∃ vs, oe.data = .fields vs) → L2.Takes (suiteZ X a ((a, oe) :: pn) xe) (fun c d τ G => Wo c d (τ.set i none) G) → PSs (suiteZ X a ((a, oe) :: pn) xe) (b₀ :: suite) (ts a cls d)) :
    PS X (.Try body [.ExceptHandler (some (.Name x np)) (some n) (b₀ :: suite) pz] [] [] pos) (fun D σ H => tb (wTryR X.K X.mg c i ts D) D σ H) := ⟨fun pins s σ H D I h => by
  have kk := I.ok
  have hA : X.A.frames = some (X.env :: X.outer) := kk.frames.trans (by rw [hst])
  let catch_ : Value → Shared → Prop := fun e s₁ => wpAny (model X.prog X.w) X.A (noteFrame e X.env) (fun _ s₂ => wpAny (model X.prog X.w) X.A (setFlight e none) (fun _ s₃ => wpAny (model X.prog X.w) X.A (handleBy e X.env [.ExceptHandler (some (.Name x np)) (some n) (b₀ :: suite) pz]) (SP X pins D) X.xe s₃) X.xe s₂) X.xe s₁
  refine wpAny_Try_except (wpAny_mono ((hb (wTryR X.K X.mg c i ts D) (X.pn ++ pins) catch_ ⟨fun u s' xx => ?_, fun u s' xx => ?_⟩ PassesOwn.looking).run [] s σ H D (I.toTry _) h) (fun fl s1 q => ?_) fun e s1 z => z)
  · obtain ⟨a, B, sI, pins', τ, G, cls, d, rfl, J', nb, up, sk0, nG, os, ag, nbad, fits0, wd⟩ := xx
    have J : Inv X pins τ G sI := J'.ofTry kk
    have sk : Sky B (X.env :: X.outer) a (L2N.Zn cls d) X.env.locals s'.heap := hst ▸ sk0
    show wpAny (model X.prog X.w) X.A (noteFrame (.ref a) X.env) _ _ _
    refine L2N.Sky.land L2N.Zn.steady hA hfr sk fun g fl3 up3 => ?_
    have upg := up.trans up3
    have Jg : Inv X pins τ G { s' with heap := g } := J.landed nb fl3.1 upg os ag
    obtain ⟨og, vg, eg, zg, dg⟩ := fl3.there
    have nfr : a ∉ frs (X.env :: X.outer) := fun hm => by
      obtain ⟨_, o', e', nf⟩ := (fl3.2.2.1).mem hm
      rw [eg] at e'
      cases e'
      exact nf _ dg
    have nloc : a ≠ X.env.locals := fun z => nfr (List.mem_filterMap.mpr ⟨X.env, by simp, by rw [hfr, z]⟩)
    have nfs : a ∉ X.fs := fun hm => by
      obtain ⟨e1, m1, q1⟩ := List.mem_filterMap.mp hm
      exact nfr (List.mem_filterMap.mpr ⟨e1, by simp [m1], q1⟩)
    have Sg := Jg.suite eg dg nG nloc nfs
    have look : PySem.W.Looks (model X.prog X.w) g (typeOf (.ref a)) cls := fun A Q E s k q => wpAny_typeOf_ref (k _ _ eg) (zg.1 ▸ q)
    have fits := PySem.W.exm_one (M := model X.prog X.w) Jg.kIn look fits0
    refine wpAny_handleBy_cons (codeAny_handlers_test ?_) (by intro q; cases q)
    have name_ : ∀ {Q E : Value → Shared → Prop}, Q c { s' with heap := g } → wpAny (model X.prog X.w) (X.A.mark (some (.ref a))) (eval (.Name x np) X.env) Q E { s' with heap := g } := fun {Q E} hq => by
      obtain ⟨g1, g2, h1 | ⟨h1, h2, h3⟩⟩ := hc
      · exact ld_glob (X := X.suite a ((a, og) :: (X.pn ++ pins))) Sg g1 h1 hq g2
      · exact ld_blt (X := X.suite a ((a, og) :: (X.pn ++ pins))) Sg g1 h1 h2 hq h3 g2
    refine name_ (fits.here ?_)
    refine codeAny_handlers_suite_as (HandSPX.lands_againZ fl3 fun g4 fl4 up4 => ?_)
    have J4 : Inv X pins τ G { s' with heap := g4 } := J.landed nb fl4.1 (upg.trans up4) os ag
    obtain ⟨o4, v4, e4, z4, d4⟩ := fl4.there
    refine store_ok (X := X.suite a ((a, o4) :: (X.pn ++ pins))) (v := .ref a) (J4.suite e4 d4 nG nloc nfs) hN hi (.inl hl) rfl (fun s5 S5 => ?_) (.inr hl)
    refine wpAny_mono ((hs a o4 cls d (X.pn ++ pins) _ ⟨rfl, v4, d4, z4.2.2 v4 d4⟩ z4.zc ⟨_, d4⟩ (fun u2 s2 x2 => gone_exc (A' := X.A.mark (some (.ref a))) hA hst hfr hx0 kk hN hi hl tk (fun e s z => hpa (some (.ref a)) e s z) x2)).run [] s5 _ G _ (Inv.toZ S5) (wd a nG)) (fun fl s6 q => ?_) fun e6 s6 z => z
    have fin : ∀ {τ6 : L2.St} {G6 : Hp} {Q : Shared → Prop} {xe : Value → Shared → Prop}, Inv (suiteZ X a ((a, o4) :: (X.pn ++ pins)) xe) [] τ6 G6 s6 → (∀ s7, Inv X pins (τ6.set i none) G6 s7 → Q s7) → wpAny (model X.prog X.w) X.A (do bindName X.env n .none; unbindBehindTheSuite X.env n pz) (fun _ s7 => Q s7) X.xe s6 := fun S6 hq => gone_ok (Inv.ofZ S6 kk) hN hi hl hq
    cases fl with
    | ret u => exact let ⟨w6, τ6, G6, S6, r6, q6⟩ := q; fin S6 fun s7 J7 => ⟨_, _, _, J7, r6, q6⟩
    | next => exact let ⟨τ6, G6, S6, q6⟩ := q; fin S6 fun s7 J7 => ⟨_, _, J7, q6⟩
    | brk => exact let ⟨τ6, G6, S6, q6⟩ := q; fin S6 fun s7 J7 => ⟨_, _, J7, q6⟩
    | cont => exact let ⟨τ6, G6, S6, q6⟩ := q; fin S6 fun s7 J7 => ⟨_, _, J7, q6⟩
  · obtain ⟨_, _, _, _, _, _, _, _, _, _, _, _, _, _, _, _, b1, b2, _⟩ := xx
    exact absurd b1 b2
  · cases fl with
    | ret u => exact let ⟨v, τ, G, J, r, q⟩ := q; ⟨v, τ, G, J.ofTry kk, r, q⟩
    | next => exact let ⟨τ, G, J, q⟩ := q; wpAny_execs_nil ⟨τ, G, J.ofTry kk, q⟩
    | brk => exact let ⟨τ, G, J, q⟩ := q; ⟨τ, G, J.ofTry kk, q⟩
    | cont => exact let ⟨τ, G, J, q⟩ := q; ⟨τ, G, J.ofTry kk, q⟩⟩
end
end VL
namespace VL
open PySem PySem.Spec PyProof.Rows L2 HotX
theorem GoodX.outS {f : Fm} {c' : Cl} {env : VEnv} {x : Exn} {cls : Value} {d : Option Addr} {σ : L2.St} {H : Hp} {i : Nat} (h : c'.b = f.cl.b) (hp : ∀ p ∈ f.pin, p.1 ≠ i) (n : nxE (env.set i none) = true) (no : O.nxs x.xs = true) (g : GoodX (f.ex c') env x cls d σ H) : GoodX f (env.set i none) x cls d (σ.set i none) H := by
  obtain ⟨Z, Fs, F, g, r, xx⟩ := g
  have g2 : GoodAt (f.ex c') Z _ (env.set i none) (σ.set i none) H := GoodAt.forget2 hp g
  refine ⟨Z, _, F, GoodAt.ex (f := f.ex c') (c' := f.cl) h.symm (.inr n) g2, ?_, fun a z => ?_⟩
  · obtain ⟨Ca, c1, e1, r⟩ := r
    refine ⟨Ca, by show f.cl.b.at_ x.cls = some Ca; rw [← h]; exact c1, e1, ?_⟩
    rcases r with r | ⟨a, kvs, G, q1, q2, q3, q4, q5, q6, q7⟩
    · exact .inl r
    · exact .inr ⟨a, kvs, G, q1, q2, q3, q4, q5, q6, RepOs.cl (w := (f.ex c').w Z) (w' := f.w Z) ⟨h.symm, rfl, rfl, rfl⟩ (.inr no) q7⟩
  · obtain ⟨x1, x2, x3, x4, x5⟩ := xx a z
    refine ⟨x1, x2, x3, x4, fun j q => ?_⟩
    replace q : if j = i then False else Fs j a := q
    split at q
    · exact q
    · exact x5 j q
section
variable {X : Cx} {P : List Nat} {a : Expr} {ma : DEnv → R O} {x n : Str} {p np pos pos' : Pos} {E : Errs}
end
def sOutR (i : Nat) : RS → RS
  | .ex y e => if badE y.cls && O.nxs y.xs && nxE (e.set i none) then .ex y (e.set i none) else .no
  | r => sOut i r
def okH (c : String) : Bool := !subE c "BadDeed" && !subE c "BadLine"
def sTryR (E : Errs) (D : String) (i : Nat) (body suite : VEnv → RS) : VEnv → RS := fun env => match body env with
  | .ok c e => .ok c e
  | .ex x e => if E.has x.cls && okH x.cls && subE x.cls D && O.nos notFz x.xs && decide (i < e.length) then sOutR i (suite (e.set i (some (.xn x.cls x.fs (O.ers x.xs))))) else .no
  | .no => .no
theorem okH_bad {K : PySem.W.Frag} {mg : Str → Option Value} {E : Errs} (hE : ErrF K mg E) (h1 : E.has "BadDeed" = true ∨ mg (Str.ofString "BadDeed") = none) (h2 : E.has "BadLine" = true ∨ mg (Str.ofString "BadLine") = none) {c : String} {Ca : Addr} (hc : E.has c = true) (hm : mg (Str.ofString c) = some (.ref Ca)) (ok : okH c = true) : ¬ BadC mg (.ref Ca) := by
  rintro ⟨n, hb, hn⟩
  obtain ⟨pc, mc, ec⟩ := Errs.has_ hc
  have hn2 : E.has n = true ∧ subE c n = false := by
    simp only [badE, Bool.or_eq_true, beq_iff_eq] at hb
    simp only [okH, Bool.and_eq_true, Bool.not_eq_true'] at ok
    rcases hb with rfl | rfl
    · rcases h1 with h1 | h1
      · exact ⟨h1, ok.1⟩
      · rw [h1] at hn; cases hn
    · rcases h2 with h2 | h2
      · exact ⟨h2, ok.2⟩
      · rw [h2] at hn; cases hn
  obtain ⟨pn, mn, en⟩ := Errs.has_ hn2.1
  have k1 := (hE.two pc mc pn mn Ca Ca (by rw [ec]; exact hm) (by rw [en]; exact hn)).2
  have k2 := (hE.two pn mn pn mn Ca Ca (by rw [en]; exact hn) (by rw [en]; exact hn)).2
  rw [k1, ec, en, hn2.2] at k2
  have := Option.some.inj k2
  simp [subE] at this
section
variable {X : Cx} {P : List Nat} {x n : Str} {np pos pz : Pos}
theorem vs_tryR {body suite : List Stmt} {b₀ : Stmt} {E : Errs} {m1 m2 : VEnv → RS} {i : Nat} (D : String) (hE : ErrF X.K X.mg E) (hc : X.calm = true) (hN : X.N.Nodup) (hpa : ∀ hd : Option Value, PassesOwnAt (model X.prog X.w) (X.A.mark hd) X.A X.env X.xe)
    (hb : ∀ (pn : List (Addr × Obj)) (xe : Value → Shared → Prop), PassesOwn (model X.prog X.w) X.A X.env xe → VB (X.tr pn xe) P body m1)
    (hsu : ∀ (a : Addr) (oe : Obj) (pn : List (Addr × Obj)) (xe : Value → Shared → Prop), L2H.Hot1 (X.A.mark (some (.ref a))) (a, oe) → VB (suiteZ X a ((a, oe) :: pn) xe) P (b₀ :: suite) m2)
    (hs : X.stack = X.env :: X.outer := by rfl) (hfr : X.env.frame = some X.env.locals := by rfl) (hx0 : X.ex = [] := by rfl) (hi : X.N[i]? = some n := by rfl) (hln : X.env.kindOf n = some .local := by rfl) (hD : E.has D = true := by rfl) (h1 : E.has "BadDeed" = true ∨ X.mg (Str.ofString "BadDeed") = none := by exact Or.inl rfl) (h2 : E.has "BadLine" = true ∨ X.mg (Str.ofString "BadLine") = none := by exact Or.inl rfl) (hx : x = Str.ofString D := by rfl) (hg : Gl X x := by rfl) (hdb : (x == ("__debug__" : Str)) = false := by decide) (hP : P.contains i = false := by rfl) :
    VS X P (.Try body [.ExceptHandler (some (.Name x np)) (some n) (b₀ :: suite) pz] [] [] pos) (sTryR E D i m1 m2) := fun W tk f hf => by
  obtain ⟨pD, hpD, rfl⟩ := Errs.has_ hD
  obtain ⟨Da, eD⟩ := hE.there pD hpD
  have hex := (ClOk.ok0 hc hf.1).2
  refine (ps_tryR (tb := fun W => rS f W m1) (ts := fun a cls d => fun D σ H => ∃ Ca, cls = .ref Ca ∧ rS (f.ex ⟨f.cl.b, fun a' Ca' d' => a' = a ∧ Ca' = Ca ∧ d' = d⟩) (fun c d τ G => onBad X.mg W c d (τ.set i none) G) m2 D σ H) hs hfr hx0 hN hi hln ⟨hg, hdb, .inl (by rw [hx]; exact eD)⟩ hpa tk.b (fun W pn xe tk' hpo => hb pn xe hpo W tk' f ⟨⟨hf.1.1, fun a Ca d q => absurd q (hex a Ca d)⟩, hf.2⟩) fun a oe cls d pn xe hot hz hfl tks => ⟨fun pins s σ H D I h => ?_⟩).imp fun D σ H h => ?_
  · obtain ⟨Ca, rfl, h⟩ := h
    exact (hsu a oe pn xe hot (fun c d τ G => onBad X.mg W c d (τ.set i none) G) (.of tks) (f.ex ⟨f.cl.b, fun a' Ca' d' => a' = a ∧ Ca' = Ca ∧ d' = d⟩) ⟨suite_cl hf.1.1 hz hfl, hf.2⟩).run pins s σ H D I h
  · obtain ⟨env, g, h⟩ := rS_to h
    refine rS_of g ?_
    unfold sTryR at h
    cases e : m1 env with
    | no => rw [e] at h; exact h
    | ok c env' => rw [e] at h; cases c <;> exact h
    | ex x env' =>
      rw [e] at h
      intro cls d σ' H' gx
      simp only at h
      split at h
      case isFalse => exact h.elim
      rename_i hh
      simp only [Bool.and_eq_true, decide_eq_true_eq] at hh
      obtain ⟨⟨⟨⟨hC, ok⟩, sub⟩, nz⟩, hlt⟩ := hh
      obtain ⟨pC, hpC, eC⟩ := Errs.has_ hC
      have gx0 := gx
      obtain ⟨Z, Fs, F, g1, ⟨Ca, c1, rfl, _⟩, _⟩ := gx0
      have hm := clM_at hf.1 c1
      have hpin := pin_ne hf.2 hP
      refine ⟨okH_bad hE h1 h2 hC hm ok, ?_, fun a ha => ⟨Ca, rfl, rS_of (suite_start hex c1 hpin nz hlt gx) ?_⟩⟩
      · have k := (hE.two pC hpC pD hpD Ca Da (by rw [eC]; exact hm) eD).2
        rw [k, eC, sub]
      · cases e2 : m2 (env'.set i (some (.xn x.cls x.fs (O.ers x.xs)))) with
        | no => rw [e2] at h; exact h
        | ex y e3 =>
          rw [e2] at h
          intro c d2 σ2 H2 g2
          simp only [sOutR] at h
          split at h
          case isFalse => exact h.elim
          rename_i hy
          simp only [Bool.and_eq_true] at hy
          have gy := GoodX.outS (c' := ⟨f.cl.b, fun a' Ca' d' => a' = a ∧ Ca' = Ca ∧ d' = d⟩) rfl hpin hy.2 hy.1.2 g2
          obtain ⟨_, _, _, _, ⟨Cy, cy, rfl, _⟩, _⟩ := id gy
          exact ⟨⟨y.cls, hy.1.1, clM_at hf.1 cy⟩, h _ _ _ _ gy⟩
        | ok c e3 =>
          rw [e2] at h
          cases c with
          | ret o =>
            intro v σ2 H2 g2
            simp only [sOutR, sOut] at h
            split at h
            · rename_i hn
              simp only [Bool.and_eq_true] at hn
              exact h v _ H2 (GoodV.outS (c' := ⟨f.cl.b, fun a' Ca' d' => a' = a ∧ Ca' = Ca ∧ d' = d⟩) rfl hpin hn.2 hn.1 g2)
            · exact h.elim
          | next =>
            intro σ2 H2 g2
            simp only [sOutR, sOut] at h
            split at h
            · rename_i hn; exact h _ H2 (Good.outS (c' := ⟨f.cl.b, fun a' Ca' d' => a' = a ∧ Ca' = Ca ∧ d' = d⟩) rfl hpin hn g2)
            · exact h.elim
          | brk =>
            intro σ2 H2 g2
            simp only [sOutR, sOut] at h
            split at h
            · rename_i hn; exact h _ H2 (Good.outS (c' := ⟨f.cl.b, fun a' Ca' d' => a' = a ∧ Ca' = Ca ∧ d' = d⟩) rfl hpin hn g2)
            · exact h.elim
          | cont =>
            intro σ2 H2 g2
            simp only [sOutR, sOut] at h
            split at h
            · rename_i hn; exact h _ H2 (Good.outS (c' := ⟨f.cl.b, fun a' Ca' d' => a' = a ∧ Ca' = Ca ∧ d' = d⟩) rfl hpin hn g2)
            · exact h.elim
end
end VL
namespace VL
open PySem PySem.Spec PyProof.Rows L2 LamX
section
variable {P : Program} {w : World} {K : PySem.W.Frag} {mg : Str → Option Value} {base h : Heap}
theorem cxv_l2 {outer : List Env} {H : Hp} {s : Shared} {E : XK} {u : Value} {s' : Shared} (h : CXv mg P w outer H s E u s') : L2.CX P w outer H s E u s' := by
  rcases h with ⟨a, B, H', cls, d, e, f, r⟩ | ⟨a, B, H', cls, d, e, f, r1, r2, r3, r4, r5, r6⟩
  · exact ⟨a, B, H', cls, d, e, L2H.flyingZ_imp (fun _ z => z.zc) f, r⟩
  · exact ⟨a, B, H', cls, d, e, f, r1, r2, r3, r4, r5, r6.2⟩
theorem fn_l2 {k : Nat} {f : Addr} {fd : FuncData} {ps : List Str} {sp : Sp} (F : FnOk P w K mg base (CXv mg P w) k f fd ps sp) : FnOk P w K mg base (L2.CX P w) k f fd ps sp :=
  ⟨F.len, fun A outer s H args us vs Q E hr e0 hb r h => codeAny_mono (F.run A outer s H args us vs Q E hr e0 hb r h) fun r s' z => by
    cases r with
    | ok fl => cases fl <;> exact z
    | error e => exact cxv_l2 z⟩
theorem no_ktb {P2 : Addr} {q : Str} (X : K.In h) (G : h.Ns mainGlobals mg) (n : PySem.W.nsIn K mainGlobals mkrN = some none) (h : KTb K mg P2 q) : False := by
  obtain ⟨e, f', o, fd, c', h1, _⟩ := h
  rw [PySem.W.mg_none_of X G n] at h1; cases h1
end
def LawT (P : Program) (w : World) (K : PySem.W.Frag) (k : Nat) (mg : Str → Option Value) (fa : Addr) (h : Heap) : Prop := ∃ (cs : List (Addr × Addr)) (fd : FuncData), (∀ p ∈ cs, h.get? p.2 = some { cls := .none, data := .fields #[] }) ∧ (∀ p ∈ cs, K.lookup p.2 = none) ∧ (∀ p ∈ cs, PySem.W.CodeHd h p.1 p.2) ∧
  (∀ Pa q, KTb K mg Pa q → q = lamN ∧ ∃ c, (c, Pa) ∈ cs) ∧ (∀ (s : Shared) (u : Value), BindsTo s fd ⟨[u], []⟩ [("_law_script", u)]) ∧
  ∀ base : Heap, K.In base → base.Ns mainGlobals mg → (∀ p ∈ cs, TabB base mg p.1 p.2) → FnOk P w K mg base (L2.CX P w) k fa fd ["_law_script"] (spLaw K mg)
theorem walk_lawT {l : PySem.W.OpenLaw} {k : Nat} {q : Program} {loose : List Str} {XP : (Str → Option Value) → Heap → Prop} {YP : World → Heap → Prop} {d : DefRec} {K : Params → PySem.W.Frag} (hn : l.most = some 63) (hdf : d.params.defaults = []) (hr : Room k callerA)
    (hY : ∀ (w : World) (h : Heap), YP w h → (K w.params).In h)
    (F : ∀ (w : World) (mg : Str → Option Value) (fa : Addr) (h : Heap), YP w h → (K w.params).In h → h.Ns mainGlobals mg → mg d.name = some (.ref fa) → LawT l.prog w (K w.params) k mg fa h) :
    PySem.W.WalkO q loose XP YP l.row.toRowW d [] (fun f vs => PySem.call f vs) :=
  LamX.walk_ofTs (n := 63) (k := k) (x := "_law_script") (CX := fun w => L2.CX l.prog w) hn (by decide) hdf hr hY (fun w mg fa h Y KX G hm => by
    obtain ⟨cs, fd, h1, h2, h3, h4, h5, h6⟩ := F w mg fa h Y KX G hm
    refine ⟨fd, cs, spLaw (K w.params) mg, h1, h2, h3, h5, fun H a ns hl hb hT hS => ⟨fun Pa q kt => ?_, a, ns, rfl, hl, hS, fun _ => rfl⟩, h6⟩
    obtain ⟨rfl, c, hc⟩ := h4 Pa q kt
    exact ⟨#[], hT _ hc, rfl, True.intro, fun pos cv z => by
      have z : codeAmong pos [] = some cv := z
      simp [codeAmong] at z⟩) fun _ _ _ _ _ z => by
      obtain ⟨_, _, _, _, _, _, _, _, _, _, _, _, z⟩ := z
      exact z
section
variable {P : Program} {w : World} {K : PySem.W.Frag} {mg : Str → Option Value} {h : Heap} {k : Nat} {fa : Addr} {fd : FuncData}
theorem lawT_none (X : K.In h) (G : h.Ns mainGlobals mg) (n : PySem.W.nsIn K mainGlobals mkrN = some none) (hb : ∀ (s : Shared) (u : Value), BindsTo s fd ⟨[u], []⟩ [("_law_script", u)])
    (F : ∀ base : Heap, K.In base → base.Ns mainGlobals mg → FnOk P w K mg base (CXv mg P w) k fa fd ["_law_script"] (spLaw K mg)) : LawT P w K k mg fa h :=
  ⟨[], fd, (by simp), (by simp), (by simp), fun _ _ z => (no_ktb X G n z).elim, hb, fun base b1 b2 _ => fn_l2 (F base b1 b2)⟩
end
end VL
namespace VL
open PySem PySem.Spec PyProof.Rows L2
section
variable {m m2 mF : VEnv → RS} {ma : DEnv → R O} {env e : VEnv} {Q : Ct → VEnv → Prop} {E : Exn → VEnv → Prop} {x : Exn} {i : Nat} {E0 : Errs} {C f : String}
theorem wS_tryR (h : wS (m env) Q (fun x e => E0.has x.cls = true ∧ okH x.cls = true ∧ subE x.cls C = true ∧ O.nos notFz x.xs = true ∧ i < e.length ∧ wS (sOutR i (m2 (e.set i (some (.xn x.cls x.fs (O.ers x.xs)))))) Q E)) : wS (sTryR E0 C i m m2 env) Q E := by
  unfold sTryR
  cases em : m env with
  | no => rw [em] at h; exact (wS_no.mp h).elim
  | ok c e => rw [em] at h; exact wS_ok.mpr (wS_ok.mp h)
  | ex x e =>
    rw [em] at h
    obtain ⟨h1, h2, h3, h4, h5, h6⟩ := wS_ex.mp h
    simp only
    rw [if_pos (by simp [h1, h2, h3, h4, h5])]
    exact h6
end
end VL
namespace VL
open PySem PySem.Spec PyProof.Rows L2 HotX
section
variable {pr : Program} {wo : World} {A : Around} {G : Value → Shared → Prop} {σ0 : Shared}
theorem list_end_hot {j q x1 : Addr} {n : Nat} {ys : Array Value} {Z : Option Value → Shared → Prop} (hot : HotAt A x1 σ0.heap) (ne : x1 ≠ j) (ht : σ0.heap.IsListIter j q n) (hq : σ0.heap.IsList q ys) (hn : ys[n]? = none)
    (hZ : ∀ g, Heap.ExtBut j σ0.heap g → Z none { σ0 with heap := g }) : wpAny (model pr wo) A (pyNext (.ref j)) Z G σ0 := by
  obtain ⟨oj, gj, cj, dj⟩ := id ht
  obtain ⟨oq, gq, _, mq, dq⟩ := hq
  obtain ⟨hh, o1, v1, g1, d1, c1⟩ := hot
  unfold pyNext
  refine wpAny_bind (wpAny_attempt (wpAny_callSpecial?_slot (name := Str.ofString "__next__") ht.typeIs slot_listiter_next (wpAny_call_entry slot_listiter_next ht.typeIs entry_listiter_next ?_ (args_listiter_next _))))
  show wpAny _ _ (field (.ref j) 0 >>= _) _ _ σ0
  refine wpAny_bind (wpAny_field gj dj (x := .ref q) rfl ?_)
  show wpAny _ _ (if (Value.ref q == Value.none) = true then _ else _) _ _ σ0
  rw [if_neg (show ¬ ((Value.ref q == Value.none) = true) from Bool.false_ne_true)]
  show wpAny _ _ (field (.ref j) 1 >>= _) _ _ σ0
  refine wpAny_bind (wpAny_field gj dj (x := .int n 0) rfl ?_)
  show wpAny _ _ (seqItems? (.ref q) >>= _) _ _ σ0
  refine wpAny_bind (wpAny_seqItems gq dq ?_)
  simp only [Int.toNat_natCast, hn]
  refine wpAny_bind (wpAny_rule (wpAny_bind (wpAny_setField gj dj (by simp) ?_)))
  show wpAny _ _ (newExc (.type "StopIteration") [] >>= _) _ _ _
  refine wpAny_bind ?_; simp only [newExc, newTuple]; refine wpAny_bind (wpAny_newObj_type ?_ (by size_fits))
  refine wpAny_bind (m := firstArgMember _ _) (wpAny_of_eq (a := Value.none) (by first | rfl | (simp only [firstArgMember]; rfl)) (wpAny_newObj_type ?_ (by size_fits)))
  generalize hg : (σ0.heap.update j fun o => Obj.mapFields (·.setIfInBounds 0 Value.none) o) = g0
  have x0 : Heap.ExtBut j σ0.heap g0 := by subst hg; exact (Heap.SameBut.update ..).extBut
  have k1 : g0.get? x1 = some o1 := x0 x1 o1 ne g1
  refine raiseNew_hot ⟨hh, o1, v1, Heap.get?_push_of_some _ (Heap.get?_push_of_some _ k1), d1, c1⟩ (Nat.ne_of_lt (Heap.lt_size (Heap.get?_push_of_some _ k1))) (Heap.get?_push_size _ rfl) rfl (by first | (simp; done) | (simp; omega) | (simp only [Array.size_append]; simp; omega)) ?_
  refine wpAny_bind (wpAny_isInstance (T := "StopIteration") (b := true) ⟨_, Heap.get?_update_self _ (Heap.get?_push_size _ rfl) rfl, rfl⟩ isSubtype_stop (wpAny_pure (hZ _ fun b o hb e => ?_)))
  rw [Heap.get?_update_other _ _ (Nat.ne_of_gt (Heap.lt_size (Heap.get?_push_of_some _ (x0 b o hb e))))]
  exact Heap.get?_push_of_some _ (Heap.get?_push_of_some _ (x0 b o hb e))
end
section
variable {X : Cx} {pins : List (Addr × Obj)} {σ : L2.St} {H : Hp} {s : Shared}
theorem hot_pin (c : L2H.HotC X) (I : Inv X pins σ H s) : ∃ p : Addr × Obj, L2H.Hot1 X.A p ∧ p ∈ X.pn ∧ L2H.PinOk X.stack H s p ∧ HotAt X.A p.1 s.heap := by
  obtain ⟨p, h1, hp⟩ := c
  have h1' := h1
  obtain ⟨hh, v1, e1, c1⟩ := h1'
  have z := I.pin p (List.mem_append_left _ hp)
  exact ⟨p, h1, hp, ⟨z.1, z.2.1, fun hm => (List.mem_cons.mp (I.stkSub p.1 hm)).elim z.2.2.1 z.2.2.2.1, z.2.2.2.2⟩, hh, p.2, v1, z.1, e1, c1⟩
end
def ItE (K : PySem.W.Frag) (a : Addr) : It := ⟨fun _ _ => False, fun _ _ _ _ => False, fun i H => ∃ xs, SqL K H a xs ∧ xs.length ≤ i⟩
theorem turn_listE {P : Program} {w : World} {K : PySem.W.Frag} {tg : Expr} (a j : Addr) : L2H.TurnH P w K tg (ItE K a) [j] j (fun i h => h.IsListIter j a i) where
  mem := List.mem_singleton.mpr rfl
  obj := fun i h st b hb => by
    obtain ⟨o, e, c, d⟩ := st
    exact ⟨o, List.mem_singleton.mp hb ▸ e, fun v z => by rw [d] at z; cases z⟩
  keep := fun i h h' st k => st.at fun o e => k j (List.mem_singleton.mpr rfl) o e
  item := fun _ _ _ _ _ _ _ _ _ _ _ _ _ _ hg => hg.elim
  done := fun X hP hw hK hc i pins s σ H E I hf st hg => by
    subst hP hw hK
    obtain ⟨xs, hq, hx⟩ := hg
    obtain ⟨its, rv, pl, _⟩ := I.list hq
    have hl := rv.length
    obtain ⟨f0, f1, f2, f3, f4, f5⟩ := hf j (List.mem_singleton.mpr rfl)
    obtain ⟨p, h1, hp, pk, hot⟩ := hot_pin hc I
    exact list_end_hot hot (f5 p (List.mem_append_left _ hp)) st pl.isList (by simp; omega) fun g x => ⟨rfl, I.turned (t' := s.toks) (fun b o hb e => x b o hb e) f0 f1 f3 f4 f5⟩
  self := fun _ _ _ _ _ st h => wpAny_pyIter_listiter st h
section
variable {X : Cx} {tg e : Expr}
def iListE (K : PySem.W.Frag) (te : TE) : TI := fun σ H R => te σ H fun x H1 => ∃ a, x = .ref a ∧ SqL K H1 a [] ∧ R (ItE K a) H1
theorem pi_listE {te : TE} (he : PE X e te) : L2H.PIH X tg e (iListE X.K te) := by
  refine ⟨fun pins s σ H R I h => thn (he.run pins s σ H _ I h) fun v s1 ⟨x, H1, I1, r1, a, ex, hq, q⟩ => ?_⟩
  subst ex
  cases r1
  obtain ⟨its, rv, pl, _⟩ := I1.list hq
  have hJ : Inv X pins σ H1 { s1 with heap := s1.heap.push { cls := .type "list_iterator", data := .fields #[.ref a, rawInt 0] } } := I1.kept (t' := s1.toks) fun b o z => Heap.get?_push_of_some _ z
  exact wpAny_pyIter_list pl.isList ⟨s1.heap.objs.size, [s1.heap.objs.size], _, _, H1, rfl, hJ, turn_listE a _, ⟨_, Heap.get?_push_size _ rfl, rfl, rfl⟩, fun b hb => by rw [List.mem_singleton.mp hb]; exact I1.fpOk (Nat.le_refl _) (I1.hok.fresh (Nat.le_refl _)), q⟩
end
def emE (o : O) : Bool := match o.er with
  | .lst [] => true
  | _ => false
theorem emE_rep {w : Wd} {H : Hp} {o : O} {v : V} {F : Addr → Prop} (e : emE o = true) (h : RepO w H o v F) : ∃ a, v = .ref a ∧ H a = some (.lst []) := by
  have z := RepO.at h
  unfold emE at e
  split at e
  · rename_i eo
    rw [eo] at z
    simp only [Rep] at z
    obtain ⟨a, vs, rfl, _, r, q⟩ := z
    have : vs = [] := List.length_eq_zero_iff.mp (Reps.length q)
    exact ⟨a, rfl, this ▸ r⟩
  · cases e
def sForE (ma : DEnv → R O) : VEnv → RS := fun env => match ma (dl env) with
  | .ok o => if emE o then .ok .next env else .no
  | _ => .no
section
variable {X : Cx} {P : List Nat} {tg iter : Expr} {ma : DEnv → R O} {body : List Stmt} {pos : Pos}
theorem pg_no : PG X tg (fun _ _ _ _ => False) := ⟨fun _ _ _ _ _ _ _ _ _ h => h.elim⟩
theorem pss_no : PSs X body (fun _ _ _ => False) := ⟨fun _ _ _ _ _ _ h => h.elim⟩
theorem vs_forE (hp : PassesOwn (model X.prog X.w) X.A X.env X.xe) (hc : L2H.HotC X) (ha : VE X iter ma) (hs : ∀ x, foldedSetIterable iter X.env x = pure x := by intro _; rfl) : VS X P (.For tg iter body [] pos) (sForE ma) := fun W tk f hf => by
  refine (L2H.ps_forH hp hc (pi_listE (ha.ef tk hf)) pg_no pss_no hs).imp fun D σ H h => ?_
  obtain ⟨env, ⟨Z, Fs, g⟩, hh⟩ := rS_to h
  refine ⟨Z, Fs, rE_of g.goodE ?_⟩
  unfold sForE at hh
  cases q : ma (dl env) with
  | no => rw [q] at hh; exact hh
  | ex x => rw [q] at hh; exact hh.elim
  | ok o =>
    rw [q] at hh
    simp only at hh
    split at hh
    · rename_i hem
      intro v H1 F1 s1 p1 f1
      obtain ⟨a, rfl, ha'⟩ := emE_rep hem p1
      have hq : SqL X.K H1 a [] := SqL.of ha'
      refine ⟨a, rfl, hq, fun i m σ' H' => i = 0 ∧ σ' = σ ∧ H' = H1, ⟨0, rfl, rfl, rfl⟩, ?_⟩
      rintro i m σ' H' ⟨rfl, rfl, rfl⟩
      exact .inl ⟨⟨[], hq, Nat.le_refl _⟩, hh _ _ ⟨Z, Fs, g.same s1⟩⟩
    · exact hh.elim
end
end VL
namespace VL
open PySem PySem.Spec PyProof.Rows L2 HotX
section
variable {X : Cx}
theorem Inv.pinC {pins : List (Addr × Obj)} {σ : L2.St} {H : Hp} {s : Shared} {p : Addr × Obj} (I : L2.Inv X pins σ H s) (h : s.heap.get? p.1 = some p.2 ∧ H p.1 = none ∧ p.1 ≠ X.env.locals ∧ p.1 ∉ X.fs ∧ ∀ v, p.2.data ≠ .cell v) : L2.Inv X (p :: pins) σ H s :=
  ⟨I.ok, I.os, I.bare, I.base, I.loc, I.cell, I.free, I.freeC, fun q hq => by
    rcases List.mem_append.mp hq with z | z
    · exact I.pin q (List.mem_append_left _ z)
    · rcases List.mem_cons.mp z with rfl | z
      · exact h
      · exact I.pin q (List.mem_append_right _ z), I.hok, I.len⟩
theorem Inv.unpinC {pins : List (Addr × Obj)} {σ : L2.St} {H : Hp} {s : Shared} {p : Addr × Obj} (I : L2.Inv X (p :: pins) σ H s) : L2.Inv X pins σ H s :=
  ⟨I.ok, I.os, I.bare, I.base, I.loc, I.cell, I.free, I.freeC, fun q hq => I.pin q (by
    rcases List.mem_append.mp hq with z | z
    · exact List.mem_append_left _ z
    · exact List.mem_append_right _ (List.mem_cons_of_mem _ z)), I.hok, I.len⟩
theorem lc_coreE {pins : List (Addr × Obj)} {s : Shared} {σ : L2.St} {H : Hp} {Q : VK} {elt tg iter : Expr} {ifs : List Expr} {scope : Scope} {own : List (Str × Nat)} {pos pos' : Pos} {wi : TI} {use : Option (Value → Sem Unit)} {Qf : Value → Shared → Prop}
    (hc : L2H.HotC X) (I : L2.Inv X pins σ H s) (hi : L2H.PIH X tg iter wi) (ok : BlkOk X.N X.env.scope scope own) (hs : ∀ x, foldedSetIterable iter X.env x = pure x)
    (h : wi σ H fun J H2 => ∀ D, H2 D = none → J.stop 0 (upd H2 D (.lst [])) ∧ Q (.ref D) (upd H2 D (.lst [])))
    (hRR : ∀ D C s' m H', L2.Inv X pins σ H' s' → Q (.ref D) H' → s'.heap.Ns C m → FpOk X pins H' C → compPost (model X.prog X.w) X.A X.xe use Qf (.ref D) C (.ok .next) s') :
    wpAny (model X.prog X.w) X.A (comprehension (.ListComp elt [⟨tg, iter, ifs, 0⟩] scope pos) scope X.env pos' (newList []) false (eval iter X.env) use) Qf X.xe s := by
  have hfree : ∀ y ∈ scope.names, y.2 = .free → ∃ c, X.env.cells.lookup y.1 = some c := fun y hy e => by
    rcases ok.free y hy e with k | k
    · exact I.ok.has _ (.inl k)
    · exact I.ok.has _ (.inr k)
  refine comprehension_at (use := use) rfl hs (closure_ok hfree) ok.kind (fun y hy e => by rw [ok.uniq y hy, e]) (thn (hi.run pins s σ H _ I h) fun xv s1 hx => thn hx fun itv s2 h2 => ?_)
  obtain ⟨it, fp, tn, J, H2, e, I2, T, st2, f2, q⟩ := h2
  subst e
  refine wpAny_newObj_type (newEnv_comp ?_) (by show 0 ≤ sizeLine; decide)
  generalize hD : s2.heap.objs.size = D
  have hDn : H2 D = none := I2.hok.fresh (Nat.le_of_eq hD)
  obtain ⟨stop, qq⟩ := q D hDn
  generalize hs3 : ({ s2 with heap := s2.heap.push { cls := .type "list", data := .seq ([] : List Value).toArray } } : Shared) = s3
  have I3 : L2.Inv X pins σ (upd H2 D (.lst [])) s3 := by
    rw [← hs3]
    refine I2.laid (t' := s2.toks) (fun b o e => Heap.get?_push_of_some _ e) (Nat.le_of_eq hD) ⟨Nat.zero_le _, [], 0, .nil, ?_⟩
    rw [← hD]
    exact Heap.get?_push_size _ rfl
  have h3 : s3.heap = s2.heap.push { cls := .type "list", data := .seq ([] : List Value).toArray } := by rw [← hs3]
  have sz : ∀ b ∈ fp, b < s2.heap.objs.size := fun b hb => by
    obtain ⟨o, e, _⟩ := T.obj _ _ st2 b hb
    exact Heap.lt_size e
  have f3 : ∀ b ∈ fp, FpOk X pins (upd H2 D (.lst [])) b ∧ b < s3.heap.objs.size := fun b hb => by
    have hlt := sz b hb
    refine ⟨⟨?_, (f2 b hb).2⟩, by rw [h3, Heap.size_push]; exact Nat.lt_succ_of_lt hlt⟩
    rw [upd_ne (by rw [← hD]; exact Nat.ne_of_lt hlt)]
    exact (f2 b hb).1
  have st3 : tn 0 s3.heap := T.keep _ _ _ st2 fun b _ o e => by rw [h3]; exact Heap.get?_push_of_some _ e
  show codeAny _ _ (.compStart (.ListComp elt [⟨tg, iter, ifs, 0⟩] scope pos) 0 (.ref it) (.ref D) (compEnvC scope (cellsFrom (s3.heap.objs.size + 1) scope.names (cloFrom X.env.cells scope.names [])) s3.heap.objs.size X.env)) (compEnds (model X.prog X.w) X.A X.xe use Qf (.ref D) (compEnvC scope (cellsFrom (s3.heap.objs.size + 1) scope.names (cloFrom X.env.cells scope.names [])) s3.heap.objs.size X.env)) { s3 with heap := pushCells (s3.heap.push { cls := .type "dict", data := .dict #[] }) scope.names }
  have cL : (compEnvC scope (cellsFrom (s3.heap.objs.size + 1) scope.names (cloFrom X.env.cells scope.names [])) s3.heap.objs.size X.env).locals = s3.heap.objs.size := rfl
  generalize hce : compEnvC scope (cellsFrom (s3.heap.objs.size + 1) scope.names (cloFrom X.env.cells scope.names [])) s3.heap.objs.size X.env = ce at cL ⊢
  generalize hH3 : upd H2 D (.lst []) = H3 at I3 f3 stop qq
  have nC : H3 s3.heap.objs.size = none := I3.hok.fresh (Nat.le_refl _)
  have fpC := I3.fpOk (Nat.le_refl _) nC
  have kp : ∀ b o, s3.heap.get? b = some o → (pushCells (s3.heap.push { cls := .type "dict", data := .dict #[] }) scope.names).get? b = some o := fun b o e => pushCells_keeps _ _ _ _ (Heap.get?_push_of_some _ e)
  have I4 : L2.Inv X pins σ H3 { s3 with heap := pushCells (s3.heap.push { cls := .type "dict", data := .dict #[] }) scope.names } := I3.kept (t' := s3.toks) kp
  have gC : (pushCells (s3.heap.push { cls := .type "dict", data := .dict #[] }) scope.names).get? s3.heap.objs.size = some { cls := .type "dict", data := .dict #[] } := pushCells_keeps _ _ _ _ (Heap.get?_push_size _ rfl)
  generalize hs4 : ({ s3 with heap := pushCells (s3.heap.push { cls := .type "dict", data := .dict #[] }) scope.names } : Shared) = s4 at I4 ⊢
  have g4 : s4.heap.get? s3.heap.objs.size = some { cls := .type "dict", data := .dict #[] } := by rw [← hs4]; exact gC
  have st4 : tn 0 s4.heap := T.keep _ _ _ st3 fun b _ o e => by rw [← hs4]; exact kp b o e
  have I5 : L2.Inv X ((s3.heap.objs.size, { cls := .type "dict", data := .dict #[] }) :: pins) σ H3 s4 := Inv.pinC I4 ⟨g4, nC, fpC.2.1, fpC.2.2.1, fun v z => by cases z⟩
  have loop : codeAny (model X.prog X.w) X.A (.compLoop (.ListComp elt [⟨tg, iter, ifs, 0⟩] scope pos) 0 (.ref it) (.ref D) ce) (compEnds (model X.prog X.w) X.A X.xe use Qf (.ref D) ce) s4 := by
    refine compLoop_any (fun _ s' => s' = s4) (fun n s' e => ?_) 0 rfl
    subst e
    refine thnF (T.done X rfl rfl rfl hc 0 _ s' σ H3 (fun _ _ => False) I5 (fun b hb => ?_) st4 stop) fun r s6 ⟨hr, I6⟩ => ?_
    · obtain ⟨⟨k0, k1, k2, k3, k4, k5⟩, hlt⟩ := f3 b hb
      refine ⟨k0, k1, k2, k3, k4, fun p hp => ?_⟩
      rcases List.mem_append.mp hp with z | z
      · exact k5 p (List.mem_append_left _ z)
      · rcases List.mem_cons.mp z with rfl | z
        · exact Nat.ne_of_gt hlt
        · exact k5 p (List.mem_append_right _ z)
    · subst hr
      have g6 := (I6.pin _ (List.mem_append_right _ List.mem_cons_self)).1
      have hn : s6.heap.Ns s3.heap.objs.size fun _ => none := by
        obtain ⟨o, es, ep, e1, e2, r⟩ := Heap.Ns.new s3.heap (.type "dict")
        rw [Heap.get?_push_size _ rfl] at e1
        cases e1
        exact ⟨_, es, ep, g6, e2, r⟩
      have q := hRR D s3.heap.objs.size s6 _ H3 (Inv.unpinC I6) qq hn (I3.fpOk (Nat.le_refl _) nC)
      rw [← cL] at q
      cases use <;> exact q
  exact codeAny_compStart_list loop (T.self X.A 0 _ _ _ st4 loop)
end
end VL
namespace VL
open PySem PySem.Spec PyProof.Rows L2 HotX
def gLcE (ma : DEnv → R O) : DEnv → R O := fun env => (ma env).bind fun o => if emE o then .ok (.lst []) else .no
def gLcR (ma : DEnv → R O) : DEnv → R O := fun env => (ma env).bind fun o => match o.er with
  | .int n => if n = 0 then .ok (.lst []) else .no
  | _ => .no
section
variable {X : Cx} {elt tg iter a : Expr} {ifs : List Expr} {scope : Scope} {own : List (Str × Nat)} {pos : Pos} {ma : DEnv → R O}
def tLcE (wi : TI) : TE := fun σ H Q => wi σ H fun J H2 => ∀ D, H2 D = none → J.stop 0 (upd H2 D (.lst [])) ∧ Q (.ref D) (upd H2 D (.lst []))
theorem pe_lcE {wi : TI} (hc : L2H.HotC X) (ok : BlkOk X.N X.env.scope scope own) (hi : L2H.PIH X tg iter wi) (hs : ∀ x, foldedSetIterable iter X.env x = pure x) : PE X (.ListComp elt [⟨tg, iter, ifs, 0⟩] scope pos) (tLcE wi) := by
  refine ⟨fun pins s σ H Q I h => ?_⟩
  rw [eval_ListComp]
  exact lc_coreE hc I hi ok hs h fun D C s' m H' I' q hn ⟨f0, f1, f2, f3, f4, f5⟩ => ⟨m, hn, fun g sb => ⟨.ref D, H', I'.turned (t' := s'.toks) (fun b o hb e => (sb.2 b hb).trans e) f0 f1 f3 f4 f5, rfl, q⟩⟩
theorem upd_eq {H : Hp} {a D : Addr} {u : HO} (h : H a = some u) (n : H D = none) {v : HO} : upd H D v a = some u := by
  rw [upd_ne (fun e => by rw [e, n] at h; cases h)]
  exact h
theorem rd_lcE {W : WX} {w : Wd} {σ : L2.St} {H : Hp} {Q : VK} {K : PySem.W.Frag} (h : rE w W (gLcE ma) σ H Q) : tLcE (iListE K (rE w W ma)) σ H Q := by
  obtain ⟨env, G, h⟩ := rE_to h
  refine rE_of G (Out.bind (Same.refl H) h fun o v H1 F1 _ s1 p1 f1 h1 => ?_)
  split at h1
  · rename_i he
    obtain ⟨a, rfl, ha⟩ := emE_rep he p1
    exact ⟨a, rfl, SqL.of ha, fun D hD => ⟨⟨[], SqL.of (upd_eq ha hD), Nat.le_refl _⟩, new_lst (os := []) (F := fun _ => False) s1 (by simp only [RepOs]) (fun _ z => z.elim) h1 hD⟩⟩
  · exact h1.elim
theorem ve_lcE (hc : L2H.HotC X) (ok : BlkOk X.N X.env.scope scope own) (ha : VE X iter ma) (hs : ∀ x, foldedSetIterable iter X.env x = pure x := by intro _; rfl) : VE X (.ListComp elt [⟨tg, iter, ifs, 0⟩] scope pos) (gLcE ma) := fun W tk w hcl =>
  (pe_lcE hc ok (pi_listE (ha W tk w hcl)) hs).imp fun σ H Q h => rd_lcE h
theorem ve_lcR {p q : Pos} (hc : L2H.HotC X) (ok : BlkOk X.N X.env.scope scope own) (hm : X.mg "range" = none) (ha : VE X a ma) (hg : Gl X "range" := by rfl) (hst : starEach [a] X.env = (false, eval a X.env) :: starEach [] X.env := by rfl) (hs2 : starEach [a] X.env = [(false, eval a X.env)] := by rfl)
    (hs : ∀ x, foldedSetIterable (.Call (.Name "range" p) [a] [] q) X.env x = pure x := by intro _; rfl) : VE X (.ListComp elt [⟨tg, .Call (.Name "range" p) [a] [] q, ifs, 0⟩] scope pos) (gLcR ma) := fun W tk w hcl =>
  (pe_lcE hc ok (L2H.pi_range1H hg hm (pa_cons (ha W tk w hcl) pa_nil hst) hs2) hs).imp fun σ H Q h => by
    obtain ⟨env, G, h⟩ := rE_to h
    refine rE_of G (Out.bind (Same.refl H) h fun o v H1 F1 _ s1 p1 f1 h1 => ?_)
    have z := RepO.at p1
    cases e : o.er with
    | int n =>
      rw [e] at h1 z
      simp only [Rep] at z
      subst z
      simp only at h1
      split at h1
      · rename_i hn
        subst hn
        exact ⟨0, rfl, by decide, by decide, fun D hD => ⟨Nat.le_refl _, new_lst (os := []) (F := fun _ => False) s1 (by simp only [RepOs]) (fun _ z => z.elim) h1 hD⟩⟩
      · exact h1.elim
    | _ => rw [e] at h1; exact h1.elim
end
section
variable {X : Cx} {elt tg iter : Expr} {ifs : List Expr} {scope : Scope} {own : List (Str × Nat)} {ma : DEnv → R O}
theorem vs_setLcE {i : Nat} {y : Str} {pos py spos : Pos} {P : List Nat} (hc : L2H.HotC X) (hN : X.N.Nodup) (ok : BlkOk X.N X.env.scope scope own) (ha : VE X iter ma) (hy : X.N[i]? = some y := by rfl) (hyl : X.env.scope.names.lookup y = some .local := by rfl)
    (hsw : swapsWith (.ListComp elt [⟨tg, iter, ifs, 0⟩] scope pos) (some (.Name y py)) spos.line X.env = pure true := by rfl) (hP : P.contains i = false := by rfl) (hs : ∀ x, foldedSetIterable iter X.env x = pure x := by intro _; rfl) :
    VS X P (.Assign [.Name y py] (.ListComp elt [⟨tg, iter, ifs, 0⟩] scope pos) spos) (sSetZ i (pur (gLcE ma))) := fun W tk f hf => by
  refine ⟨fun pins s σ H D I h => ?_⟩
  obtain ⟨env, ⟨Z, Fs, g0⟩, key⟩ := rS_to h
  rw [exec_Assign_Name_used _ _ _ _ hsw]
  refine wpAny_bind (wpAny_standAt (wpAny_bind ?_))
  show wpAny _ X.A (do let _ ← comprehension (.ListComp elt [⟨tg, iter, ifs, 0⟩] scope pos) scope X.env (firstIterPos [⟨tg, iter, ifs, 0⟩] pos) (newList []) false (eval iter X.env) (some (assign (.Name y py) X.env))) _ _ s
  have key : SOut f W D ((pur (gLcE ma) env).bind fun o e => match frzO o with
      | some o' => if i < e.length then .ok .next (e.set i (some o')) else .no
      | none => .no) := key
  have hq : rE (tw f Z Fs) W (gLcE ma) σ H (fun x H1 => gName i x σ H1 D.nx) := by
    refine rE_of g0.goodE ?_
    unfold pur at key
    cases e : gLcE ma (dl env) with
    | no => rw [e] at key; exact key
    | ex x =>
      rw [e] at key
      simp only at key
      split at key
      · rename_i n
        exact fun cls d H' F sm r fx => key cls d σ H' ⟨Z, Fs, F, g0.same sm, RepX.unlend n r, g0.fresh fx⟩
      · exact key.elim
    | ok o =>
      rw [e] at key
      simp only at key
      split at key
      · rename_i n
        intro v H' F sm r fx
        have gv : GoodV f env o v σ H' := ⟨Z, Fs, F, g0.same sm, RepO.unlend n r, g0.fresh fx⟩
        simp only [RX.bind] at key
        split at key
        · rename_i o' eo
          split at key
          · rename_i hlt
            exact key _ H' (GoodV.set (o := o') (gv.fz eo) hlt (pin_ne hf.2 hP))
          · exact key.elim
        · exact key.elim
      · exact key.elim
  refine wpAny_bind (thn (lc_coreE (Qf := fun _ s' => SP X pins D .next s') hc I (pi_listE (ha W tk _ hf.1)) ok hs (rd_lcE hq) fun L C s' m H' I' q hn f => ?_) fun _ s' hq => wpAny_pure (wpAny_pure hq))
  show wpAny _ _ (assign (.Name y py) X.env (.ref L)) _ _ _
  refine wpAny_assign_Name (store_ok2 (v := V.ref L) I' hN hy (.inl hyl) rfl (fun s2 I2 ⟨a, sb, ha⟩ => ?_) (.inr hyl))
  obtain ⟨f0, f1, f2, f3, f4, f5⟩ := f
  have haC : C ≠ a := ha.elim (fun z => z ▸ f1) fun z e => f4 y a z e.symm
  exact ⟨m, hn.sameBut sb haC, fun h3 sb3 => ⟨_, H', I2.turned (t' := s2.toks) (fun b o hb e => (sb3.2 b hb).trans e) f0 f1 f3 f4 f5, q⟩⟩
end
theorem walks_listH {prog : Program} {w : World} {A : Around} {x1 : Addr} (I ax : Addr) (ne : ax ≠ I) (nx : x1 ≠ I) (items : Array Value) :
    Walks prog w A I [I, ax, x1] [I] items.size (fun i v => items[i]? = some v) (fun i h => h.IsListIter I ax i ∧ h.IsList ax items ∧ HotAt A x1 h) where
  sub := fun b hb => by rw [List.mem_singleton.mp hb]; simp
  frame := fun i h h' st hk => ⟨st.1.at fun o e => hk I (by simp) o e, st.2.1.at fun o e => hk ax (by simp) o e, st.2.2.1, let ⟨o, vs, e, d, c⟩ := st.2.2.2; ⟨o, vs, hk x1 (by simp) o e, d, c⟩⟩
  item := fun i s Q E hi st hQ => wpAny_pyNext_list_item st.1 st.2.1 (x := items[i]) (by simp [hi]) fun h' hit' hs' => hQ _ h' s.toks (by simp [hi]) ⟨hit', st.2.1.extBut hs'.extBut ne, st.2.2.1, let ⟨o, vs, e, d, c⟩ := st.2.2.2; ⟨o, vs, hs'.extBut x1 o nx e, d, c⟩⟩ fun b o hb e => hs'.extBut b o (fun h => hb (by simp [h])) e
  done := fun s Q E st hQ => list_end_hot st.2.2 nx st.1 st.2.1 (by simp) fun h' x => hQ h' s.toks fun b o hb e => x b o (fun h => hb (by simp [h])) e
  self := fun i s Q E st hQ => wpAny_pyIter_listiter st.1 hQ
section
variable {X : Cx} {a : Expr} {ma : DEnv → R O} {pos : Pos}
theorem cr_allH (hc : L2H.HotC X) : CallR X (.builtin "all") (rAll X.K) := by
  intro pins s σ H vs us Q I r h
  obtain ⟨a, bs, rfl, hs, q⟩ := h
  obtain ⟨its, rv, hl, _⟩ := I.list hs
  rw [Vals.ref1 r]
  have hb := rv.bls
  obtain ⟨p, h1, hp, pk, hot⟩ := hot_pin hc I
  refine call_all_walk (iter_any hl.isList fun s₂ e2 st hne => ?_)
  subst e2
  have hlt : p.1 ≠ s.heap.objs.size := Nat.ne_of_lt (Heap.lt_size pk.get)
  have hot2 : HotAt X.A.in1 p.1 (s.heap.push { cls := .type "list_iterator", data := .fields #[.ref a, .int 0 0] }) := ⟨hot.1, let ⟨o, vs, e, d, c⟩ := hot.2; ⟨o, vs, Heap.get?_push_of_some _ e, d, c⟩⟩
  refine ⟨_, _, _, _, _, _, _, rfl, walks_listH (A := X.A.in1) _ a hne hlt its.toArray, ⟨st.1, st.2, hot2⟩, truth_bools hb, fun h' tk hk => ⟨.bl _, H, I.kept fun b o eo => hk b o (fun hmem => ?_) (Heap.get?_push_of_some _ eo), ?_, q⟩⟩
  · exact absurd (List.mem_singleton.mp hmem ▸ Heap.lt_size eo) (Nat.lt_irrefl _)
  · show Value.bool _ = Value.bool _
    rw [← L2.all_range, hb, List.size_toArray, List.length_map]
theorem ve_allH {q : Pos} (hk : L2H.HotC X) (hm : X.mg "all" = none) (ha : VE X a ma) (hg : Gl X "all" := by rfl) (hst : starEach [a] X.env = (false, eval a X.env) :: starEach [] X.env := by rfl) : VE X (.Call (.Name "all" q) [a] [] pos) (eN (f1 allB) (aCons ma aNil)) :=
  ve_callB (cr_allH hk) (opN_1 fun w W σ H0 H o v F Q hc s p f h => by
    have z := RepO.at p
    unfold allB at h
    split at h
    · rename_i ds e
      rw [e] at z
      simp only [Rep] at z
      obtain ⟨a, vs, rfl, _, r, q⟩ := z
      split at h
      · rename_i bs e2
        rw [Reps.bls e2 q] at r
        exact ⟨a, bs, rfl, SqL.of r, out_bl h⟩
      · exact h.elim
    · exact h.elim) hm (by decide +kernel) (va_cons ha va_nil hst) hg (by decide) (by decide) hst
end
end VL
namespace VL
open PySem PySem.Spec PyProof.Rows L2 HotX
open L2H (HotC Hot1 RoomH FnH PinOk cxH fn_ofH run_fnH)
def OkFH (P : Program) (w : World) (K : PySem.W.Frag) (mg : Str → Option Value) (base : Heap) (x : Str) (N ps : List Str) (m : VEnv → RS) (k : Nat) : Prop := ∃ f fd, mg x = some (.ref f) ∧ PySem.W.keepIn K (.ref f) = true ∧ Binds K fd ps [] ∧ FnH P w K mg base (CXv mg P w) k f fd ps (SpV K mg N ps.length [] m)
def OkMH (P : Program) (w : World) (K : PySem.W.Frag) (mg : Str → Option Value) (base : Heap) (C mn : String) (N ps : List Str) (m : VEnv → RS) (k : Nat) : Prop :=
  ∃ Ca f fd, mg (Str.ofString C) = some (.ref Ca) ∧ Cls K Ca ∧ Meth K Ca (Str.ofString mn) f ∧ Binds K fd ps [] ∧ FnH P w K mg base (CXv mg P w) k f fd ps (SpV K mg N ps.length [] m)
section
variable {P : Program} {w : World} {K : PySem.W.Frag} {mg : Str → Option Value} {base : Heap}
theorem okCH {CX : CXT} {x qual : Str} {st : Stmt} {f : Addr} {fd : FuncData} {N ps : List Str} {k : Nat} {sp : Sp} (F : Fun K x qual st f fd) (S : FnScope N ps (defScope st)) (hl : ∀ vs H Q E, sp vs H Q E → vs.length = ps.length)
    (hb : ∀ (cdv : Value) (A : Around) (outer : List Env) (s : Shared) (H : Hp) (vs : List V) (Q : VK) (E : XK) (p : Addr × Obj), Hot1 A p → RoomH k (A.deeper (envOfC qual (defScope st) s.heap.objs.size f cdv)) → sp vs H Q E → ∃ t, PSs (cxH CX P w K mg base N qual (defScope st) f cdv A outer s H E p) (defBody st) t ∧ t { nx := fun _ H' => Q .non H', rt := Q } (L2.start N vs) H) : FnH P w K mg base CX (k + 1) f fd ps sp := by
  obtain ⟨oc, od, kV, doc, pm, an, cdv, ct, osl, rfl, lk, cd⟩ := F.ex
  exact fn_ofH lk cd S hl fun A outer s H vs Q E p hot r h => hb cdv A outer s H vs Q E p hot r h
theorem fn_vH {x qual : Str} {st : Stmt} {f : Addr} {fd : FuncData} {N ps : List Str} {k : Nat} {pi : List Nat} {m : VEnv → RS} (F : Fun K x qual st f fd) (S : FnScope N ps (defScope st))
    (hb : ∀ (cdv : Value) (A : Around) (outer : List Env) (s : Shared) (H : Hp) (E : XK) (p : Addr × Obj), Hot1 A p → RoomH k (A.deeper (envOfC qual (defScope st) s.heap.objs.size f cdv)) → VB (cxH (CXv mg P w) P w K mg base N qual (defScope st) f cdv A outer s H E p) pi (defBody st) m) :
    FnH P w K mg base (CXv mg P w) (k + 1) f fd ps (SpV K mg N ps.length pi m) := by
  refine okCH F S (fun vs H Q E h => h.1) (fun cdv A outer s H vs Q E p hot hr h => ?_)
  obtain ⟨_, fr, env, hc, hp, g, h⟩ := h
  have hf : FOk (cxH (CXv mg P w) P w K mg base N qual (defScope st) f cdv A outer s H E p) pi fr := ⟨ClOk0.ok hc, hp⟩
  refine ⟨rS fr (fun cls d _ H => E cls d H) m, hb cdv A outer s H E p hot hr _ (takes_of rfl rfl rfl rfl) fr hf, rS_of g ?_⟩
  unfold FOut at h
  cases e : m env with
  | ok c env' =>
    rw [e] at h
    cases c with
    | next => exact h
    | ret o => exact h
    | brk => exact h.elim
    | cont => exact h.elim
  | ex x env' => rw [e] at h; exact h
  | no => rw [e] at h; exact h
theorem FnT.okH {x : Str} {st : Stmt} {N ps : List Str} {k : Nat} {m : VEnv → RS} (T : FnT K mg x st ps) (S : FnScope N ps (defScope st))
    (hb : ∀ (f : Addr) (cdv : Value) (A : Around) (outer : List Env) (s : Shared) (H : Hp) (E : XK) (p : Addr × Obj), Hot1 A p → RoomH k (A.deeper (envOfC x (defScope st) s.heap.objs.size f cdv)) → VB (cxH (CXv mg P w) P w K mg base N x (defScope st) f cdv A outer s H E p) [] (defBody st) m) : OkFH P w K mg base x N ps m (k + 1) := by
  obtain ⟨f, fd, hm, F, hbn⟩ := T
  exact ⟨f, fd, hm, F.kp, hbn, fn_vH F S (hb f)⟩
theorem FnM.okH {C mn : String} {qual : Str} {st : Stmt} {N ps : List Str} {k : Nat} {m : VEnv → RS} (T : FnM K mg C mn qual st ps) (S : FnScope N ps (defScope st))
    (hb : ∀ (f : Addr) (cdv : Value) (A : Around) (outer : List Env) (s : Shared) (H : Hp) (E : XK) (p : Addr × Obj), Hot1 A p → RoomH k (A.deeper (envOfC qual (defScope st) s.heap.objs.size f cdv)) → VB (cxH (CXv mg P w) P w K mg base N qual (defScope st) f cdv A outer s H E p) [] (defBody st) m) : OkMH P w K mg base C mn N ps m (k + 1) := by
  obtain ⟨Ca, f, fd, hm, c, M, F, hbn⟩ := T
  exact ⟨Ca, f, fd, hm, c, M, hbn, fn_vH F S (hb f)⟩
theorem hotC_of {CX : CXT} {N : List Str} {qual : Str} {sc : Scope} {f : Addr} {cdv : Value} {A : Around} {outer : List Env} {s : Shared} {H : Hp} {E : XK} {p : Addr × Obj} (h : Hot1 A p) : HotC (cxH CX P w K mg base N qual sc f cdv A outer s H E p) := ⟨p, h, List.mem_singleton.mpr rfl⟩
end
theorem huH_of {X : Cx} {k : Nat} (h : RoomH k X.A) : Hu X := by have := h.un; show X.A.units + 64 < cLine; omega
section
variable {X : Cx} {a o : Expr} {es : List Expr} {mo : DEnv → R O} {mA : DEnv → R (List O)} {pos apos p : Pos} {x : Str} {N ps : List Str} {m : VEnv → RS} {k j : Nat}
theorem ve_callH (F : OkFH X.prog X.w X.K X.mg X.base x N ps m k) (hr : RoomH k X.A) (hc : HotC X) (ha : VA X (a :: es) mA) (hl : ALen mA j) {n : Nat} (hNn : N.length = n := by rfl) (hj : j = ps.length := by rfl) (hg : Gl X x := by rfl) (hdb : (x == ("__debug__" : Str)) = false := by decide)
    (he : starEach (a :: es) X.env = (false, eval a X.env) :: starEach es X.env := by rfl) (hpl : (backTo pos (starEach es X.env)).any (·.1) = false := by rfl) : VE X (.Call (.Name x p) (a :: es) [] pos) (eN (callM n m) mA) := fun W tk w hcl => by
  subst hNn
  subst hj
  obtain ⟨f, fd, hm, hk, hb, F⟩ := F
  refine (L2H.pe_callH (E := WE W) F hr hc hg hm hk hb (fun σ => passAt tk σ) (ha W tk w hcl) hdb he hpl).imp fun σ H Q h => ?_
  obtain ⟨env, G, h⟩ := rE_to h
  exact rA_of G (Out.bind (Same.refl H) h fun os vs H1 F1 e1 s1 p1 f1 h1 => call_out (X := X) (W := W) (σ := σ) hcl G.zt G.bt (G.same s1).al s1 p1 f1 (by rw [RepOs.length p1, hl env os e1]) h1)
theorem pe_methH0 {CX : CXT} {f C : Addr} {fd : FuncData} {sp : Sp} {E' : L2.St → XK} {q : Str} {ta : TE} {pl : Sem Bool} (he : PE X o ta) (c : Cls X.K C) (hm : Meth X.K C q f) (F : FnH X.prog X.w X.K X.mg X.base CX k f fd ps sp) (hr : RoomH k X.A) (hc : HotC X) (hb : Binds X.K fd ps []) (hx : ∀ σ, PassesAt CX X σ (E' σ))
    (ht : eval (.Call (.Attribute o q apos) [] [] pos) X.env = (do
      let ov ← eval o X.env
      standAt apos.atName
      let (f, first) ← holding [ov] (getMethod ov q pl)
      callWith pos f first (backTo pos (starEach [] X.env)) (backToKw pos (keywordEach [] X.env))) := by rfl) :
    PE X (.Call (.Attribute o q apos) [] [] pos) (tMethV C q sp E' ta tNil) := ⟨fun pins s σ H Q I h => by
  refine PySem.W.methodCall_KW (pl := pl) (thn (he.run pins s σ H _ I h) fun u s1 ⟨x, H1, I1, rx, a, dx, fs, ex, ea, l, q⟩ => ?_) ht
  subst ex
  obtain rfl : u = Value.ref a := rx
  exact getmeth_ok I1 ea c hm l (PySem.W.callWith_K0 (first := [.ref a]) I1.kIn hm.kp (run_fnH (us := [.ref a]) (vs := [.ref a]) F hr hc hb (hx σ) I1 (.cons rfl .nil) q))⟩
theorem ve_mth0H {pl : Sem Bool} (C mn : String) (F : OkMH X.prog X.w X.K X.mg X.base C mn N ps m k) (hr : RoomH k X.A) (hc : HotC X) (ho : VE X o mo) {n : Nat} (hNn : N.length = n := by rfl) (hj : 1 = ps.length := by rfl) (hx : x = Str.ofString mn := by rfl)
    (ht : eval (.Call (.Attribute o x apos) [] [] pos) X.env = (do
      let ov ← eval o X.env
      standAt apos.atName
      let (f, first) ← holding [ov] (getMethod ov x pl)
      callWith pos f first (backTo pos (starEach [] X.env)) (backToKw pos (keywordEach [] X.env))) := by rfl) : VE X (.Call (.Attribute o x apos) [] [] pos) (eN (callM n m) (aRecv C mn mo aNil)) := fun W tk w hcl => by
  subst hNn
  subst hx
  obtain ⟨Ca, f, fd, hm, c, M, hb, F⟩ := F
  refine (pe_methH0 (E' := WE W) (pl := pl) (ho W tk w hcl) c M F hr hc hb (fun σ => passAt tk σ) ht).imp fun σ H Q h => ?_
  obtain ⟨env, G, h⟩ := rE_to h
  rw [recv_eq] at h
  refine rE_of G (Out.bind (Same.refl H) h fun o1 v H1 F1 _ s1 p1 f1 h1 => ?_)
  split at h1
  · rename_i hO
    obtain ⟨a1, Ca1, dx, kvs, rfl, hc1, hH, hk⟩ := isObj_at hO p1
    have e1 := clM_at hcl hc1
    rw [hm] at e1
    cases e1
    refine ⟨a1, dx, kvs, rfl, hH, hk, ?_⟩
    refine call_out (X := X) (W := W) (σ := σ) (os := [o1]) (vs := [.ref a1]) (F1 := F1) hcl G.zt G.bt (G.same s1).al s1 ?_ f1 (by simp [hj]) (by exact h1)
    simp only [RepOs]
    exact ⟨_, [], F1, fun _ => False, rfl, fun _ z => z, fun _ z => z.elim, fun _ _ z => z, p1, rfl⟩
  · exact h1.elim
end
end VL
namespace VL
open PySem PySem.Spec PyProof.Rows L2 HotX
open L2H (HotC Hot1 RoomH FnH PinOk cxH)
structure SubH (X : Cx) (n : Nat) (A : Around) : Prop where
  room : RoomH n A
  fr : A.frames = X.A.frames
  hd : A.handled = X.A.handled
theorem SubH.in1 {X : Cx} {n : Nat} {A : Around} (h : SubH X (n + 1) A) : SubH X n A.in1 := ⟨⟨by have := h.room.dp; show A.depth + 3 * n + 5 < _; omega, by have := h.room.un; show A.units + 1 + 16 * n + 200 < _; omega⟩, h.fr, h.hd⟩
theorem SubH.mono {X : Cx} {j n : Nat} {A : Around} (h : SubH X n A) (le : j ≤ n) : SubH X j A := ⟨h.room.mono le, h.fr, h.hd⟩
section
variable {X : Cx} {pins : List (Addr × Obj)} {σ : L2.St} {A : Around} {a C fi fl t dx : Addr} {F : Str} {zs : List V} {H : Hp} {s : Shared} {fs : List (Str × V)} {fdL fdI : FuncData} {n : Nat} {E : Value → Shared → Prop}
theorem len_ownH {Q : Value → Shared → Prop} (hx : HotC X) (sb : SubH X n A.in1) (hc : ItC2 X.K C fi fl) (c : Cls X.K C) (na : NoAttr X.K C F) (FL : FnH X.prog X.w X.K X.mg X.base (VL.CXv X.mg X.prog X.w) n fl fdL ["self"] (spLn X.K F)) (bL : Binds X.K fdL ["self"] []) (I : L2.Inv X pins σ H s) (ha : H a = some (.ins C dx fs)) (hl : fs.lookup F = some (.ref t)) (ht : H t = some (.lst zs)) (hz : zs.length ≤ sizeLine)
    (h : ∀ u s', L2.Inv X pins σ H s' → Q (.int zs.length u) s') : wpAny (model X.prog X.w) A (call (.builtin "len") [.ref a]) Q E s := by
  obtain ⟨mA, J, _⟩ := ins_get I.hok ha
  obtain ⟨od, J, _⟩ := J.look
  obtain ⟨m0, hF⟩ := I.fr
  obtain ⟨p, h1, hp, pk, hot⟩ := hot_pin hx I
  refine PySem.W.len_K hF I.ok.mod.kin J hc.ln hc.lnF ?_
  have e0 : Env0 X.prog X.w X.K X.mg X.base A.in1 X.stack s H := by
    have e := I.env0
    exact ⟨by rw [sb.fr]; exact e.frames, e.mod, e.bs, e.bsz, e.funs, e.frf, e.hok, e.bare⟩
  have hsp : spLn X.K F [.ref a] H (fun v H' => v = .int zs.length ∧ H' = H) (fun _ _ _ => False) := ⟨a, C, dx, fs, t, zs, rfl, ha, c, na, hl, SqL.of ht, rfl, rfl⟩
  have r2 : Vals [V.ref a] [Value.ref a] := .cons rfl .nil
  refine wpAny_call (codeAny_mono (FL.run A.in1 X.stack s _ ⟨[.ref a], []⟩ [.ref a] [.ref a] _ _ p sb.room ⟨sb.hd.trans h1.1, h1.2⟩ pk e0 (by
    have := bL s [.ref a] I.kIn (by simp)
    simpa using this) r2 hsp) fun r s' hq' => ?_)
  cases r with
  | error e => exact (cxv_false hq').elim
  | ok fl =>
    cases fl with
    | next => exact False.elim hq'
    | brk => exact False.elim hq'
    | cont => exact False.elim hq'
    | ret u =>
      obtain ⟨v, H', I', rv, rfl, rfl⟩ := I.after hq'
      obtain ⟨k, rfl⟩ := rv
      rw [sizeLine_eq] at hz
      exact ⟨⟨by omega, by omega⟩, h _ _ (I'.tok _)⟩
theorem own_hintH {Q : Bool → Shared → Prop} (hx : HotC X) (sb : SubH X n A.in1) (hc : ItC2 X.K C fi fl) (c : Cls X.K C) (na : NoAttr X.K C F) (FL : FnH X.prog X.w X.K X.mg X.base (VL.CXv X.mg X.prog X.w) n fl fdL ["self"] (spLn X.K F)) (bL : Binds X.K fdL ["self"] []) (I : L2.Inv X pins σ H s) (ha : H a = some (.ins C dx fs)) (hl : fs.lookup F = some (.ref t)) (ht : H t = some (.lst zs)) (hz : zs.length ≤ sizeLine)
    (h : ∀ b s', L2.Inv X pins σ H s' → Q b s') : wpAny (model X.prog X.w) A (Builtin.List.listLengthHint (.ref a)) Q E s := by
  obtain ⟨mA, J, _⟩ := ins_get I.hok ha
  obtain ⟨od, J, _⟩ := J.look
  unfold Builtin.List.listLengthHint
  refine wpAny_bind (wpAny_bind (J.type.here ((PySem.W.looks_findIn I.kIn hc.ln).here ?_)))
  refine PySem.W.KFB.if_not rfl (wpAny_ite_split (fun _ => ?_) (fun n => absurd rfl n))
  refine wpAny_bind (wpAny_rule (wpAny_bind (wpAny_attempt (len_ownH hx sb hc c na FL bL I ha hl ht hz fun u s' I' => ?_))))
  show wpAny _ _ (asInt? (.int (zs.length : Int) u) >>= _) _ _ _
  refine wpAny_bind (m := asInt? _) (wpAny_pure ?_)
  simp only
  rw [Int.toNat_natCast, if_neg (by rw [notLongL hz]; exact Bool.false_ne_true)]
  exact wpAny_pure (h _ _ I')
end
section
variable {X : Cx} {pins : List (Addr × Obj)} {σ : L2.St} {A1 : Around} {a q it C fi fl t dx : Addr} {F : Str} {H Hd : Hp} {s : Shared} {fs : List (Str × V)} {fdI fdL : FuncData} {n : Nat}
theorem itLs_endH {Rs : Result → Shared → Prop} (hx : HotC X) (hh : A1.in1.handled = X.A.handled) (hfp : FpOk X pins (upd Hd q (.lst [])) it) (hsq : SqL X.K (upd Hd q (.lst [])) t [])
    (hdone : ∀ s, L2.Inv X pins σ (upd Hd q (.lst [])) s → Rs (.ok (.ret .none)) s) (I : L2.Inv X pins σ (upd Hd q (.lst [])) s) (hit : s.heap.IsListIter it t 0) : codeAny (model X.prog X.w) A1 (.builtin "list.extend.loop" ⟨[.ref q, .ref it, .none], []⟩) Rs s := by
  refine codeAny_builtin PySem.F.entry_extend_loop ?_
  rw [Around.under_plainId PySem.F.plain_extend_loop _]
  show wpAny _ A1.in1 (pyNext (.ref it) >>= _) _ _ s
  obtain ⟨its, rv, pl, _⟩ := I.list hsq
  have hl := rv.length
  obtain ⟨p, h1, hp, pk, hot⟩ := hot_pin hx I
  obtain ⟨f1, f2, f3, f4, f5, f6⟩ := hfp
  refine wpAny_bind (list_end_hot (x1 := p.1) ⟨hh.trans hot.1, hot.2⟩ (f6 p (List.mem_append_left _ hp)) hit pl.isList (by have e : its = [] := List.length_eq_zero_iff.mp hl.symm; subst e; rfl) fun h' hb => wpAny_pure (hdone _ ?_))
  exact I.turned (h' := h') (t' := s.toks) (it := it) (fun b o n e => hb b o n e) f1 f2 f4 f5 f6
theorem it_extendH {Rs : Result → Shared → Prop} (hx : HotC X) (sb : SubH X (n + 1) A1.in1) (hc : ItC2 X.K C fi fl) (c : Cls X.K C) (na : NoAttr X.K C F)
    (FI : FnH X.prog X.w X.K X.mg X.base (VL.CXv X.mg X.prog X.w) n fi fdI ["self"] (spItL X.K F)) (bI : Binds X.K fdI ["self"] []) (FL : FnH X.prog X.w X.K X.mg X.base (VL.CXv X.mg X.prog X.w) n fl fdL ["self"] (spLn X.K F)) (bL : Binds X.K fdL ["self"] [])
    (hdone : ∀ s, L2.Inv X pins σ (upd H q (.lst [])) s → Rs (.ok (.ret .none)) s) (hy : X.s_0.heap.objs.size ≤ q) (hqn : H q = none)
    (I : L2.Inv X pins σ (upd H q (.lst [])) s) (ha : H a = some (.ins C dx fs)) (hl : fs.lookup F = some (.ref t)) (ht : H t = some (.lst [])) :
    wpAny (model X.prog X.w) A1.in1 (Builtin.List.listExtendWith (.ref q) (.ref a) .none)
      (fun fin s' => match fin with | .done f => Rs (.ok f) s' | .again c' => c'.quiet = true ∧ codeAny (model X.prog X.w) A1 c' Rs s') (fun e s' => Rs (.error e) s') s := by
  have hqa : a ≠ q := fun e => by rw [e, hqn] at ha; cases ha
  have hqt : t ≠ q := fun e => by rw [e, hqn] at ht; cases ht
  have ha' : upd H q (.lst []) a = some (.ins C dx fs) := by rw [upd_ne hqa]; exact ha
  have ht' : ∀ l, upd H q (.lst l) t = some (.lst []) := fun l => by rw [upd_ne hqt]; exact ht
  obtain ⟨mA, J, _⟩ := ins_get I.hok ha'
  obtain ⟨od, J, _⟩ := J.look
  obtain ⟨m0, hF⟩ := I.fr
  obtain ⟨p, h1, hp, pk, hot⟩ := hot_pin hx I
  unfold Builtin.List.listExtendWith
  refine wpAny_bind (J.type.here ?_)
  have h1' : Builtin.List.listSameRef (.ref q) (.ref a) = false := by simp [Builtin.List.listSameRef, Ne.symm hqa]
  have h2 : (Value.ref C == Value.type "list") = false := rfl
  have h3 : (Value.ref C == Value.type "tuple") = false := rfl
  simp only [h1', h2, h3, Bool.or_false, Bool.false_eq_true, if_false]
  refine wpAny_bind (PySem.W.owit_iter hF I.ok.mod.kin J hc.it hc.itF ?_)
  have e0 : Env0 X.prog X.w X.K X.mg X.base A1.in1 X.stack s (upd H q (.lst [])) := by
    have e := I.env0
    exact ⟨by rw [sb.fr]; exact e.frames, e.mod, e.bs, e.bsz, e.funs, e.frf, e.hok, e.bare⟩
  have hspI : spItL X.K F [.ref a] (upd H q (.lst [])) (fun v H' => ∃ it, v = .ref it ∧ upd H q (.lst []) it = none ∧ q < it ∧ H' = upd (upd H q (.lst [])) it (ItLs t it 0)) (fun _ _ _ => False) :=
    ⟨a, C, dx, fs, t, [], rfl, ha', c, na, hl, SqL.of (ht' []), fun it hn hb => ⟨it, rfl, hn, hb q (by rw [upd_same]; exact fun z => nomatch z), rfl⟩⟩
  have r2 : Vals [V.ref a] [Value.ref a] := .cons rfl .nil
  refine wpAny_call (codeAny_mono (FI.run A1.in1 X.stack s _ ⟨[.ref a], []⟩ [.ref a] [.ref a] _ _ p (sb.mono (Nat.le_succ n)).room ⟨sb.hd.trans h1.1, h1.2⟩ pk e0 (by
    have := bI s [.ref a] I.kIn (by simp)
    simpa using this) r2 hspI) fun r s' hq' => ?_)
  cases r with
  | error e => exact (cxv_false hq').elim
  | ok fl =>
    cases fl with
    | next => exact False.elim hq'
    | brk => exact False.elim hq'
    | cont => exact False.elim hq'
    | ret u =>
      obtain ⟨v, H', I', rv, it, rfl, hn, hab, rfl⟩ := I.after hq'
      cases rv
      have hia : a ≠ it := fun e => by rw [← e, ha'] at hn; cases hn
      have hiq : q ≠ it := Nat.ne_of_lt hab
      have hiT : t ≠ it := fun e => by rw [← e, ht' []] at hn; cases hn
      have hit0 : s'.heap.IsListIter it t 0 := (I'.hok it _ upd_same).1
      refine wpAny_specialOf hit0.typeIs slot_listiter_next.lookup ?_
      have ha2 : upd (upd H q (.lst [])) it (ItLs t it 0) a = some (.ins C dx fs) := by rw [upd_ne hia]; exact ha'
      have ht2 : upd (upd H q (.lst [])) it (ItLs t it 0) t = some (.lst []) := by rw [upd_ne hiT]; exact ht' []
      refine wpAny_bind (wpAny_holding (own_hintH hx sb.in1 hc c na FL bL I' ha2 hl ht2 (Nat.zero_le _) fun b s' I' => ?_))
      have hit : s'.heap.IsListIter it t 0 := (I'.hok it _ upd_same).1
      have Id := ItX.inv_drop I' upd_same
      have fp0 := ItX.inv_fp I' (a := it) upd_same (Nat.le_trans hy (Nat.le_of_lt hab))
      rw [ItX.dropH_upd hn] at Id fp0
      have hni : H it = none := by rw [upd_ne (Ne.symm hiq)] at hn; exact hn
      have hfp : FpOk X pins (upd H q (.lst [])) it := ⟨by rw [upd_ne (Ne.symm hiq)]; exact hni, fp0.2⟩
      obtain ⟨mA', J', _⟩ := ins_get Id.hok ha'
      obtain ⟨od', J', _⟩ := J'.look
      have loop : ∀ s, L2.Inv X pins σ (upd H q (.lst [])) s → s.heap.IsListIter it t 0 → codeAny (model X.prog X.w) A1 (.builtin "list.extend.loop" ⟨[.ref q, .ref it, .none], []⟩) Rs s := fun s I hit =>
        itLs_endH hx sb.hd hfp (SqL.of (ht' [])) hdone I hit
      obtain ⟨z, its, k, r3, hl3, e3⟩ := Id.lstM upd_same
      cases r3
      refine wpAny_ite_split (fun _ => ?_) (fun _ => wpAny_pure ⟨plainId_quiet PySem.F.plain_extend_loop _, loop s' Id hit⟩)
      refine wpAny_bind (wpAny_rule (wpAny_bind ?_))
      show wpAny _ _ (updateSeq q (·.push .none) >>= fun _ => updateSeq q (·.pop)) _ _ _
      refine wpAny_bind (wpAny_updateSeq e3 rfl ?_)
      have I2 := Id.lset (f := (·.push Value.none)) (its' := [Value.none]) (ys := [.non]) (t' := s'.toks) upd_same e3 (by simp) (.cons rfl .nil) (by rw [List.length_singleton, sizeLine_eq]; decide)
      obtain ⟨z4, its4, k4, r4, hl4, e4⟩ := I2.lstM upd_same
      obtain ⟨u4, rfl, ru4⟩ := r4.one
      refine wpAny_updateSeq e4 rfl ?_ (by show 1 ≤ sizeLine; rw [sizeLine_eq]; decide) (by show 0 ≤ sizeLine + 1; exact Nat.zero_le _)
      have I3 := I2.lset (f := (·.pop)) (its := [u4]) (its' := []) (ys := []) (t' := s'.toks) upd_same e4 (by rfl) .nil (Nat.zero_le _)
      rw [upd_upd, upd_upd] at I3
      refine wpAny_pure ⟨plainId_quiet PySem.F.plain_extend_loop _, loop _ I3 ?_⟩
      exact Heap.IsListIter.extBut (Heap.IsListIter.extBut hit (Heap.SameBut.update ..).extBut (Ne.symm hiq)) (Heap.SameBut.update ..).extBut (Ne.symm hiq)
end
def OkItH (P : Program) (w : World) (K : PySem.W.Frag) (mg : Str → Option Value) (base : Heap) (C F : String) (k : Nat) : Prop :=
  ∃ Ca fi fl fd fdl, mg (Str.ofString C) = some (.ref Ca) ∧ Cls K Ca ∧ NoAttr K Ca (Str.ofString F) ∧ ItC2 K Ca fi fl ∧ (Binds K fd ["self"] [] ∧ FnH P w K mg base (CXv mg P w) k fi fd ["self"] (spItL K (Str.ofString F))) ∧ Binds K fdl ["self"] [] ∧ FnH P w K mg base (CXv mg P w) k fl fdl ["self"] (spLn K (Str.ofString F))
theorem FnItL.okH {P : Program} {w : World} {K : PySem.W.Frag} {mg : Str → Option Value} {base : Heap} {C F : String} {q1 q2 : Str} {s1 s2 : Stmt} (T : FnItL K mg C F q1 s1 q2 s2) (S1 : FnScope ["self"] ["self"] (defScope s1)) (S2 : FnScope ["self"] ["self"] (defScope s2))
    (h1 : ∀ (f : Addr) (cdv : Value) (A : Around) (outer : List Env) (s : Shared) (H : Hp) (E : XK) (p : Addr × Obj), PSs (cxH (CXv mg P w) P w K mg base ["self"] q1 (defScope s1) f cdv A outer s H E p) (defBody s1) (sItL K (Str.ofString F) 0))
    (h2 : ∀ (f : Addr) (cdv : Value) (A : Around) (outer : List Env) (s : Shared) (H : Hp) (E : XK) (p : Addr × Obj), PSs (cxH (CXv mg P w) P w K mg base ["self"] q2 (defScope s2) f cdv A outer s H E p) (defBody s2) (sLn K (Str.ofString F) 0)) : OkItH P w K mg base C F 1 := by
  obtain ⟨Ca, f, fd, g, gd, hm, c, na, I, ⟨F1, b1⟩, F2, b2⟩ := T
  refine ⟨Ca, f, g, fd, gd, hm, c, na, I, ⟨b1, okCH (k := 0) F1 S1 (fun vs H Q E h => ?_) (fun cdv A outer s H vs Q E p hot hr h => ?_)⟩, b2, okCH (k := 0) F2 S2 (fun vs H Q E h => ?_) (fun cdv A outer s H vs Q E p hot hr h => ?_)⟩
  · obtain ⟨a, _, _, _, _, _, rfl, _⟩ := h
    rfl
  · obtain ⟨a, C', dx, fs, t, zs, rfl, hH, c', n', hl, hs, q⟩ := h
    exact ⟨sItL K (Str.ofString F) 0, h1 f cdv A outer s H E p, a, C', dx, fs, t, zs, rfl, hH, c', n', hl, hs, q⟩
  · obtain ⟨a, _, _, _, _, _, rfl, _⟩ := h
    rfl
  · obtain ⟨a, C', dx, fs, t, zs, rfl, hH, c', n', hl, hs, q⟩ := h
    exact ⟨sLn K (Str.ofString F) 0, h2 g cdv A outer s H E p, a, C', dx, fs, t, zs, rfl, hH, c', n', hl, hs, q⟩
def gListH (C F : String) (o : O) : R O := match lstAt C F o with
  | some (_, []) => .ok (.lst [])
  | _ => .no
section
variable {X : Cx} {a : Expr} {ma : DEnv → R O} {pos q : Pos}
theorem call_listH {C fi fl : Addr} {F : Str} {fdI fdL : FuncData} {n : Nat} (hx : HotC X) (hc : ItC2 X.K C fi fl) (c : Cls X.K C) (na : NoAttr X.K C F) (FI : FnH X.prog X.w X.K X.mg X.base (VL.CXv X.mg X.prog X.w) n fi fdI ["self"] (spItL X.K F)) (bI : Binds X.K fdI ["self"] []) (FL : FnH X.prog X.w X.K X.mg X.base (VL.CXv X.mg X.prog X.w) n fl fdL ["self"] (spLn X.K F)) (bL : Binds X.K fdL ["self"] []) (hr : RoomH (n + 3) X.A) :
    CallR X (.type "list") (fun xs H Q => ∃ (a dx : Addr) (fs : List (Str × V)) (t : Addr), xs = [.ref a] ∧ H a = some (.ins C dx fs) ∧ fs.lookup F = some (.ref t) ∧ H t = some (.lst []) ∧ ∀ q, H q = none → Q (.ref q) (upd H q (.lst []))) := by
  intro pins s σ H xs us Q I rv h
  obtain ⟨a, dx, fs, t, rfl, ha, hl, ht, hq⟩ := h
  obtain ⟨u, rfl, ru⟩ := rv.one
  cases ru
  have sb : SubH X (n + 1) X.A.in1.in1 := (SubH.in1 (SubH.in1 (⟨hr, rfl, rfl⟩ : SubH X (n + 3) X.A)))
  refine callType_codes (Q₁ := fun obj s₁ => obj = .ref s.heap.objs.size ∧ s₁ = { s with heap := s.heap.push { cls := .type "list", data := .seq #[] } }) PySem.F.called_list (PySem.F.typeCall_list_1 _) PySem.F.entry_list_init
    (code_list_new _ ⟨rfl, rfl⟩) fun obj s₁ h₁ => ?_
  obtain ⟨rfl, rfl⟩ := h₁
  have hS : (s.heap.push { cls := .type "list", data := .seq #[] }).get? s.heap.objs.size = some { cls := .type "list", data := .seq #[] } := Heap.get?_push_size _ rfl
  refine ⟨⟨_, hS, rfl⟩, PySem.F.args_list_init_2 _ _, ?_⟩
  have fr : H s.heap.objs.size = none := I.hok.fresh (Nat.le_refl _)
  have I1 : L2.Inv X pins σ (upd H s.heap.objs.size (.lst [])) { s with heap := s.heap.push { cls := .type "list", data := .seq #[] } } := I.lnew (its := []) (t' := s.toks) .nil (Nat.zero_le _)
  show wpAny _ _ (do let old ← Builtin.List.listItems (.ref s.heap.objs.size); Builtin.List.listUpdate (.ref s.heap.objs.size) (fun _ => #[]); letGo old.toList.reverse; Builtin.List.listExtendWith (.ref s.heap.objs.size) (.ref a) .none) _ _ _
  refine wpAny_bind ?_
  unfold Builtin.List.listItems
  refine wpAny_bind (wpAny_seqItems hS rfl (wpAny_pure ?_))
  show wpAny _ _ (updateSeq s.heap.objs.size (fun _ => #[]) >>= fun _ => letGo (#[] : Array Value).toList.reverse >>= fun _ => Builtin.List.listExtendWith (.ref s.heap.objs.size) (.ref a) .none) _ _ _
  refine wpAny_bind (wpAny_updateSeq hS rfl ?_)
  have I2 := I1.lset (f := fun _ => #[]) (its := []) (its' := []) (ys := []) (t' := s.toks) upd_same hS rfl .nil (Nat.zero_le _)
  rw [upd_upd] at I2
  refine wpAny_bind (wpAny_letGo ?_)
  exact it_extendH (A1 := X.A.in1) (Rs := wants (fun r s₂ => r = .none ∧ EP X pins σ Q (.ref s.heap.objs.size) s₂) X.xe) hx sb hc c na FI bI FL bL
    (fun s' I' => ⟨rfl, .ref s.heap.objs.size, _, I', rfl, hq _ fr⟩) I.sz fr I2 ha hl ht
theorem ve_listH {k : Nat} (C F : String) (T : OkItH X.prog X.w X.K X.mg X.base C F k) (hr : RoomH (k + 3) X.A) (hx : HotC X) (hm : X.mg "list" = none) (ha : VE X a ma) (hg : Gl X "list" := by rfl) (hst : starEach [a] X.env = (false, eval a X.env) :: starEach [] X.env := by rfl) : VE X (.Call (.Name "list" q) [a] [] pos) (eN (f1 (gListH C F)) (aCons ma aNil)) := by
  obtain ⟨Ca, fi, fl, fd, fdl, hC, c, na, hI, ⟨hb, FI⟩, hbl, FL⟩ := T
  refine ve_callTy (call_listH hx hI c na FI hb FL hbl hr) (opN_1 fun w W σ H0 H o v F1 Q hc s p f h => ?_) hm (by decide +kernel) (va_cons ha va_nil hst) hg (by decide) (by decide) hst
  unfold gListH at h
  split at h
  · rename_i kd e
    obtain ⟨a', Ca', dx, kvs, t, zs, rfl, hC', hH, lv, ht, rz, hz⟩ := lstAt_rep e p
    have := clM_at hc hC'
    rw [hC] at this
    cases this
    have ez : zs = [] := List.length_eq_zero_iff.mp (Reps.length rz)
    subst ez
    exact ⟨a', dx, kvs, t, rfl, hH, lv, ht, fun q nq => new_lst (os := []) (F := fun _ => False) s (by simp only [RepOs]) (fun _ z => z.elim) h nq⟩
  · exact h.elim
theorem ve_lenH {k : Nat} (C F : String) (T : OkItH X.prog X.w X.K X.mg X.base C F k) (hr : RoomH (k + 1) X.A) (hx : HotC X) (hm : X.mg "len" = none) (ha : VE X a ma) (hg : Gl X "len" := by rfl) (hst : starEach [a] X.env = (false, eval a X.env) :: starEach [] X.env := by rfl) : VE X (.Call (.Name "len" q) [a] [] pos) (eN (f1 (gLenL C F)) (aCons ma aNil)) := by
  obtain ⟨Ca, fi, fl, fd, fdl, hC, c, na, hI, ⟨hb, FI⟩, hbl, FL⟩ := T
  have call_ : CallR X (.builtin "len") (fun xs H Q => ∃ (b dx : Addr) (fs : List (Str × V)) (t : Addr) (zs : List V), xs = [.ref b] ∧ H b = some (.ins Ca dx fs) ∧ fs.lookup (Str.ofString F) = some (.ref t) ∧ H t = some (.lst zs) ∧ zs.length ≤ sizeLine ∧ Q (.int zs.length) H) := by
    intro pins s σ H xs us Q I rv h
    obtain ⟨b, dx, fs, t, zs, rfl, hb', hl, ht, hz, hq⟩ := h
    obtain ⟨u, rfl, ru⟩ := rv.one
    cases ru
    exact len_ownH hx (SubH.in1 (⟨hr, rfl, rfl⟩ : SubH X (k + 1) X.A)) hI c na FL hbl I hb' hl ht hz fun u s' I' => ⟨.int zs.length, H, I', ⟨_, rfl⟩, hq⟩
  refine ve_callB call_ (opN_1 fun w W σ H0 H o v F1 Q hc s p f h => ?_) hm PySem.boot_len (va_cons ha va_nil hst) hg (by decide) (by decide) hst
  unfold gLenL at h
  split at h
  · rename_i z e
    obtain ⟨a', Ca', dx, kvs, t, zs, rfl, hC', hH, lv, ht, rz, hz⟩ := lstAt_rep (k := z.1) (xs := z.2) e p
    have := clM_at hc hC'
    rw [hC] at this
    cases this
    refine ⟨a', dx, kvs, t, zs, rfl, hH, lv, ht, hz, ?_⟩
    rw [Reps.length rz]
    exact out_int h
  · exact h.elim
end
end VL
namespace Kw
open PySem PySem.Spec PyProof.Rows L2 VL
def top (i : Nat) : Stmt := PySem.Challenge.pw_dyevats_k21_two_houses.main.body.getD i (.Pass ⟨0, 0, 0, 0⟩)
abbrev errs : Errs := [("DyeError", []), ("BadName", ["name"]), ("UnknownName", ["name"]), ("BadNumber", ["number"])]
abbrev clss : Errs := [("House", ["vats", "deeds"])]
abbrev s_law_row : Stmt := top 13
abbrev N_law_row : List Str := ["_law_cell_here", "_law_count", "_law_many", "_law_rest", "_law_mixed", "_law_row_here", "_law_k"]
abbrev P_law_row : List Str := ["_law_cell_here", "_law_count", "_law_many"]
def b_law_row_1 : VEnv → RS := sSeq (sSetZ 4 (pur (e2 gMod (eN (f1 gInt) (aCons (e2 gPlus (e2 gTimes (eVar 4) (eC (.int 16807))) (eC (.int 40692))) aNil)) (eC (.int 2147483399)))))
  (sIf (tOfE (e2 gGt (eVar 3) (eC (.int 0)))) (sSeq (sDrop (xApp (pName 5) (e2 gMod (eN (f1 gInt) (aCons (eVar 3) aNil)) (eVar 2))))
  (sSetZ 3 (pur (e2 gDiv (eVar 3) (eVar 2))))) (sDrop (xApp (pName 5) (e2 gMod (e2 gMod (eN (f1 gInt) (aCons (e2 gPlus (e2 gTimes (eVar 4) (eVar 4)) (eVar 6)) aNil)) (eC (.int 1000000007))) (eVar 2)))))
def m_law_row : VEnv → RS := sSeq (sSetZ 3 (pur (eN (f1 gAbs) (aCons (eN (f1 gInt) (aCons (eVar 0) aNil)) aNil))))
  (sSeq (sSetZ 4 (pur (e2 gMod (eN (f1 gInt) (aCons (e2 gPlus (e2 gTimes (eVar 3) (eC (.int 48271))) (eC (.int 12345))) aNil)) (eC (.int 2147483399)))))
  (sSeq (sIf (tOfE (e2 gLt (eVar 3) (e2 gPow (eC (.int 10)) (eC (.int 18))))) (sSetZ 3 (pur (eC (.int 0)))) (sNext))
  (sSeq (sSet 5 (pur (eN gLst (aNil))))
  (sSeq (sFor (iR1 6 (eVar 1)) (b_law_row_1))
  (sRet (mvM 5))))))
abbrev s_law_names : Stmt := top 17
abbrev N_law_names : List Str := ["_law_cell_here", "_law_count", "_law_letters", "_law_signs", "_law_words", "_law_row_here", "_law_size", "_law_place", "_law_common", "_law_first", "_law_way", "_law_names_here", "_law_k", "_law_sign", "_law_name", "_law_word"]
abbrev P_law_names : List Str := ["_law_cell_here", "_law_count"]
def b_law_names_1 : VEnv → RS := sSeq (sSetZ 13 (pur (e2 gIx (eVar 2) (e2 gMod (eN (f1 gInt) (aCons (e2 gPlus (e2 gIx (eVar 5) (eC (.int 12))) (e2 gTimes (eC (.int 7)) (eVar 12))) aNil)) (eC (.int 26))))))
  (sSeq (sSetZ 14 (pur (e2 gPlus (e2 gPlus (eSl (eVar 8) (oNo) (oYes (eVar 7))) (eVar 13)) (eSl (eVar 8) (oYes (eVar 7)) (oNo)))))
  (sSeq (sIf (tOfE (e2 gGt (eVar 7) (eC (.int 0)))) (sSetZ 14 (pur (e2 gPlus (eVar 9) (eSl (eVar 14) (oYes (eC (.int 1))) (oNo))))) (sNext))
  (sSeq (sIf (tOfE (e2 gEq (eVar 10) (eC (.int 1)))) (sSetZ 14 (pur (e2 gPlus (eVar 14) (e2 gTimes (eC (.str "z")) (e2 gMod (eVar 12) (eC (.int 3))))))) (sNext))
  (sSeq (sIf (tOfE (e2 gEq (eVar 10) (eC (.int 2)))) (sSetZ 14 (pur (e2 gPlus (e2 gPlus (eVar 9) (eSl (eVar 8) (oNo) (oYes (eC (.int 6))))) (e2 gTimes (e2 gIx (eVar 3) (e2 gIx (eVar 5) (eC (.int 11)))) (e2 gSub (eC (.int 5)) (eVar 12)))))) (sNext))
  (sDrop (xApp (pName 11) (eVar 14)))))))
def m_law_names : VEnv → RS := sSeq (sSetZ 2 (pur (eC (.str "abcdefghijklmnopqrstuvwxyz"))))
  (sSeq (sSetZ 3 (pur (e2 gPlus (eVar 2) (eC (.str "0123456789")))))
  (sSeq (sSetZ 4 (pur (eN gLst (aCons (eC (.str "dip")) (aCons (eC (.str "fill")) (aCons (eC (.str "vat")) (aCons (eC (.str "cloth")) (aCons (eC (.str "least")) (aCons (eC (.str "most")) (aCons (eC (.str "near")) (aCons (eC (.str "darker")) (aNil))))))))))))
  (sSeq (sSetZ 4 (pur (e2 gPlus (eVar 4) (eN gLst (aCons (eC (.str "fillings")) (aCons (eC (.str "always")) (aCons (eC (.str "none")) (aCons (eC (.str "levels")) (aNil)))))))))
  (sSeq (sSetZ 5 (pur (eN (callM 7 m_law_row) (aCons (eVar 0) (aCons (eC (.int 15)) (aCons (eC (.int 36)) (aNil)))))))
  (sSeq (sSetZ 6 (pur (e2 gMod (eN (f1 gInt) (aCons (e2 gIx (eVar 5) (eC (.int 0))) aNil)) (eC (.int 10)))))
  (sSeq (sSetZ 7 (pur (e2 gMod (eN (f1 gInt) (aCons (e2 gIx (eVar 5) (eC (.int 1))) aNil)) (e2 gPlus (eVar 6) (eC (.int 1))))))
  (sSeq (sSetZ 8 (pur (eMeth isSO gJoin (eC (.str "")) (gLc [12] (jR1 (eVar 6)) (asgN 12) (tYesM) (e2 gIx (eVar 3) (e2 gIx (eVar 5) (e2 gPlus (eC (.int 2)) (eVar 12))))))))
  (sSeq (sSetZ 9 (pur (e2 gIx (eVar 2) (e2 gMod (eN (f1 gInt) (aCons (e2 gIx (eVar 5) (eC (.int 2))) aNil)) (eC (.int 26))))))
  (sSeq (sSetZ 10 (pur (e2 gMod (eN (f1 gInt) (aCons (e2 gIx (eVar 5) (eC (.int 13))) aNil)) (eC (.int 4)))))
  (sSeq (sSet 11 (pur (eN gLst (aNil))))
  (sSeq (sFor (iR1 12 (eVar 1)) (b_law_names_1))
  (sSeq (sSetZ 15 (pur (e2 gIx (eVar 4) (e2 gMod (eN (f1 gInt) (aCons (e2 gIx (eVar 5) (eC (.int 14))) aNil)) (eC (.int 12))))))
  (sSeq (sIf (tAndM (tOfE (e2 gEq (eVar 10) (eC (.int 3)))) (tOfE (e2 gNIn (eVar 15) (eVar 11)))) (sSetIx (eVar 15) (pName 11) (e2 gMod (eN (f1 gInt) (aCons (e2 gIx (eVar 5) (eC (.int 11))) aNil)) (eVar 1))) (sNext))
  (sRet (mvM 11)))))))))))))))
abbrev s_law_cell : Stmt := top 12
abbrev N_law_cell : List Str := ["_law_script", "_law_k"]
abbrev P_law_cell : List Str := ["_law_script", "_law_k"]
def m_law_cell : VEnv → RS := sSeq (sIf (tOfE (e2 gLt (eVar 1) (eN (f1 gLen) (aCons (eVar 0) aNil)))) (sRet (pur (eN (f1 gInt) (aCons (e2 gIx (eVar 0) (eVar 1)) aNil)))) (sNext))
  (sRet (pur (eC (.int 0))))
abbrev s_law_rows : Stmt := top 14
abbrev N_law_rows : List Str := ["_law_script", "_law_at", "_law_size", "_law_few", "_law_row_here", "_law_rows_here", "_law_k", "_law_cell_here"]
abbrev P_law_rows : List Str := ["_law_script", "_law_at", "_law_size", "_law_few"]
def b_law_rows_1 : VEnv → RS := sDrop (xApp (pName 5) (eSl (eVar 4) (oYes (e2 gPlus (eC (.int 1)) (e2 gTimes (eVar 2) (eVar 6)))) (oYes (e2 gPlus (e2 gPlus (eC (.int 1)) (e2 gTimes (eVar 2) (eVar 6))) (eVar 2)))))
def b_law_rows_2 : VEnv → RS := sDrop (xApp (pName 5) (eN (callM 7 m_law_row) (aCons (eVar 7) (aCons (eVar 2) (aCons (eC (.int 12)) (aNil))))))
def m_law_rows : VEnv → RS := sSeq (sSetZ 4 (pur (eN (callM 7 m_law_row) (aCons (eN (callM 2 m_law_cell) (aCons (eVar 0) (aCons (eVar 1) (aNil)))) (aCons (e2 gPlus (eC (.int 1)) (e2 gTimes (eVar 2) (eVar 3))) (aCons (eC (.int 12)) (aNil)))))))
  (sSeq (sSet 5 (pur (eN gLst (aNil))))
  (sSeq (sFor (iR1 6 (e2 gMod (eN (f1 gInt) (aCons (e2 gPlus (e2 gIx (eVar 4) (eC (.int 0))) (eC (.int 15))) aNil)) (e2 gPlus (eVar 3) (eC (.int 1))))) (b_law_rows_1))
  (sSeq (sFor (iSeqM (setA 7) (eSl (eVar 0) (oYes (e2 gPlus (eVar 1) (eC (.int 1)))) (oYes (e2 gPlus (eVar 1) (eC (.int 13)))))) (b_law_rows_2))
  (sRet (mvM 5)))))
abbrev s_valid_name : Stmt := top 9
abbrev N_valid_name : List Str := ["name", "char"]
abbrev P_valid_name : List Str := ["name"]
def m_valid_name : VEnv → RS := sSeq (sIf (tOrM (tNotM (tOfE (eCh gLe gLe (eC (.int 1)) (eN (f1 gLen) (aCons (eVar 0) aNil)) (eC (.int 12))))) (tOfE (e2 gNIn (e2 gIx (eVar 0) (eC (.int 0))) (eC (.str "abcdefghijklmnopqrstuvwxyz"))))) (sRet (pur (eC (.bl false)))) (sNext))
  (sRet (pur (eN (f1 allB) (aCons (gLc [1] (jStr (eVar 0)) (asgN 1) (tYesM) (e2 gIn (eVar 1) (e2 gPlus (eC (.str "abcdefghijklmnopqrstuvwxyz")) (eC (.str "0123456789"))))) aNil))))
abbrev s_House___init__ : Stmt := inClass (top 10) 0
abbrev N_House___init__ : List Str := ["self", "vats", "names", "vat"]
abbrev P_House___init__ : List Str := ["self", "vats"]
def b_House___init___1 : VEnv → RS := sSeq (sIf (tOrM (tNotM (tTru (eN (callM 2 m_valid_name) (aCons (eVar 3) (aNil))))) (tOfE (e2 gIn (eVar 3) (eVar 2)))) (sRaise1 "BadName" "name" (eVar 3)) (sNext))
  (sDrop (xApp (pName 2) (eVar 3)))
def m_House___init__ : VEnv → RS := sSeq (sSet 2 (pur (eN gLst (aNil))))
  (sSeq (sFor (iSeqM (setA 3) (eVar 1)) (b_House___init___1))
  (sSeq (sSetFld clss "vats" (eN (f1 gTuple) (aCons (eVar 2) aNil)) (pName 0))
  (sSetFld clss "deeds" (eN gLst (aNil)) (pName 0))))
abbrev s_law_units : Stmt := top 18
abbrev N_law_units : List Str := ["_law_row_here"]
abbrev P_law_units : List Str := ["_law_row_here"]
def m_law_units : VEnv → RS := sSeq (sIf (tOfE (e2 gEq (e2 gMod (eN (f1 gInt) (aCons (e2 gIx (eVar 0) (eC (.int 4))) aNil)) (eC (.int 6))) (eC (.int 5)))) (sRet (pur (e2 gPlus (eC (.int 7)) (e2 gTimes (eC (.int 3)) (e2 gIx (eVar 0) (eC (.int 3))))))) (sNext))
  (sRet (pur (e2 gPlus (eC (.int 1)) (e2 gMod (eN (f1 gInt) (aCons (e2 gIx (eVar 0) (eC (.int 3))) aNil)) (eC (.int 5))))))
abbrev s_law_level : Stmt := top 22
abbrev N_law_level : List Str := ["_law_log", "_law_tub", "_law_level_here", "_law_deed_here"]
abbrev P_law_level : List Str := ["_law_log", "_law_tub"]
def b_law_level_1 : VEnv → RS := sIf (tOfE (e2 gEq (eVar 3) (eN gTup (aCons (eC (.str "fill")) (aCons (eVar 1) (aNil)))))) (sSet 2 (pur (eC (.int 0)))) (sIf (tAndM (tOfE (e2 gEq (e2 gIx (eVar 3) (eC (.int 0))) (eC (.str "dip")))) (tOfE (e2 gEq (e2 gIx (eVar 3) (eC (.int 2))) (eVar 1)))) (sSet 2 (pur (e2 gPlus (eVar 2) (e2 gIx (eVar 3) (eC (.int 3)))))) (sNext))
def m_law_level : VEnv → RS := sSeq (sSet 2 (pur (eC (.int 0))))
  (sSeq (sFor (iSeqM (setA 3) (eVar 0)) (b_law_level_1))
  (sRet (mvM 2)))
abbrev s_law_deed : Stmt := top 23
abbrev N_law_deed : List Str := ["_law_row_here", "_law_names_here", "_law_tubs", "_law_log", "_law_tub", "_law_units_here"]
abbrev P_law_deed : List Str := ["_law_row_here", "_law_names_here", "_law_tubs", "_law_log"]
def m_law_deed : VEnv → RS := sSeq (sSetZ 4 (pur (e2 gIx (eVar 2) (e2 gMod (eN (f1 gInt) (aCons (e2 gIx (eVar 0) (eC (.int 2))) aNil)) (eN (f1 gLen) (aCons (eVar 2) aNil))))))
  (sSeq (sSetZ 5 (pur (eN (callM 1 m_law_units) (aCons (eVar 0) (aNil)))))
  (sSeq (sIf (tOrM (tOfE (e2 gEq (e2 gMod (eN (f1 gInt) (aCons (e2 gIx (eVar 0) (eC (.int 0))) aNil)) (eC (.int 4))) (eC (.int 2)))) (tOfE (e2 gGt (e2 gPlus (eN (callM 4 m_law_level) (aCons (eVar 3) (aCons (eVar 4) (aNil)))) (eVar 5)) (eC (.int 100))))) (sRet (pur (eN gTup (aCons (eC (.str "fill")) (aCons (eVar 4) (aNil)))))) (sNext))
  (sRet (pur (eN gTup (aCons (eC (.str "dip")) (aCons (e2 gIx (eVar 1) (e2 gMod (eN (f1 gInt) (aCons (e2 gIx (eVar 0) (eC (.int 1))) aNil)) (eC (.int 6)))) (aCons (eVar 4) (aCons (eVar 5) (aNil))))))))))
abbrev s_House_dipped : Stmt := inClass (top 10) 9
abbrev N_House_dipped : List Str := ["self", "cloths", "deed"]
abbrev P_House_dipped : List Str := ["self"]
def b_House_dipped_1 : VEnv → RS := sIf (tAndM (tOfE (e2 gEq (e2 gIx (eVar 2) (eC (.int 0))) (eC (.str "dip")))) (tOfE (e2 gNIn (e2 gIx (eVar 2) (eC (.int 1))) (eVar 1)))) (sDrop (xApp (pName 1) (e2 gIx (eVar 2) (eC (.int 1))))) (sNext)
def m_House_dipped : VEnv → RS := sSeq (sSet 1 (pur (eN gLst (aNil))))
  (sSeq (sFor (iSeqM (setA 2) (e1 (gFld clss "deeds") (eVar 0))) (b_House_dipped_1))
  (sRet (mvM 1)))
abbrev s_House_ahead : Stmt := inClass (top 10) 7
abbrev N_House_ahead : List Str := ["self", "vat", "level", "deed"]
abbrev P_House_ahead : List Str := ["self", "vat"]
def b_House_ahead_1 : VEnv → RS := sIf (tAndM (tOfE (e2 gEq (e2 gIx (eVar 3) (eC (.int 0))) (eC (.str "dip")))) (tOfE (e2 gEq (e2 gIx (eVar 3) (eC (.int 2))) (eVar 1)))) (sAug (fun i j => i + j) 2 (e2 gIx (eVar 3) (eC (.int 3)))) (sIf (tAndM (tOfE (e2 gEq (e2 gIx (eVar 3) (eC (.int 0))) (eC (.str "fill")))) (tOfE (e2 gEq (e2 gIx (eVar 3) (eC (.int 1))) (eVar 1)))) (sSet 2 (pur (eC (.int 0)))) (sNext))
def m_House_ahead : VEnv → RS := sSeq (sIf (tOfE (e2 gNIn (eVar 1) (e1 (gFld clss "vats") (eVar 0)))) (sRaise1 "UnknownName" "name" (eVar 1)) (sNext))
  (sSeq (sSet 2 (pur (eC (.int 0))))
  (sSeq (sFor (iSeqM (setA 3) (e1 (gFld clss "deeds") (eVar 0))) (b_House_ahead_1))
  (sRet (mvM 2))))
abbrev s_House_fill : Stmt := inClass (top 10) 4
abbrev N_House_fill : List Str := ["self", "vat", "units"]
abbrev P_House_fill : List Str := ["self", "vat"]
def m_House_fill : VEnv → RS := sSeq (sSet 2 (pur (eN (callM 4 m_House_ahead) (aRecv "House" "ahead" (eVar 0) (aCons (eVar 1) (aNil))))))
  (sSeq (sDrop (xApp (pFld clss "deeds" (pName 0)) (eN gTup (aCons (eC (.str "fill")) (aCons (eVar 1) (aNil))))))
  (sRet (mvM 2)))
abbrev s_House_dip : Stmt := inClass (top 10) 3
abbrev N_House_dip : List Str := ["self", "cloth", "vat", "lasting", "start"]
abbrev P_House_dip : List Str := ["self", "cloth", "vat", "lasting"]
def m_House_dip : VEnv → RS := sSeq (sIf (tNotM (tTru (eN (callM 2 m_valid_name) (aCons (eVar 1) (aNil))))) (sRaise1 "BadName" "name" (eVar 1)) (sNext))
  (sSeq (sSet 4 (pur (eN (callM 4 m_House_ahead) (aRecv "House" "ahead" (eVar 0) (aCons (eVar 2) (aNil))))))
  (sSeq (sIf (tOfE (e2 gLt (eVar 3) (eC (.int 1)))) (sRaise1 "BadNumber" "number" (eVar 3)) (sNext))
  (sSeq (sDrop (xApp (pFld clss "deeds" (pName 0)) (eN gTup (aCons (eC (.str "dip")) (aCons (eVar 1) (aCons (eVar 2) (aCons (eVar 3) (aNil))))))))
  (sRet (mvM 4)))))
abbrev s_law_single : Stmt := top 24
abbrev N_law_single : List Str := ["_law_house", "_law_deed_here"]
abbrev P_law_single : List Str := ["_law_house", "_law_deed_here"]
def m_law_single : VEnv → RS := sIf (tOfE (e2 gEq (e2 gIx (eVar 1) (eC (.int 0))) (eC (.str "fill")))) (sDrop (methW "House" "fill" 0 3 m_House_fill [none] (aCons (e2 gIx (eVar 1) (eC (.int 1))) (aNil)))) (sDrop (methW "House" "dip" 0 5 m_House_dip (List.replicate 3 none) (aKw (aCons (e2 gIx (eVar 1) (eC (.int 1))) (aCons (e2 gIx (eVar 1) (eC (.int 2))) (aNil))) (e2 gIx (eVar 1) (eC (.int 3))))))
abbrev s_law_dipped : Stmt := top 25
abbrev N_law_dipped : List Str := ["_law_house", "_law_log", "_law_dips", "_law_told", "_law_last", "_law_name", "_law_deed_here"]
abbrev P_law_dipped : List Str := ["_law_house", "_law_log"]
def b_law_dipped_1 : VEnv → RS := sSeq (sIf (tOrM (tNotM (tTru (e1 (gIsi "str") (eVar 5)))) (tOrM (tOfE (e2 gNIn (eVar 5) (eVar 2))) (tOfE (e2 gLe (eMeth isLO gIdxD (eVar 2) (eVar 5)) (eVar 4))))) (sRet (pur (eC (.bl false)))) (sNext))
  (sSetZ 4 (pur (eMeth isLO gIdxD (eVar 2) (eVar 5))))
def m_law_dipped : VEnv → RS := sSeq (sSetZ 2 (pur (gLc [6] (jSq (eVar 1)) (asgN 6) (tOfE (e2 gEq (e2 gIx (eVar 6) (eC (.int 0))) (eC (.str "dip")))) (e2 gIx (eVar 6) (eC (.int 1))))))
  (sSeq (sSetZ 3 (pur (eN (callM 3 m_House_dipped) (aRecv "House" "dipped" (eVar 0) aNil))))
  (sSeq (sIf (tNotM (tTru (e1 (gIsi "list") (eVar 3)))) (sRet (pur (eC (.bl false)))) (sNext))
  (sSeq (sSetZ 4 (pur (e1 gNeg (eC (.int 1)))))
  (sSeq (sFor (iSeqM (setA 5) (eVar 3)) (b_law_dipped_1))
  (sRet (pur (eN (f1 allB) (aCons (gLc [5] (jSq (eVar 2)) (asgN 5) (tYesM) (e2 gIn (eVar 5) (eVar 3))) aNil))))))))
abbrev s_House___len__ : Stmt := inClass (top 10) 2
abbrev N_House___len__ : List Str := ["self"]
abbrev P_House___len__ : List Str := ["self"]
abbrev s_House___iter__ : Stmt := inClass (top 10) 1
abbrev N_House___iter__ : List Str := ["self"]
abbrev P_House___iter__ : List Str := ["self"]
abbrev s_law_is_int : Stmt := top 15
abbrev N_law_is_int : List Str := ["_law_x"]
abbrev P_law_is_int : List Str := ["_law_x"]
def m_law_is_int : VEnv → RS := sRet (pur (bAnd (e1 (gIsi "int") (eVar 0)) (e1 bNot (e1 (gIsi "bool") (eVar 0)))))
abbrev s_law_same : Stmt := top 20
abbrev N_law_same : List Str := ["_law_deed_here", "_law_expected", "_law_k"]
abbrev P_law_same : List Str := ["_law_deed_here", "_law_expected"]
def b_law_same_1 : VEnv → RS := sIf (tOrM (tAndM (tOfE (e2 gLt (eVar 2) (eC (.int 3)))) (tNotM (tTru (e1 (gIsi "str") (e2 gIx (eVar 0) (eVar 2)))))) (tAndM (tOfE (e2 gEq (eVar 2) (eC (.int 3)))) (tNotM (tTru (eN (callM 1 m_law_is_int) (aCons (e2 gIx (eVar 0) (eVar 2)) (aNil))))))) (sRet (pur (eC (.bl false)))) (sNext)
def m_law_same : VEnv → RS := sSeq (sIf (tOrM (tNotM (tTru (e1 (gIsi "tuple") (eVar 0)))) (tOfE (e2 gNe (eN (f1 gLen) (aCons (eVar 0) aNil)) (eN (f1 gLen) (aCons (eVar 1) aNil))))) (sRet (pur (eC (.bl false)))) (sNext))
  (sSeq (sFor (iR1 2 (eN (f1 gLen) (aCons (eVar 0) aNil))) (b_law_same_1))
  (sRet (pur (e2 gEq (eVar 0) (eVar 1)))))
abbrev s_law_logged : Stmt := top 21
abbrev N_law_logged : List Str := ["_law_house", "_law_log", "_law_deeds", "_law_k"]
abbrev P_law_logged : List Str := ["_law_house", "_law_log"]
def m_law_logged : VEnv → RS := sSeq (sSetZ 2 (pur (eN (f1 (gListL "House" "deeds")) (aCons (eVar 0) aNil))))
  (sSeq (sIf (tOrM (tOfE (e2 gNe (eN (f1 (gLenL "House" "deeds")) (aCons (eVar 0) aNil)) (eN (f1 gLen) (aCons (eVar 1) aNil)))) (tOfE (e2 gNe (eN (f1 gLen) (aCons (eVar 2) aNil)) (eN (f1 gLen) (aCons (eVar 1) aNil))))) (sRet (pur (eC (.bl false)))) (sNext))
  (sRet (pur (eN (f1 allB) (aCons (gLc [3] (jR1 (eN (f1 gLen) (aCons (eVar 1) aNil))) (asgN 3) (tYesM) (eN (callM 3 m_law_same) (aCons (e2 gIx (eVar 2) (eVar 3)) (aCons (e2 gIx (eVar 1) (eVar 3)) (aNil))))) aNil)))))
abbrev s_law_own : Stmt := top 26
abbrev N_law_own : List Str := ["_law_house", "_law_tubs", "_law_log", "_law_told"]
abbrev P_law_own : List Str := ["_law_house", "_law_tubs", "_law_log"]
def m_law_own : VEnv → RS := sSeq (sIf (tOrM (tNotM (tTru (e1 (gIsi "tuple") (e1 (gFld clss "vats") (eVar 0))))) (tOfE (e2 gNe (eN (f1 gList) (aCons (e1 (gFld clss "vats") (eVar 0)) aNil)) (eVar 1)))) (sRet (pur (eC (.bl false)))) (sNext))
  (sSeq (sIf (tOrM (tNotM (tTru (eN (callM 4 m_law_logged) (aCons (eVar 0) (aCons (eVar 2) (aNil)))))) (tNotM (tTru (eN (callM 7 m_law_dipped) (aCons (eVar 0) (aCons (eVar 2) (aNil))))))) (sRet (pur (eC (.bl false)))) (sNext))
  (sSeq (sSet 3 (pur (eN (callM 3 m_House_dipped) (aRecv "House" "dipped" (eVar 0) aNil))))
  (sSeq (sDrop (xApp (pName 3) (eC (.str "nothing"))))
  (sRet (pur (eN (callM 7 m_law_dipped) (aCons (eVar 0) (aCons (eVar 2) (aNil)))))))))
def h_House_dipped : VEnv → RS := sSeq (sSet 1 (pur (eN gLst (aNil)))) (sSeq (sForE (e1 (gFld clss "deeds") (eVar 0))) (sRet (mvM 1)))
def h_law_dipped : VEnv → RS := sSeq (sSetZ 2 (pur (gLcE (eVar 1))))
  (sSeq (sSetZ 3 (pur (eN (callM 3 h_House_dipped) (aRecv "House" "dipped" (eVar 0) aNil))))
  (sSeq (sIf (tNotM (tTru (e1 (gIsi "list") (eVar 3)))) (sRet (pur (eC (.bl false)))) (sNext))
  (sSeq (sSetZ 4 (pur (e1 gNeg (eC (.int 1)))))
  (sSeq (sForE (eVar 3))
  (sRet (pur (eN (f1 allB) (aCons (gLcE (eVar 2)) aNil))))))))
def h_law_logged : VEnv → RS := sSeq (sSetZ 2 (pur (eN (f1 (gListH "House" "deeds")) (aCons (eVar 0) aNil))))
  (sSeq (sIf (tOrM (tOfE (e2 gNe (eN (f1 (gLenL "House" "deeds")) (aCons (eVar 0) aNil)) (eN (f1 gLen) (aCons (eVar 1) aNil)))) (tOfE (e2 gNe (eN (f1 gLen) (aCons (eVar 2) aNil)) (eN (f1 gLen) (aCons (eVar 1) aNil))))) (sRet (pur (eC (.bl false)))) (sNext))
  (sRet (pur (eN (f1 allB) (aCons (gLcR (eN (f1 gLen) (aCons (eVar 1) aNil))) aNil)))))
def h_law_own : VEnv → RS := sSeq (sIf (tOrM (tNotM (tTru (e1 (gIsi "tuple") (e1 (gFld clss "vats") (eVar 0))))) (tOfE (e2 gNe (eN (f1 gList) (aCons (e1 (gFld clss "vats") (eVar 0)) aNil)) (eVar 1)))) (sRet (pur (eC (.bl false)))) (sNext))
  (sSeq (sIf (tOrM (tNotM (tTru (eN (callM 4 h_law_logged) (aCons (eVar 0) (aCons (eVar 2) (aNil)))))) (tNotM (tTru (eN (callM 7 h_law_dipped) (aCons (eVar 0) (aCons (eVar 2) (aNil))))))) (sRet (pur (eC (.bl false)))) (sNext))
  (sSeq (sSet 3 (pur (eN (callM 3 h_House_dipped) (aRecv "House" "dipped" (eVar 0) aNil))))
  (sSeq (sDrop (xApp (pName 3) (eC (.str "nothing"))))
  (sRet (pur (eN (callM 7 h_law_dipped) (aCons (eVar 0) (aCons (eVar 2) (aNil)))))))))
abbrev s_law_none : Stmt := top 30
abbrev N_law_none : List Str := ["_law_cloth", "_law_tub", "_law_house", "e"]
abbrev P_law_none : List Str := ["_law_cloth", "_law_tub"]
def m_law_none : VEnv → RS := sSeq (sSet 2 (pur (eN (makeM "House" 4 m_House___init__) (aCons (eN gLst (aNil)) (aNil)))))
  (sSeq (sTryR errs "UnknownName" 3 (sDrop (methW "House" "dip" 2 5 m_House_dip (List.replicate 3 none) (aDef ((.int 1)) (aCons (eVar 0) (aCons (eVar 1) (aNil)))))) (sRet (pur (bAnd (e2 gEq (e1 (gXf errs "name") (eVar 3)) (eVar 1)) (eN (callM 4 h_law_own) (aCons (eVar 2) (aCons (eN gLst (aNil)) (aCons (eN gLst (aNil)) (aNil)))))))))
  (sRet (pur (eC (.bl false)))))
abbrev s_law_opened : Stmt := top 27
abbrev N_law_opened : List Str := ["_law_tubs", "_law_house", "e"]
abbrev P_law_opened : List Str := ["_law_tubs"]
def m_law_opened : VEnv → RS := sSeq (sTryAs errs "BadName" 2 (sSet 1 (pur (eN (makeM "House" 4 m_House___init__) (aCons (eVar 0) (aNil))))) (sRet (pur (eN gTup (aCons (eC (.str "name")) (aCons (e1 (gXf errs "name") (eVar 2)) (aNil)))))))
  (sRet (xTup (xaCons (pur (eC (.str "house"))) (xaCons (mvM 1) (xaNil)))))
abbrev s_law_no_name : Stmt := top 19
abbrev N_law_no_name : List Str := ["_law_name", "_law_row_here", "_law_signs", "_law_at", "_law_way", "_law_sign"]
abbrev P_law_no_name : List Str := ["_law_name", "_law_row_here"]
def m_law_no_name : VEnv → RS := sSeq (sSetZ 2 (pur (eC (.str " !\"#$&'()*+,-./:;<=>?@ABCDEFGHIJKLMNOPQRSTUVWXYZ[\\]^_`{|}~"))))
  (sSeq (sSetZ 3 (pur (e2 gMod (eN (f1 gInt) (aCons (e2 gIx (eVar 1) (eC (.int 3))) aNil)) (e2 gPlus (eN (f1 gLen) (aCons (eVar 0) aNil)) (eC (.int 1))))))
  (sSeq (sSetZ 4 (pur (e2 gMod (eN (f1 gInt) (aCons (e2 gIx (eVar 1) (eC (.int 4))) aNil)) (eC (.int 4)))))
  (sSeq (sIf (tAndM (tOfE (e2 gEq (eVar 4) (eC (.int 0)))) (tOfE (e2 gEq (e2 gMod (eN (f1 gInt) (aCons (e2 gIx (eVar 1) (eC (.int 6))) aNil)) (eC (.int 2))) (eC (.int 0))))) (sRet (pur (eC (.str "")))) (sNext))
  (sSeq (sIf (tOfE (e2 gEq (eVar 4) (eC (.int 0)))) (sRet (pur (e2 gPlus (e2 gIx (eC (.str "0123456789")) (e2 gMod (eN (f1 gInt) (aCons (e2 gIx (eVar 1) (eC (.int 7))) aNil)) (eC (.int 10)))) (eSl (eVar 0) (oYes (eC (.int 1))) (oNo))))) (sNext))
  (sSeq (sIf (tOfE (e2 gEq (eVar 4) (eC (.int 1)))) (sRet (pur (e2 gPlus (eVar 0) (e2 gTimes (eC (.str "z")) (e2 gSub (eC (.int 13)) (eN (f1 gLen) (aCons (eVar 0) aNil))))))) (sNext))
  (sSeq (sSetZ 5 (pur (e2 gIx (eVar 2) (e2 gMod (eN (f1 gInt) (aCons (e2 gPlus (e2 gTimes (eC (.int 12)) (e2 gIx (eVar 1) (eC (.int 6)))) (e2 gIx (eVar 1) (eC (.int 7)))) aNil)) (eN (f1 gLen) (aCons (eVar 2) aNil))))))
  (sRet (pur (e2 gPlus (e2 gPlus (eSl (eVar 0) (oNo) (oYes (eVar 3))) (eVar 5)) (eSl (eVar 0) (oYes (eVar 3)) (oNo)))))))))))
abbrev s_law_is_name : Stmt := top 16
abbrev N_law_is_name : List Str := ["_law_name", "_law_letters", "_law_k"]
abbrev P_law_is_name : List Str := ["_law_name"]
def b_law_is_name_1 : VEnv → RS := sIf (tAndM (tOfE (e2 gNIn (e2 gIx (eVar 0) (eVar 2)) (eVar 1))) (tOrM (tOfE (e2 gEq (eVar 2) (eC (.int 0)))) (tOfE (e2 gNIn (e2 gIx (eVar 0) (eVar 2)) (eC (.str "0123456789")))))) (sRet (pur (eC (.bl false)))) (sNext)
def m_law_is_name : VEnv → RS := sSeq (sSetZ 1 (pur (eC (.str "abcdefghijklmnopqrstuvwxyz"))))
  (sSeq (sFor (iR1 2 (eN (f1 gLen) (aCons (eVar 0) aNil))) (b_law_is_name_1))
  (sRet (pur (eCh gLe gLe (eC (.int 1)) (eN (f1 gLen) (aCons (eVar 0) aNil)) (eC (.int 12))))))
abbrev s_law_classes : Stmt := top 28
abbrev N_law_classes : List Str := ["_law_tubs", "e"]
abbrev P_law_classes : List Str := ["_law_tubs"]
def m_law_classes : VEnv → RS := sSeq (sTryAs errs "DyeError" 1 (sDrop (pur (eN (makeM "House" 4 m_House___init__) (aCons (eVar 0) (aNil))))) (sRet (pur (eN gLst (aCons (e1 (gIsE errs "BadName") (eVar 1)) (aCons (e1 (gIsE errs "UnknownName") (eVar 1)) (aCons (e1 (gIsV errs) (eVar 1)) (aNil))))))))
  (sRet (pur (eN gLst (aNil))))
abbrev s_law_listed : Stmt := top 29
abbrev N_law_listed : List Str := ["_law_names_here", "_law_row_here", "_law_odd", "_law_tubs", "_law_k", "_law_wrong", "_law_at", "_law_right", "_law_bad", "_law_tub", "_law_given", "_law_told"]
abbrev P_law_listed : List Str := ["_law_names_here", "_law_row_here", "_law_odd"]
def b_law_listed_1 : VEnv → RS := sSeq (sSetZ 5 (pur (eN (callM 6 m_law_no_name) (aCons (e2 gIx (eVar 0) (e2 gMod (eN (f1 gInt) (aCons (e2 gIx (eVar 1) (e2 gPlus (eC (.int 2)) (e2 gTimes (eC (.int 3)) (eVar 4)))) aNil)) (eC (.int 6)))) (aCons (e2 gPlus (eSl (eVar 2) (oYes (eVar 4)) (oNo)) (eSl (eVar 2) (oNo) (oYes (eVar 4)))) (aNil))))))
  (sSeq (sIf (tAndM (tOfE (e2 gEq (e2 gMod (eN (f1 gInt) (aCons (e2 gIx (eVar 1) (e2 gPlus (eC (.int 3)) (e2 gTimes (eC (.int 3)) (eVar 4)))) aNil)) (eC (.int 2))) (eC (.int 0)))) (tOfE (e2 gGt (eN (f1 gLen) (aCons (eVar 3) aNil)) (eC (.int 0))))) (sSetZ 5 (pur (e2 gIx (eVar 3) (e2 gMod (eN (f1 gInt) (aCons (e2 gIx (eVar 1) (e2 gPlus (eC (.int 2)) (e2 gTimes (eC (.int 3)) (eVar 4)))) aNil)) (eN (f1 gLen) (aCons (eVar 3) aNil)))))) (sNext))
  (sSeq (sSetZ 6 (pur (e2 gMod (eN (f1 gInt) (aCons (e2 gIx (eVar 1) (e2 gPlus (eC (.int 4)) (e2 gTimes (eC (.int 3)) (eVar 4)))) aNil)) (e2 gPlus (eN (f1 gLen) (aCons (eVar 3) aNil)) (eC (.int 1))))))
  (sSetZ 3 (pur (e2 gPlus (e2 gPlus (eSl (eVar 3) (oNo) (oYes (eVar 6))) (eN gLst (aCons (eVar 5) (aNil)))) (eSl (eVar 3) (oYes (eVar 6)) (oNo)))))))
def b_law_listed_2 : VEnv → RS := sIf (tAndM (tTru (eN (callM 3 m_law_is_name) (aCons (eVar 9) (aNil)))) (tOfE (e2 gNIn (eVar 9) (eVar 7)))) (sDrop (xApp (pName 7) (eVar 9))) (sDrop (xApp (pName 8) (eVar 9)))
def m_law_listed : VEnv → RS := sSeq (sSetZ 3 (pur (eSl (eVar 0) (oYes (e2 gPlus (eC (.int 2)) (e2 gMod (eN (f1 gInt) (aCons (e2 gIx (eVar 1) (eC (.int 0))) aNil)) (eC (.int 5))))) (oNo))))
  (sSeq (sFor (iR1 4 (e2 gMod (eN (f1 gInt) (aCons (e2 gIx (eVar 1) (eC (.int 1))) aNil)) (eC (.int 3)))) (b_law_listed_1))
  (sSeq (sSet 7 (pur (eN gLst (aNil))))
  (sSeq (sSet 8 (pur (eN gLst (aNil))))
  (sSeq (sFor (iSeqM (setA 9) (eVar 3)) (b_law_listed_2))
  (sSeq (sSetZ 10 (pur (eN (f1 gList) (aCons (eVar 3) aNil))))
  (sSeq (sIf (tOfE (e2 gGt (eN (f1 gLen) (aCons (eVar 8) aNil)) (eC (.int 0)))) (sSeq (sIf (tOrM (tOfE (e2 gNe (eN (callM 3 m_law_opened) (aCons (eVar 10) (aNil))) (eN gTup (aCons (eC (.str "name")) (aCons (e2 gIx (eVar 8) (eC (.int 0))) (aNil)))))) (tOfE (e2 gNe (eN (callM 2 m_law_classes) (aCons (eVar 10) (aNil))) (eN gLst (aCons (eC (.bl true)) (aCons (eC (.bl false)) (aCons (eC (.bl true)) (aNil)))))))) (sRet (pur (eC (.bl false)))) (sNext))
  (sSeq (sIf (tOfE (e2 gNe (eVar 10) (eVar 3))) (sRet (pur (eC (.bl false)))) (sNext))
  (sSetZ 10 (pur (eN (f1 gList) (aCons (eVar 7) aNil)))))) (sNext))
  (sSeq (sSetZ 11 (pur (eN (callM 3 m_law_opened) (aCons (eVar 10) (aNil)))))
  (sRet (pur (bAnd (e2 gEq (e2 gIx (eVar 11) (eC (.int 0))) (eC (.str "house"))) (bAnd (e2 gEq (eVar 10) (eVar 7)) (eN (callM 4 m_law_own) (aCons (e2 gIx (eVar 11) (eC (.int 1))) (aCons (eVar 7) (aCons (eN gLst (aNil)) (aNil))))))))))))))))
abbrev s_law : Stmt := top 31
abbrev N_law : List Str := ["_law_script", "_law_names_here", "_law_first", "_law_tubs", "_law_given", "_law_houses", "_law_logs", "_law_row_here", "_law_side", "_law_deed_here", "_law_told", "_law_copied", "_law_k", "_law_odd", "_law_seven"]
abbrev P_law : List Str := ["_law_script"]
def b_law_1 : VEnv → RS := sIf (tNotM (tTru (eN (callM 4 m_law_own) (aCons (e2 gIx (eVar 5) (eVar 12)) (aCons (e2 gIx (eVar 3) (eVar 12)) (aCons (e2 gIx (eVar 6) (eVar 12)) (aNil))))))) (sRet (pur (eC (.bl false)))) (sNext)
def b_law_2 : VEnv → RS := sSeq (sSetZ 8 (pur (e2 gMod (eN (f1 gInt) (aCons (e2 gIx (eVar 7) (eC (.int 5))) aNil)) (eC (.int 2)))))
  (sSeq (sSetZ 9 (pur (eN (callM 6 m_law_deed) (aCons (eVar 7) (aCons (eVar 1) (aCons (e2 gIx (eVar 3) (eVar 8)) (aCons (e2 gIx (eVar 6) (eVar 8)) (aNil))))))))
  (sSeq (sSetZ 10 (pur (eN (callM 3 m_House_dipped) (aRecv "House" "dipped" (e2 gIx (eVar 5) (eVar 8)) aNil))))
  (sSeq (sSetZ 11 (pur (eN (f1 gList) (aCons (eVar 10) aNil))))
  (sSeq (sDrop (callPS 2 m_law_single (pIx (pName 5) (eVar 8)) [none] (aCons (eVar 9) (aNil))))
  (sSeq (sDrop (xApp (pIx (pName 6) (eVar 8)) (eVar 9)))
  (sSeq (sIf (tOfE (e2 gNe (eVar 10) (eVar 11))) (sRet (pur (eC (.bl false)))) (sNext))
  (sFor (iR1 12 (eC (.int 2))) (b_law_1))))))))
def b_law_3 : VEnv → RS := sIf (tNotM (tTru (eN (callM 12 m_law_listed) (aCons (eVar 1) (aCons (e2 gPlus (eSl (eVar 7) (oYes (e2 gTimes (eC (.int 2)) (eVar 12))) (oNo)) (eSl (eVar 7) (oNo) (oYes (e2 gTimes (eC (.int 2)) (eVar 12))))) (aCons (e2 gPlus (eSl (eVar 13) (oYes (eVar 12)) (oNo)) (eSl (eVar 13) (oNo) (oYes (eVar 12)))) (aNil))))))) (sRet (pur (eC (.bl false)))) (sNext)
def m_law : VEnv → RS := sSeq (sSetZ 1 (pur (eN (callM 16 m_law_names) (aCons (eN (callM 2 m_law_cell) (aCons (eVar 0) (aCons (eC (.int 0)) (aNil)))) (aCons (eC (.int 6)) (aNil))))))
  (sSeq (sSetZ 2 (pur (eN (callM 7 m_law_row) (aCons (eN (callM 2 m_law_cell) (aCons (eVar 0) (aCons (eC (.int 1)) (aNil)))) (aCons (eC (.int 2)) (aCons (eC (.int 12)) (aNil)))))))
  (sSeq (sSetZ 3 (pur (eN gLst (aCons (eSl (eVar 1) (oNo) (oYes (e2 gPlus (eC (.int 1)) (e2 gMod (eN (f1 gInt) (aCons (e2 gIx (eVar 2) (eC (.int 0))) aNil)) (eC (.int 4)))))) (aCons (eSl (eVar 1) (oYes (e2 gSub (eC (.int 5)) (e2 gMod (eN (f1 gInt) (aCons (e2 gIx (eVar 2) (eC (.int 1))) aNil)) (eC (.int 4))))) (oNo)) (aNil))))))
  (sSeq (sSet 4 (pur (eN gLst (aCons (eN (f1 gList) (aCons (e2 gIx (eVar 3) (eC (.int 0))) aNil)) (aCons (eN (f1 gList) (aCons (e2 gIx (eVar 3) (eC (.int 1))) aNil)) (aNil))))))
  (sSeq (sSet 5 (pur (eN gLst (aCons (eN (makeM "House" 4 m_House___init__) (aCons (e2 gIx (eVar 4) (eC (.int 0))) (aNil))) (aCons (eN (makeM "House" 4 m_House___init__) (aCons (e2 gIx (eVar 4) (eC (.int 1))) (aNil))) (aNil))))))
  (sSeq (sDrop (xApp (pIx (pName 4) (eC (.int 0))) (eC (.str "nothing"))))
  (sSeq (sSetIx (eC (.str "nothing")) (pIx (pName 4) (eC (.int 1))) (eC (.int 0)))
  (sSeq (sSet 6 (pur (eN gLst (aCons (eN gLst (aNil)) (aCons (eN gLst (aNil)) (aNil))))))
  (sSeq (sFor (iSeqM (setA 7) (eN (callM 8 m_law_rows) (aCons (eVar 0) (aCons (eC (.int 4)) (aCons (eC (.int 8)) (aCons (eC (.int 7)) (aNil))))))) (b_law_2))
  (sSeq (sIf (tOrM (tNotM (tTru (eN (callM 4 m_law_own) (aCons (e2 gIx (eVar 5) (eC (.int 0))) (aCons (e2 gIx (eVar 3) (eC (.int 0))) (aCons (e2 gIx (eVar 6) (eC (.int 0))) (aNil))))))) (tNotM (tTru (eN (callM 4 m_law_own) (aCons (e2 gIx (eVar 5) (eC (.int 1))) (aCons (e2 gIx (eVar 3) (eC (.int 1))) (aCons (e2 gIx (eVar 6) (eC (.int 1))) (aNil)))))))) (sRet (pur (eC (.bl false)))) (sNext))
  (sSeq (sSetZ 7 (pur (eN (callM 7 m_law_row) (aCons (eN (callM 2 m_law_cell) (aCons (eVar 0) (aCons (eC (.int 2)) (aNil)))) (aCons (eC (.int 8)) (aCons (eC (.int 12)) (aNil)))))))
  (sSeq (sSetZ 13 (pur (eN (callM 7 m_law_row) (aCons (eN (callM 2 m_law_cell) (aCons (eVar 0) (aCons (eC (.int 3)) (aNil)))) (aCons (eC (.int 8)) (aCons (eC (.int 12)) (aNil)))))))
  (sSeq (sFor (iR1 12 (eC (.int 4))) (b_law_3))
  (sSeq (sSetZ 14 (pur (eN gLst (aCons (eC (.str "a")) (aCons (eC (.str "b")) (aCons (eC (.str "c")) (aCons (eC (.str "d")) (aCons (eC (.str "e")) (aCons (eC (.str "f")) (aCons (eC (.str "g")) (aNil)))))))))))
  (sRet (pur (bAnd (eN (callM 4 m_law_own) (aCons (eN (makeM "House" 4 m_House___init__) (aCons (eN (f1 gList) (aCons (eVar 14) aNil)) (aNil))) (aCons (eVar 14) (aCons (eN gLst (aNil)) (aNil))))) (eN (callM 4 m_law_none) (aCons (e2 gIx (eVar 1) (eC (.int 0))) (aCons (e2 gIx (eVar 1) (eC (.int 1))) (aNil))))))))))))))))))))
structure Txt (P : Program) (w : World) (K : PySem.W.Frag) (mg : Str → Option Value) (base : Heap) : Prop where
  b : BltOk mg
  E : ErrF K mg errs
  nbd : mg (Str.ofString "BadDeed") = none
  nbl : mg (Str.ofString "BadLine") = none
  C : ClsO K mg clss
  gDIGITS : ∃ t, mg "DIGITS" = some (.str "0123456789" t)
  gLETTERS : ∃ t, mg "LETTERS" = some (.str "abcdefghijklmnopqrstuvwxyz" t)
  eBadName : Er1 P w K mg base "BadName" "name"
  eBadNumber : Er1 P w K mg base "BadNumber" "number"
  eUnknownName : Er1 P w K mg base "UnknownName" "name"
  t_law_row : FnT K mg "_law_row" s_law_row P_law_row
  t_law_names : FnT K mg "_law_names" s_law_names P_law_names
  t_law_cell : FnT K mg "_law_cell" s_law_cell P_law_cell
  t_law_rows : FnT K mg "_law_rows" s_law_rows P_law_rows
  t_valid_name : FnT K mg "valid_name" s_valid_name P_valid_name
  t_House___init__ : FnI K mg "House" "House.__init__" s_House___init__ P_House___init__
  t_law_units : FnT K mg "_law_units" s_law_units P_law_units
  t_law_level : FnT K mg "_law_level" s_law_level P_law_level
  t_law_deed : FnT K mg "_law_deed" s_law_deed P_law_deed
  t_House_dipped : FnM K mg "House" "dipped" "House.dipped" s_House_dipped P_House_dipped
  t_House_ahead : FnM K mg "House" "ahead" "House.ahead" s_House_ahead P_House_ahead
  t_House_fill : FnM K mg "House" "fill" "House.fill" s_House_fill P_House_fill
  t_House_dip : FnMK K mg "House" "dip" "House.dip" s_House_dip P_House_dip "lasting" (.int 1) 2
  t_law_single : FnT K mg "_law_single" s_law_single P_law_single
  t_law_dipped : FnT K mg "_law_dipped" s_law_dipped P_law_dipped
  t_House___iter__ : FnItL K mg "House" "deeds" "House.__iter__" s_House___iter__ "House.__len__" s_House___len__
  t_law_is_int : FnT K mg "_law_is_int" s_law_is_int P_law_is_int
  t_law_same : FnT K mg "_law_same" s_law_same P_law_same
  t_law_logged : FnT K mg "_law_logged" s_law_logged P_law_logged
  t_law_own : FnT K mg "_law_own" s_law_own P_law_own
  t_law_none : FnT K mg "_law_none" s_law_none P_law_none
  t_law_opened : FnT K mg "_law_opened" s_law_opened P_law_opened
  t_law_no_name : FnT K mg "_law_no_name" s_law_no_name P_law_no_name
  t_law_is_name : FnT K mg "_law_is_name" s_law_is_name P_law_is_name
  t_law_classes : FnT K mg "_law_classes" s_law_classes P_law_classes
  t_law_listed : FnT K mg "_law_listed" s_law_listed P_law_listed
  t_law : FnT K mg "law" s_law P_law
section
variable {P : Program} {w : World} {K : PySem.W.Frag} {mg : Str → Option Value} {base : Heap}
theorem sc_law_row : FnScope N_law_row P_law_row (defScope s_law_row) := ⟨rfl, rfl, rfl, by decide +kernel, rfl, by decide +kernel, by decide +kernel⟩
theorem v_law_row (T : Txt P w K mg base)    (f : Addr) (cdv : Value) (A : Around) (outer : List Env) (s : Shared) (H : Hp) (E : XK) (hr : Room 1 (A.deeper (envOfC "_law_row" (defScope s_law_row) s.heap.objs.size f cdv))) :
    VB (cxOf (CXv mg P w) P w K mg base N_law_row "_law_row" (defScope s_law_row) f cdv A outer s H E) [] (defBody s_law_row) m_law_row :=
  have hN := sc_law_row.nd
  have hu : Hu (cxOf (CXv mg P w) P w K mg base N_law_row "_law_row" (defScope s_law_row) f cdv A outer s H E) := hu_of hr
  (vb_cons (vs_setZ (i := 3) (vx (ve_abs (T.b.at "abs") (ve_int1 (T.b.at "int") (ve_var 0)))) hN)
    (vb_cons (vs_setZ (i := 4) (vx (ve_mod (ve_int1 (T.b.at "int") (ve_plus (ve_times (ve_var 3) ve_int) ve_int)) ve_int)) hN)
    (vb_cons (vs_if (vt_lt (ve_var 3) (ve_pow ve_int ve_int)) (vb_one (vs_setZ (i := 3) (vx ve_int) hN)) vb_nil)
    (vb_cons (vs_set (i := 5) (vx (ve_lst va_nil)) hN)
    (vb_cons (vs_for (passes_of rfl) rfl (vi_range1 6 (T.b.at "range") (ve_var 1)) (pg_name (i := 6) hN rfl (by first | exact Or.inl rfl | exact Or.inr rfl)) (vb_cons (vs_setZ (i := 4) (vx (ve_mod (ve_int1 (T.b.at "int") (ve_plus (ve_times (ve_var 4) ve_int) ve_int)) ve_int)) hN)
    (vb_one (vs_if (vt_gt (ve_var 3) ve_int) (vb_cons (vs_expr (vx_append (vp_name 5) (ve_mod (ve_int1 (T.b.at "int") (ve_var 3)) (ve_var 2))))
    (vb_one (vs_setZ (i := 3) (vx (ve_div (ve_var 3) (ve_var 2))) hN))) (vb_one (vs_expr (vx_append (vp_name 5) (ve_mod (ve_mod (ve_int1 (T.b.at "int") (ve_plus (ve_times (ve_var 4) (ve_var 4)) (ve_var 6))) ve_int) (ve_var 2)))))))))
    (vb_one (vs_ret (vx_move 5))))))))
theorem k_law_row (T : Txt P w K mg base) : OkF P w K mg base "_law_row" N_law_row P_law_row m_law_row 2 :=
  T.t_law_row.ok sc_law_row (fun f cdv A outer s H E hr => v_law_row T  f cdv A outer s H E hr)
theorem sc_law_names : FnScope N_law_names P_law_names (defScope s_law_names) := ⟨rfl, rfl, rfl, by decide +kernel, rfl, by decide +kernel, by decide +kernel⟩
theorem v_law_names (T : Txt P w K mg base) (f_law_row : OkF P w K mg base "_law_row" N_law_row P_law_row m_law_row 2)   (f : Addr) (cdv : Value) (A : Around) (outer : List Env) (s : Shared) (H : Hp) (E : XK) (hr : Room 2 (A.deeper (envOfC "_law_names" (defScope s_law_names) s.heap.objs.size f cdv))) :
    VB (cxOf (CXv mg P w) P w K mg base N_law_names "_law_names" (defScope s_law_names) f cdv A outer s H E) [] (defBody s_law_names) m_law_names :=
  have hN := sc_law_names.nd
  have hu : Hu (cxOf (CXv mg P w) P w K mg base N_law_names "_law_names" (defScope s_law_names) f cdv A outer s H E) := hu_of hr
  have hu5 := hu5_of hr
  (vb_cons (vs_setZ (i := 2) (vx ve_str) hN)
    (vb_cons (vs_setZ (i := 3) (vx (ve_plus (ve_var 2) ve_str)) hN)
    (vb_cons (vs_setZ (i := 4) (vx (ve_lst (va_cons ve_str (va_cons ve_str (va_cons ve_str (va_cons ve_str (va_cons ve_str (va_cons ve_str (va_cons ve_str (va_cons ve_str va_nil)))))))))) hN)
    (vb_cons (vs_setZ (i := 4) (vx (ve_plus (ve_var 4) (ve_lst (va_cons ve_str (va_cons ve_str (va_cons ve_str (va_cons ve_str va_nil))))))) hN)
    (vb_cons (vs_setZ (i := 5) (vx (ve_callO f_law_row (hr.mono (by decide)) (va_cons (ve_var 0) (va_cons ve_int (va_cons ve_int va_nil))) (alen_cons (alen_cons (alen_cons alen_nil))))) hN)
    (vb_cons (vs_setZ (i := 6) (vx (ve_mod (ve_int1 (T.b.at "int") (ve_ix (ve_var 5) ve_int)) ve_int)) hN)
    (vb_cons (vs_setZ (i := 7) (vx (ve_mod (ve_int1 (T.b.at "int") (ve_ix (ve_var 5) ve_int)) (ve_plus (ve_var 6) ve_int))) hN)
    (vb_cons (vs_setZ (i := 8) (vx (ve_join ve_str (ve_lc (own := [("_law_k", 12)]) rfl hN (blkOk_by (by exact rfl)) (vj_range1 (T.b.at "range") (ve_var 6)) (fun s H C cl fp => vg_name 12 hN) (fun s H C cl fp => vts_nil) (fun s H C cl fp => (ve_ix (ve_var 3) (ve_ix (ve_var 5) (ve_plus ve_int (ve_var 12)))))))) hN)
    (vb_cons (vs_setZ (i := 9) (vx (ve_ix (ve_var 2) (ve_mod (ve_int1 (T.b.at "int") (ve_ix (ve_var 5) ve_int)) ve_int))) hN)
    (vb_cons (vs_setZ (i := 10) (vx (ve_mod (ve_int1 (T.b.at "int") (ve_ix (ve_var 5) ve_int)) ve_int)) hN)
    (vb_cons (vs_set (i := 11) (vx (ve_lst va_nil)) hN)
    (vb_cons (vs_for (passes_of rfl) rfl (vi_range1 12 (T.b.at "range") (ve_var 1)) (pg_name (i := 12) hN rfl (by first | exact Or.inl rfl | exact Or.inr rfl)) (vb_cons (vs_setZ (i := 13) (vx (ve_ix (ve_var 2) (ve_mod (ve_int1 (T.b.at "int") (ve_plus (ve_ix (ve_var 5) ve_int) (ve_times ve_int (ve_var 12)))) ve_int))) hN)
    (vb_cons (vs_setZ (i := 14) (vx (ve_plus (ve_plus (ve_slice (ve_var 8) vo_none (vo_some (ve_var 7))) (ve_var 13)) (ve_slice (ve_var 8) (vo_some (ve_var 7)) vo_none))) hN)
    (vb_cons (vs_if (vt_gt (ve_var 7) ve_int) (vb_one (vs_setZ (i := 14) (vx (ve_plus (ve_var 9) (ve_slice (ve_var 14) (vo_some ve_int) vo_none))) hN)) vb_nil)
    (vb_cons (vs_if (vt_eq hu (ve_var 10) ve_int) (vb_one (vs_setZ (i := 14) (vx (ve_plus (ve_var 14) (ve_times ve_str (ve_mod (ve_var 12) ve_int)))) hN)) vb_nil)
    (vb_cons (vs_if (vt_eq hu (ve_var 10) ve_int) (vb_one (vs_setZ (i := 14) (vx (ve_plus (ve_plus (ve_var 9) (ve_slice (ve_var 8) vo_none (vo_some ve_int))) (ve_times (ve_ix (ve_var 3) (ve_ix (ve_var 5) ve_int)) (ve_sub ve_int (ve_var 12))))) hN)) vb_nil)
    (vb_one (vs_expr (vx_append (vp_name 11) (ve_var 14))))))))))
    (vb_cons (vs_setZ (i := 15) (vx (ve_ix (ve_var 4) (ve_mod (ve_int1 (T.b.at "int") (ve_ix (ve_var 5) ve_int)) ve_int))) hN)
    (vb_cons (vs_if (VW.vt (vw_and (vt_eq hu (ve_var 10) ve_int) (vw_and1 (vt_nin hu5 (ve_var 15) (ve_var 11))))) (vb_one (vs_setIx (ve_var 15) (vp_name 11) (ve_mod (ve_int1 (T.b.at "int") (ve_ix (ve_var 5) ve_int)) (ve_var 1)))) vb_nil)
    (vb_one (vs_ret (vx_move 11)))))))))))))))))
theorem k_law_names (T : Txt P w K mg base) : OkF P w K mg base "_law_names" N_law_names P_law_names m_law_names 3 :=
  T.t_law_names.ok sc_law_names (fun f cdv A outer s H E hr => v_law_names T (k_law_row T) f cdv A outer s H E hr)
theorem sc_law_cell : FnScope N_law_cell P_law_cell (defScope s_law_cell) := ⟨rfl, rfl, rfl, by decide +kernel, rfl, by decide +kernel, by decide +kernel⟩
theorem v_law_cell (T : Txt P w K mg base)    (f : Addr) (cdv : Value) (A : Around) (outer : List Env) (s : Shared) (H : Hp) (E : XK) (hr : Room 1 (A.deeper (envOfC "_law_cell" (defScope s_law_cell) s.heap.objs.size f cdv))) :
    VB (cxOf (CXv mg P w) P w K mg base N_law_cell "_law_cell" (defScope s_law_cell) f cdv A outer s H E) [] (defBody s_law_cell) m_law_cell :=
  have hN := sc_law_cell.nd
  have hu : Hu (cxOf (CXv mg P w) P w K mg base N_law_cell "_law_cell" (defScope s_law_cell) f cdv A outer s H E) := hu_of hr
  (vb_cons (vs_if (vt_lt (ve_var 1) (ve_len (T.b.at "len") (ve_var 0))) (vb_one (vs_ret (vx (ve_int1 (T.b.at "int") (ve_ix (ve_var 0) (ve_var 1)))))) vb_nil)
    (vb_one (vs_ret (vx ve_int))))
theorem k_law_cell (T : Txt P w K mg base) : OkF P w K mg base "_law_cell" N_law_cell P_law_cell m_law_cell 2 :=
  T.t_law_cell.ok sc_law_cell (fun f cdv A outer s H E hr => v_law_cell T  f cdv A outer s H E hr)
theorem sc_law_rows : FnScope N_law_rows P_law_rows (defScope s_law_rows) := ⟨rfl, rfl, rfl, by decide +kernel, rfl, by decide +kernel, by decide +kernel⟩
theorem v_law_rows (T : Txt P w K mg base) (f_law_row : OkF P w K mg base "_law_row" N_law_row P_law_row m_law_row 2) (f_law_cell : OkF P w K mg base "_law_cell" N_law_cell P_law_cell m_law_cell 2)   (f : Addr) (cdv : Value) (A : Around) (outer : List Env) (s : Shared) (H : Hp) (E : XK) (hr : Room 2 (A.deeper (envOfC "_law_rows" (defScope s_law_rows) s.heap.objs.size f cdv))) :
    VB (cxOf (CXv mg P w) P w K mg base N_law_rows "_law_rows" (defScope s_law_rows) f cdv A outer s H E) [] (defBody s_law_rows) m_law_rows :=
  have hN := sc_law_rows.nd
  have hu : Hu (cxOf (CXv mg P w) P w K mg base N_law_rows "_law_rows" (defScope s_law_rows) f cdv A outer s H E) := hu_of hr
  (vb_cons (vs_setZ (i := 4) (vx (ve_callO f_law_row (hr.mono (by decide)) (va_cons (ve_callO f_law_cell (hr.mono (by decide)) (va_cons (ve_var 0) (va_cons (ve_var 1) va_nil)) (alen_cons (alen_cons alen_nil))) (va_cons (ve_plus ve_int (ve_times (ve_var 2) (ve_var 3))) (va_cons ve_int va_nil))) (alen_cons (alen_cons (alen_cons alen_nil))))) hN)
    (vb_cons (vs_set (i := 5) (vx (ve_lst va_nil)) hN)
    (vb_cons (vs_for (passes_of rfl) rfl (vi_range1 6 (T.b.at "range") (ve_mod (ve_int1 (T.b.at "int") (ve_plus (ve_ix (ve_var 4) ve_int) ve_int)) (ve_plus (ve_var 3) ve_int))) (pg_name (i := 6) hN rfl (by first | exact Or.inl rfl | exact Or.inr rfl)) (vb_one (vs_expr (vx_append (vp_name 5) (ve_slice (ve_var 4) (vo_some (ve_plus ve_int (ve_times (ve_var 2) (ve_var 6)))) (vo_some (ve_plus (ve_plus ve_int (ve_times (ve_var 2) (ve_var 6))) (ve_var 2))))))))
    (vb_cons (vs_for (passes_of rfl) rfl (vi_list 7 (ve_slice (ve_var 0) (vo_some (ve_plus (ve_var 1) ve_int)) (vo_some (ve_plus (ve_var 1) ve_int)))) (pg_name (i := 7) hN rfl (by first | exact Or.inl rfl | exact Or.inr rfl)) (vb_one (vs_expr (vx_append (vp_name 5) (ve_callO f_law_row (hr.mono (by decide)) (va_cons (ve_var 7) (va_cons (ve_var 2) (va_cons ve_int va_nil))) (alen_cons (alen_cons (alen_cons alen_nil))))))))
    (vb_one (vs_ret (vx_move 5)))))))
theorem k_law_rows (T : Txt P w K mg base) : OkF P w K mg base "_law_rows" N_law_rows P_law_rows m_law_rows 3 :=
  T.t_law_rows.ok sc_law_rows (fun f cdv A outer s H E hr => v_law_rows T (k_law_row T) (k_law_cell T) f cdv A outer s H E hr)
theorem sc_valid_name : FnScope N_valid_name P_valid_name (defScope s_valid_name) := ⟨rfl, rfl, rfl, by decide +kernel, rfl, by decide +kernel, by decide +kernel⟩
theorem v_valid_name (T : Txt P w K mg base)    (f : Addr) (cdv : Value) (A : Around) (outer : List Env) (s : Shared) (H : Hp) (E : XK) (hr : Room 1 (A.deeper (envOfC "valid_name" (defScope s_valid_name) s.heap.objs.size f cdv))) :
    VB (cxOf (CXv mg P w) P w K mg base N_valid_name "valid_name" (defScope s_valid_name) f cdv A outer s H E) [] (defBody s_valid_name) m_valid_name :=
  have hN := sc_valid_name.nd
  have hu : Hu (cxOf (CXv mg P w) P w K mg base N_valid_name "valid_name" (defScope s_valid_name) f cdv A outer s H E) := hu_of hr
  have hu5 := hu5_of hr
  (vb_cons (vs_if (VW.vt (vw_or (vt_not (vt_leLe ve_int (ve_len (T.b.at "len") (ve_var 0)) ve_int)) (vw_or1 (vt_nin hu5 (ve_ix (ve_var 0) ve_int) (ve_gstr T.gLETTERS))))) (vb_one (vs_ret (vx ve_bl))) vb_nil)
    (vb_one (vs_ret (vx (ve_all rfl (T.b.at "all") (ve_lc (own := [("char", 1)]) rfl hN (blkOk_by (by exact rfl)) (vj_str (ve_var 0)) (fun s H C cl fp => vg_name 1 hN) (fun s H C cl fp => vts_nil) (fun s H C cl fp => (ve_in hu5 (ve_var 1) (ve_plus (ve_gstr T.gLETTERS) (ve_gstr T.gDIGITS))))))))))
theorem k_valid_name (T : Txt P w K mg base) : OkF P w K mg base "valid_name" N_valid_name P_valid_name m_valid_name 2 :=
  T.t_valid_name.ok sc_valid_name (fun f cdv A outer s H E hr => v_valid_name T  f cdv A outer s H E hr)
theorem sc_House___init__ : FnScope N_House___init__ P_House___init__ (defScope s_House___init__) := ⟨rfl, rfl, rfl, by decide +kernel, rfl, by decide +kernel, by decide +kernel⟩
theorem v_House___init__ (T : Txt P w K mg base) (f_valid_name : OkF P w K mg base "valid_name" N_valid_name P_valid_name m_valid_name 2)   (f : Addr) (cdv : Value) (A : Around) (outer : List Env) (s : Shared) (H : Hp) (E : XK) (hr : Room 2 (A.deeper (envOfC "House.__init__" (defScope s_House___init__) s.heap.objs.size f cdv))) :
    VB (cxOf (CXv mg P w) P w K mg base N_House___init__ "House.__init__" (defScope s_House___init__) f cdv A outer s H E) [0] (defBody s_House___init__) m_House___init__ :=
  have hN := sc_House___init__.nd
  have hu : Hu (cxOf (CXv mg P w) P w K mg base N_House___init__ "House.__init__" (defScope s_House___init__) f cdv A outer s H E) := hu_of hr
  have hu5 := hu5_of hr
  (vb_cons (vs_set (i := 2) (vx (ve_lst va_nil)) hN)
    (vb_cons (vs_for (passes_of rfl) rfl (vi_list 3 (ve_var 1)) (pg_name (i := 3) hN rfl (by first | exact Or.inl rfl | exact Or.inr rfl)) (vb_cons (vs_if (VW.vt (vw_or (vt_not (vt_tru (ve_callO f_valid_name (hr.mono (by decide)) (va_cons (ve_var 3) va_nil) (alen_cons alen_nil)))) (vw_or1 (vt_in hu5 (ve_var 3) (ve_var 2))))) (vb_one (vs_raise1 rfl T.eBadName (hr.mono (by decide)) (ve_var 3))) vb_nil)
    (vb_one (vs_expr (vx_append (vp_name 2) (ve_var 3))))))
    (vb_cons (vs_setFld "vats" T.C (ve_tuple (T.b.at "tuple") (ve_var 2)) (vp_name 0))
    (vb_one (vs_setFld "deeds" T.C (ve_lst va_nil) (vp_name 0))))))
theorem k_House___init__ (T : Txt P w K mg base) : OkI P w K mg base "House" N_House___init__ P_House___init__ m_House___init__ 3 :=
  T.t_House___init__.ok sc_House___init__ (fun f cdv A outer s H E hr => v_House___init__ T (k_valid_name T) f cdv A outer s H E hr)
theorem sc_law_units : FnScope N_law_units P_law_units (defScope s_law_units) := ⟨rfl, rfl, rfl, by decide +kernel, rfl, by decide +kernel, by decide +kernel⟩
theorem v_law_units (T : Txt P w K mg base)    (f : Addr) (cdv : Value) (A : Around) (outer : List Env) (s : Shared) (H : Hp) (E : XK) (hr : Room 1 (A.deeper (envOfC "_law_units" (defScope s_law_units) s.heap.objs.size f cdv))) :
    VB (cxOf (CXv mg P w) P w K mg base N_law_units "_law_units" (defScope s_law_units) f cdv A outer s H E) [] (defBody s_law_units) m_law_units :=
  have hN := sc_law_units.nd
  have hu : Hu (cxOf (CXv mg P w) P w K mg base N_law_units "_law_units" (defScope s_law_units) f cdv A outer s H E) := hu_of hr
  (vb_cons (vs_if (vt_eq hu (ve_mod (ve_int1 (T.b.at "int") (ve_ix (ve_var 0) ve_int)) ve_int) ve_int) (vb_one (vs_ret (vx (ve_plus ve_int (ve_times ve_int (ve_ix (ve_var 0) ve_int)))))) vb_nil)
    (vb_one (vs_ret (vx (ve_plus ve_int (ve_mod (ve_int1 (T.b.at "int") (ve_ix (ve_var 0) ve_int)) ve_int))))))
theorem k_law_units (T : Txt P w K mg base) : OkF P w K mg base "_law_units" N_law_units P_law_units m_law_units 2 :=
  T.t_law_units.ok sc_law_units (fun f cdv A outer s H E hr => v_law_units T  f cdv A outer s H E hr)
theorem sc_law_level : FnScope N_law_level P_law_level (defScope s_law_level) := ⟨rfl, rfl, rfl, by decide +kernel, rfl, by decide +kernel, by decide +kernel⟩
theorem v_law_level (T : Txt P w K mg base)    (f : Addr) (cdv : Value) (A : Around) (outer : List Env) (s : Shared) (H : Hp) (E : XK) (hr : Room 1 (A.deeper (envOfC "_law_level" (defScope s_law_level) s.heap.objs.size f cdv))) :
    VB (cxOf (CXv mg P w) P w K mg base N_law_level "_law_level" (defScope s_law_level) f cdv A outer s H E) [] (defBody s_law_level) m_law_level :=
  have hN := sc_law_level.nd
  have hu : Hu (cxOf (CXv mg P w) P w K mg base N_law_level "_law_level" (defScope s_law_level) f cdv A outer s H E) := hu_of hr
  (vb_cons (vs_set (i := 2) (vx ve_int) hN)
    (vb_cons (vs_for (passes_of rfl) rfl (vi_list 3 (ve_var 0)) (pg_name (i := 3) hN rfl (by first | exact Or.inl rfl | exact Or.inr rfl)) (vb_one (vs_if (vt_eq hu (ve_var 3) (ve_tup (va_cons ve_str (va_cons (ve_var 1) va_nil)))) (vb_one (vs_set (i := 2) (vx ve_int) hN)) (vb_one (vs_if (VW.vt (vw_and (vt_eq hu (ve_ix (ve_var 3) ve_int) ve_str) (vw_and1 (vt_eq hu (ve_ix (ve_var 3) ve_int) (ve_var 1))))) (vb_one (vs_set (i := 2) (vx (ve_plus (ve_var 2) (ve_ix (ve_var 3) ve_int))) hN)) vb_nil)))))
    (vb_one (vs_ret (vx_move 2)))))
theorem k_law_level (T : Txt P w K mg base) : OkF P w K mg base "_law_level" N_law_level P_law_level m_law_level 2 :=
  T.t_law_level.ok sc_law_level (fun f cdv A outer s H E hr => v_law_level T  f cdv A outer s H E hr)
theorem sc_law_deed : FnScope N_law_deed P_law_deed (defScope s_law_deed) := ⟨rfl, rfl, rfl, by decide +kernel, rfl, by decide +kernel, by decide +kernel⟩
theorem v_law_deed (T : Txt P w K mg base) (f_law_units : OkF P w K mg base "_law_units" N_law_units P_law_units m_law_units 2) (f_law_level : OkF P w K mg base "_law_level" N_law_level P_law_level m_law_level 2)   (f : Addr) (cdv : Value) (A : Around) (outer : List Env) (s : Shared) (H : Hp) (E : XK) (hr : Room 2 (A.deeper (envOfC "_law_deed" (defScope s_law_deed) s.heap.objs.size f cdv))) :
    VB (cxOf (CXv mg P w) P w K mg base N_law_deed "_law_deed" (defScope s_law_deed) f cdv A outer s H E) [] (defBody s_law_deed) m_law_deed :=
  have hN := sc_law_deed.nd
  have hu : Hu (cxOf (CXv mg P w) P w K mg base N_law_deed "_law_deed" (defScope s_law_deed) f cdv A outer s H E) := hu_of hr
  (vb_cons (vs_setZ (i := 4) (vx (ve_ix (ve_var 2) (ve_mod (ve_int1 (T.b.at "int") (ve_ix (ve_var 0) ve_int)) (ve_len (T.b.at "len") (ve_var 2))))) hN)
    (vb_cons (vs_setZ (i := 5) (vx (ve_callO f_law_units (hr.mono (by decide)) (va_cons (ve_var 0) va_nil) (alen_cons alen_nil))) hN)
    (vb_cons (vs_if (VW.vt (vw_or (vt_eq hu (ve_mod (ve_int1 (T.b.at "int") (ve_ix (ve_var 0) ve_int)) ve_int) ve_int) (vw_or1 (vt_gt (ve_plus (ve_callO f_law_level (hr.mono (by decide)) (va_cons (ve_var 3) (va_cons (ve_var 4) va_nil)) (alen_cons (alen_cons alen_nil))) (ve_var 5)) ve_int)))) (vb_one (vs_ret (vx (ve_tup (va_cons ve_str (va_cons (ve_var 4) va_nil)))))) vb_nil)
    (vb_one (vs_ret (vx (ve_tup (va_cons ve_str (va_cons (ve_ix (ve_var 1) (ve_mod (ve_int1 (T.b.at "int") (ve_ix (ve_var 0) ve_int)) ve_int)) (va_cons (ve_var 4) (va_cons (ve_var 5) va_nil)))))))))))
theorem k_law_deed (T : Txt P w K mg base) : OkF P w K mg base "_law_deed" N_law_deed P_law_deed m_law_deed 3 :=
  T.t_law_deed.ok sc_law_deed (fun f cdv A outer s H E hr => v_law_deed T (k_law_units T) (k_law_level T) f cdv A outer s H E hr)
theorem sc_House_dipped : FnScope N_House_dipped P_House_dipped (defScope s_House_dipped) := ⟨rfl, rfl, rfl, by decide +kernel, rfl, by decide +kernel, by decide +kernel⟩
theorem v_House_dipped (T : Txt P w K mg base)    (f : Addr) (cdv : Value) (A : Around) (outer : List Env) (s : Shared) (H : Hp) (E : XK) (hr : Room 1 (A.deeper (envOfC "House.dipped" (defScope s_House_dipped) s.heap.objs.size f cdv))) :
    VB (cxOf (CXv mg P w) P w K mg base N_House_dipped "House.dipped" (defScope s_House_dipped) f cdv A outer s H E) [] (defBody s_House_dipped) m_House_dipped :=
  have hN := sc_House_dipped.nd
  have hu : Hu (cxOf (CXv mg P w) P w K mg base N_House_dipped "House.dipped" (defScope s_House_dipped) f cdv A outer s H E) := hu_of hr
  have hu5 := hu5_of hr
  (vb_cons (vs_set (i := 1) (vx (ve_lst va_nil)) hN)
    (vb_cons (vs_for (passes_of rfl) rfl (vi_list 2 (ve_fld "deeds" T.C (ve_var 0))) (pg_name (i := 2) hN rfl (by first | exact Or.inl rfl | exact Or.inr rfl)) (vb_one (vs_if (VW.vt (vw_and (vt_eq hu (ve_ix (ve_var 2) ve_int) ve_str) (vw_and1 (vt_nin hu5 (ve_ix (ve_var 2) ve_int) (ve_var 1))))) (vb_one (vs_expr (vx_append (vp_name 1) (ve_ix (ve_var 2) ve_int)))) vb_nil)))
    (vb_one (vs_ret (vx_move 1)))))
theorem k_House_dipped (T : Txt P w K mg base) : OkM P w K mg base "House" "dipped" N_House_dipped P_House_dipped m_House_dipped 2 :=
  T.t_House_dipped.ok sc_House_dipped (fun f cdv A outer s H E hr => v_House_dipped T  f cdv A outer s H E hr)
theorem sc_House_ahead : FnScope N_House_ahead P_House_ahead (defScope s_House_ahead) := ⟨rfl, rfl, rfl, by decide +kernel, rfl, by decide +kernel, by decide +kernel⟩
theorem v_House_ahead (T : Txt P w K mg base)    (f : Addr) (cdv : Value) (A : Around) (outer : List Env) (s : Shared) (H : Hp) (E : XK) (hr : Room 2 (A.deeper (envOfC "House.ahead" (defScope s_House_ahead) s.heap.objs.size f cdv))) :
    VB (cxOf (CXv mg P w) P w K mg base N_House_ahead "House.ahead" (defScope s_House_ahead) f cdv A outer s H E) [] (defBody s_House_ahead) m_House_ahead :=
  have hN := sc_House_ahead.nd
  have hu : Hu (cxOf (CXv mg P w) P w K mg base N_House_ahead "House.ahead" (defScope s_House_ahead) f cdv A outer s H E) := hu_of hr
  have hu5 := hu5_of hr
  (vb_cons (vs_if (vt_nin hu5 (ve_var 1) (ve_fld "vats" T.C (ve_var 0))) (vb_one (vs_raise1 rfl T.eUnknownName (hr.mono (by decide)) (ve_var 1))) vb_nil)
    (vb_cons (vs_set (i := 2) (vx ve_int) hN)
    (vb_cons (vs_for (passes_of rfl) rfl (vi_list 3 (ve_fld "deeds" T.C (ve_var 0))) (pg_name (i := 3) hN rfl (by first | exact Or.inl rfl | exact Or.inr rfl)) (vb_one (vs_if (VW.vt (vw_and (vt_eq hu (ve_ix (ve_var 3) ve_int) ve_str) (vw_and1 (vt_eq hu (ve_ix (ve_var 3) ve_int) (ve_var 1))))) (vb_one (vs_aug (i := 2) ip_add (ve_ix (ve_var 3) ve_int) hN)) (vb_one (vs_if (VW.vt (vw_and (vt_eq hu (ve_ix (ve_var 3) ve_int) ve_str) (vw_and1 (vt_eq hu (ve_ix (ve_var 3) ve_int) (ve_var 1))))) (vb_one (vs_set (i := 2) (vx ve_int) hN)) vb_nil)))))
    (vb_one (vs_ret (vx_move 2))))))
theorem k_House_ahead (T : Txt P w K mg base) : OkM P w K mg base "House" "ahead" N_House_ahead P_House_ahead m_House_ahead 3 :=
  T.t_House_ahead.ok sc_House_ahead (fun f cdv A outer s H E hr => v_House_ahead T  f cdv A outer s H E hr)
theorem sc_House_fill : FnScope N_House_fill P_House_fill (defScope s_House_fill) := ⟨rfl, rfl, rfl, by decide +kernel, rfl, by decide +kernel, by decide +kernel⟩
theorem v_House_fill (T : Txt P w K mg base) (f_House_ahead : OkM P w K mg base "House" "ahead" N_House_ahead P_House_ahead m_House_ahead 3)   (f : Addr) (cdv : Value) (A : Around) (outer : List Env) (s : Shared) (H : Hp) (E : XK) (hr : Room 3 (A.deeper (envOfC "House.fill" (defScope s_House_fill) s.heap.objs.size f cdv))) :
    VB (cxOf (CXv mg P w) P w K mg base N_House_fill "House.fill" (defScope s_House_fill) f cdv A outer s H E) [0] (defBody s_House_fill) m_House_fill :=
  have hN := sc_House_fill.nd
  have hu : Hu (cxOf (CXv mg P w) P w K mg base N_House_fill "House.fill" (defScope s_House_fill) f cdv A outer s H E) := hu_of hr
  (vb_cons (vs_set (i := 2) (vx (ve_mth "House" "ahead" f_House_ahead (hr.mono (by decide)) (ve_var 0) (va_cons (ve_var 1) va_nil) (alen_cons alen_nil))) hN)
    (vb_cons (vs_expr (vx_append (vp_fld "deeds" T.C (vp_name 0)) (ve_tup (va_cons ve_str (va_cons (ve_var 1) va_nil)))))
    (vb_one (vs_ret (vx_move 2)))))
theorem k_House_fill (T : Txt P w K mg base) : OkMW P w K mg base "House" "fill" N_House_fill P_House_fill [0] m_House_fill 4 :=
  T.t_House_fill.okW sc_House_fill (fun f cdv A outer s H E hr => v_House_fill T (k_House_ahead T) f cdv A outer s H E hr)
theorem sc_House_dip : FnScope N_House_dip P_House_dip (defScope s_House_dip) := ⟨rfl, rfl, rfl, by decide +kernel, rfl, by decide +kernel, by decide +kernel⟩
theorem v_House_dip (T : Txt P w K mg base) (f_valid_name : OkF P w K mg base "valid_name" N_valid_name P_valid_name m_valid_name 2) (f_House_ahead : OkM P w K mg base "House" "ahead" N_House_ahead P_House_ahead m_House_ahead 3)   (f : Addr) (cdv : Value) (A : Around) (outer : List Env) (s : Shared) (H : Hp) (E : XK) (hr : Room 3 (A.deeper (envOfC "House.dip" (defScope s_House_dip) s.heap.objs.size f cdv))) :
    VB (cxOf (CXv mg P w) P w K mg base N_House_dip "House.dip" (defScope s_House_dip) f cdv A outer s H E) [0] (defBody s_House_dip) m_House_dip :=
  have hN := sc_House_dip.nd
  have hu : Hu (cxOf (CXv mg P w) P w K mg base N_House_dip "House.dip" (defScope s_House_dip) f cdv A outer s H E) := hu_of hr
  (vb_cons (vs_if (vt_not (vt_tru (ve_callO f_valid_name (hr.mono (by decide)) (va_cons (ve_var 1) va_nil) (alen_cons alen_nil)))) (vb_one (vs_raise1 rfl T.eBadName (hr.mono (by decide)) (ve_var 1))) vb_nil)
    (vb_cons (vs_set (i := 4) (vx (ve_mth "House" "ahead" f_House_ahead (hr.mono (by decide)) (ve_var 0) (va_cons (ve_var 2) va_nil) (alen_cons alen_nil))) hN)
    (vb_cons (vs_if (vt_lt (ve_var 3) ve_int) (vb_one (vs_raise1 rfl T.eBadNumber (hr.mono (by decide)) (ve_var 3))) vb_nil)
    (vb_cons (vs_expr (vx_append (vp_fld "deeds" T.C (vp_name 0)) (ve_tup (va_cons ve_str (va_cons (ve_var 1) (va_cons (ve_var 2) (va_cons (ve_var 3) va_nil)))))))
    (vb_one (vs_ret (vx_move 4)))))))
theorem k_House_dip (T : Txt P w K mg base) : OkMK P w K mg base "House" "dip" N_House_dip P_House_dip "lasting" (.int 1) 2 [0] m_House_dip 4 :=
  T.t_House_dip.ok sc_House_dip (fun f cdv A outer s H E hr => v_House_dip T (k_valid_name T) (k_House_ahead T) f cdv A outer s H E hr)
theorem sc_law_single : FnScope N_law_single P_law_single (defScope s_law_single) := ⟨rfl, rfl, rfl, by decide +kernel, rfl, by decide +kernel, by decide +kernel⟩
theorem v_law_single (T : Txt P w K mg base) (f_House_fill : OkMW P w K mg base "House" "fill" N_House_fill P_House_fill [0] m_House_fill 4) (f_House_dip : OkMK P w K mg base "House" "dip" N_House_dip P_House_dip "lasting" (.int 1) 2 [0] m_House_dip 4)   (f : Addr) (cdv : Value) (A : Around) (outer : List Env) (s : Shared) (H : Hp) (E : XK) (hr : Room 4 (A.deeper (envOfC "_law_single" (defScope s_law_single) s.heap.objs.size f cdv))) :
    VB (cxOf (CXv mg P w) P w K mg base N_law_single "_law_single" (defScope s_law_single) f cdv A outer s H E) [0] (defBody s_law_single) m_law_single :=
  have hN := sc_law_single.nd
  have hu : Hu (cxOf (CXv mg P w) P w K mg base N_law_single "_law_single" (defScope s_law_single) f cdv A outer s H E) := hu_of hr
  (vb_one (vs_if (vt_eq hu (ve_ix (ve_var 1) ve_int) ve_str) (vb_one (vs_expr (vx_methW "House" "fill" 0 f_House_fill (hr.mono (by decide)) (vq_va (ve_ix (ve_var 1) ve_int) vq_nil)))) (vb_one (vs_expr (vx_methKW "House" "dip" 0 f_House_dip (hr.mono (by decide)) (va_cons (ve_ix (ve_var 1) ve_int) (va_cons (ve_ix (ve_var 1) ve_int) va_nil)) (alen_cons (alen_cons alen_nil)) (ve_ix (ve_var 1) ve_int))))))
theorem k_law_single (T : Txt P w K mg base) : OkFW P w K mg base "_law_single" N_law_single P_law_single [0] m_law_single 5 :=
  T.t_law_single.okW sc_law_single (fun f cdv A outer s H E hr => v_law_single T (k_House_fill T) (k_House_dip T) f cdv A outer s H E hr)
theorem sc_law_dipped : FnScope N_law_dipped P_law_dipped (defScope s_law_dipped) := ⟨rfl, rfl, rfl, by decide +kernel, rfl, by decide +kernel, by decide +kernel⟩
theorem v_law_dipped (T : Txt P w K mg base) (f_House_dipped : OkM P w K mg base "House" "dipped" N_House_dipped P_House_dipped m_House_dipped 2)   (f : Addr) (cdv : Value) (A : Around) (outer : List Env) (s : Shared) (H : Hp) (E : XK) (hr : Room 2 (A.deeper (envOfC "_law_dipped" (defScope s_law_dipped) s.heap.objs.size f cdv))) :
    VB (cxOf (CXv mg P w) P w K mg base N_law_dipped "_law_dipped" (defScope s_law_dipped) f cdv A outer s H E) [] (defBody s_law_dipped) m_law_dipped :=
  have hN := sc_law_dipped.nd
  have hu : Hu (cxOf (CXv mg P w) P w K mg base N_law_dipped "_law_dipped" (defScope s_law_dipped) f cdv A outer s H E) := hu_of hr
  have hu5 := hu5_of hr
  (vb_cons (vs_setLc true (own := [("_law_deed_here", 6)]) rfl hN (blkOk_by (by exact rfl)) (vj_seq (ve_var 1)) (fun s H C cl fp => vg_name 6 hN) (fun s H C cl fp => (vts_one (vt_eq hu (ve_ix (ve_var 6) ve_int) ve_str))) (fun s H C cl fp => (ve_ix (ve_var 6) ve_int)))
    (vb_cons (vs_setZ (i := 3) (vx (ve_mth0 "House" "dipped" f_House_dipped (hr.mono (by decide)) (ve_var 0))) hN)
    (vb_cons (vs_if (vt_not (vt_tru (ve_isi "list" (T.b.at "isinstance") (T.b.at "list") (by decide +kernel) (ve_var 3)))) (vb_one (vs_ret (vx ve_bl))) vb_nil)
    (vb_cons (vs_setZ (i := 4) (vx (ve_neg ve_int)) hN)
    (vb_cons (vs_for (passes_of rfl) rfl (vi_list 5 (ve_var 3)) (pg_name (i := 5) hN rfl (by first | exact Or.inl rfl | exact Or.inr rfl)) (vb_cons (vs_if (VW.vt (vw_or (vt_not (vt_tru (ve_isi "str" (T.b.at "isinstance") (T.b.at "str") (by decide +kernel) (ve_var 5)))) (vw_or (vt_nin hu5 (ve_var 5) (ve_var 2)) (vw_or1 (vt_le (ve_indexD hu5 (ve_var 2) (ve_var 5)) (ve_var 4)))))) (vb_one (vs_ret (vx ve_bl))) vb_nil)
    (vb_one (vs_setZ (i := 4) (vx (ve_indexD hu5 (ve_var 2) (ve_var 5))) hN))))
    (vb_one (vs_ret (vx (ve_all rfl (T.b.at "all") (ve_lc (own := [("_law_name", 5)]) rfl hN (blkOk_by (by exact rfl)) (vj_seq (ve_var 2)) (fun s H C cl fp => vg_name 5 hN) (fun s H C cl fp => vts_nil) (fun s H C cl fp => (ve_in hu5 (ve_var 5) (ve_var 3)))))))))))))
theorem k_law_dipped (T : Txt P w K mg base) : OkF P w K mg base "_law_dipped" N_law_dipped P_law_dipped m_law_dipped 3 :=
  T.t_law_dipped.ok sc_law_dipped (fun f cdv A outer s H E hr => v_law_dipped T (k_House_dipped T) f cdv A outer s H E hr)
theorem sc_House___len__ : FnScope N_House___len__ P_House___len__ (defScope s_House___len__) := ⟨rfl, rfl, rfl, by decide +kernel, rfl, by decide +kernel, by decide +kernel⟩
theorem sc_House___iter__ : FnScope N_House___iter__ P_House___iter__ (defScope s_House___iter__) := ⟨rfl, rfl, rfl, by decide +kernel, rfl, by decide +kernel, by decide +kernel⟩
theorem k_House___iter__ (T : Txt P w K mg base) : OkItL P w K mg base "House" "deeds" 1 :=
  T.t_House___iter__.ok sc_House___iter__ sc_House___len__ (fun f cdv A outer s H E => pss_itL 0 (T.b.at "iter")) (fun f cdv A outer s H E => pss_ln 0 (T.b.at "len"))
theorem sc_law_is_int : FnScope N_law_is_int P_law_is_int (defScope s_law_is_int) := ⟨rfl, rfl, rfl, by decide +kernel, rfl, by decide +kernel, by decide +kernel⟩
theorem v_law_is_int (T : Txt P w K mg base)    (f : Addr) (cdv : Value) (A : Around) (outer : List Env) (s : Shared) (H : Hp) (E : XK) (hr : Room 1 (A.deeper (envOfC "_law_is_int" (defScope s_law_is_int) s.heap.objs.size f cdv))) :
    VB (cxOf (CXv mg P w) P w K mg base N_law_is_int "_law_is_int" (defScope s_law_is_int) f cdv A outer s H E) [] (defBody s_law_is_int) m_law_is_int :=
  have hN := sc_law_is_int.nd
  have hu : Hu (cxOf (CXv mg P w) P w K mg base N_law_is_int "_law_is_int" (defScope s_law_is_int) f cdv A outer s H E) := hu_of hr
  (vb_one (vs_ret (vx (ve_and (ve_isi "int" (T.b.at "isinstance") (T.b.at "int") (by decide +kernel) (ve_var 0)) (ve_one (ve_not (ve_isi "bool" (T.b.at "isinstance") (T.b.at "bool") (by decide +kernel) (ve_var 0))))))))
theorem k_law_is_int (T : Txt P w K mg base) : OkF P w K mg base "_law_is_int" N_law_is_int P_law_is_int m_law_is_int 2 :=
  T.t_law_is_int.ok sc_law_is_int (fun f cdv A outer s H E hr => v_law_is_int T  f cdv A outer s H E hr)
theorem sc_law_same : FnScope N_law_same P_law_same (defScope s_law_same) := ⟨rfl, rfl, rfl, by decide +kernel, rfl, by decide +kernel, by decide +kernel⟩
theorem v_law_same (T : Txt P w K mg base) (f_law_is_int : OkF P w K mg base "_law_is_int" N_law_is_int P_law_is_int m_law_is_int 2)   (f : Addr) (cdv : Value) (A : Around) (outer : List Env) (s : Shared) (H : Hp) (E : XK) (hr : Room 2 (A.deeper (envOfC "_law_same" (defScope s_law_same) s.heap.objs.size f cdv))) :
    VB (cxOf (CXv mg P w) P w K mg base N_law_same "_law_same" (defScope s_law_same) f cdv A outer s H E) [] (defBody s_law_same) m_law_same :=
  have hN := sc_law_same.nd
  have hu : Hu (cxOf (CXv mg P w) P w K mg base N_law_same "_law_same" (defScope s_law_same) f cdv A outer s H E) := hu_of hr
  (vb_cons (vs_if (VW.vt (vw_or (vt_not (vt_tru (ve_isi "tuple" (T.b.at "isinstance") (T.b.at "tuple") (by decide +kernel) (ve_var 0)))) (vw_or1 (vt_ne hu (ve_len (T.b.at "len") (ve_var 0)) (ve_len (T.b.at "len") (ve_var 1)))))) (vb_one (vs_ret (vx ve_bl))) vb_nil)
    (vb_cons (vs_for (passes_of rfl) rfl (vi_range1 2 (T.b.at "range") (ve_len (T.b.at "len") (ve_var 0))) (pg_name (i := 2) hN rfl (by first | exact Or.inl rfl | exact Or.inr rfl)) (vb_one (vs_if (VW.vt (vw_or (VW.vt (vw_and (vt_lt (ve_var 2) ve_int) (vw_and1 (vt_not (vt_tru (ve_isi "str" (T.b.at "isinstance") (T.b.at "str") (by decide +kernel) (ve_ix (ve_var 0) (ve_var 2)))))))) (vw_or1 (VW.vt (vw_and (vt_eq hu (ve_var 2) ve_int) (vw_and1 (vt_not (vt_tru (ve_callO f_law_is_int (hr.mono (by decide)) (va_cons (ve_ix (ve_var 0) (ve_var 2)) va_nil) (alen_cons alen_nil)))))))))) (vb_one (vs_ret (vx ve_bl))) vb_nil)))
    (vb_one (vs_ret (vx (ve_eq hu (ve_var 0) (ve_var 1)))))))
theorem k_law_same (T : Txt P w K mg base) : OkF P w K mg base "_law_same" N_law_same P_law_same m_law_same 3 :=
  T.t_law_same.ok sc_law_same (fun f cdv A outer s H E hr => v_law_same T (k_law_is_int T) f cdv A outer s H E hr)
theorem sc_law_logged : FnScope N_law_logged P_law_logged (defScope s_law_logged) := ⟨rfl, rfl, rfl, by decide +kernel, rfl, by decide +kernel, by decide +kernel⟩
theorem v_law_logged (T : Txt P w K mg base) (f_House___iter__ : OkItL P w K mg base "House" "deeds" 1) (f_law_same : OkF P w K mg base "_law_same" N_law_same P_law_same m_law_same 3)   (f : Addr) (cdv : Value) (A : Around) (outer : List Env) (s : Shared) (H : Hp) (E : XK) (hr : Room 4 (A.deeper (envOfC "_law_logged" (defScope s_law_logged) s.heap.objs.size f cdv))) :
    VB (cxOf (CXv mg P w) P w K mg base N_law_logged "_law_logged" (defScope s_law_logged) f cdv A outer s H E) [] (defBody s_law_logged) m_law_logged :=
  have hN := sc_law_logged.nd
  have hu : Hu (cxOf (CXv mg P w) P w K mg base N_law_logged "_law_logged" (defScope s_law_logged) f cdv A outer s H E) := hu_of hr
  (vb_cons (vs_setZ (i := 2) (vx (ve_listOL "House" "deeds" f_House___iter__ (hr.mono (by decide)) rfl (T.b.at "list") (ve_var 0))) hN)
    (vb_cons (vs_if (VW.vt (vw_or (vt_ne hu (ve_lenO "House" "deeds" f_House___iter__ (hr.mono (by decide)) (T.b.at "len") (ve_var 0)) (ve_len (T.b.at "len") (ve_var 1))) (vw_or1 (vt_ne hu (ve_len (T.b.at "len") (ve_var 2)) (ve_len (T.b.at "len") (ve_var 1)))))) (vb_one (vs_ret (vx ve_bl))) vb_nil)
    (vb_one (vs_ret (vx (ve_all rfl (T.b.at "all") (ve_lc (own := [("_law_k", 3)]) rfl hN (blkOk_by (by exact rfl)) (vj_range1 (T.b.at "range") (ve_len (T.b.at "len") (ve_var 1))) (fun s H C cl fp => vg_name 3 hN) (fun s H C cl fp => vts_nil) (fun s H C cl fp => (ve_callO f_law_same (hr.mono (by decide)) (va_cons (ve_ix (ve_var 2) (ve_var 3)) (va_cons (ve_ix (ve_var 1) (ve_var 3)) va_nil)) (alen_cons (alen_cons alen_nil)))))))))))
theorem k_law_logged (T : Txt P w K mg base) : OkF P w K mg base "_law_logged" N_law_logged P_law_logged m_law_logged 5 :=
  T.t_law_logged.ok sc_law_logged (fun f cdv A outer s H E hr => v_law_logged T (k_House___iter__ T) (k_law_same T) f cdv A outer s H E hr)
theorem sc_law_own : FnScope N_law_own P_law_own (defScope s_law_own) := ⟨rfl, rfl, rfl, by decide +kernel, rfl, by decide +kernel, by decide +kernel⟩
theorem v_law_own (T : Txt P w K mg base) (f_House_dipped : OkM P w K mg base "House" "dipped" N_House_dipped P_House_dipped m_House_dipped 2) (f_law_dipped : OkF P w K mg base "_law_dipped" N_law_dipped P_law_dipped m_law_dipped 3) (f_law_logged : OkF P w K mg base "_law_logged" N_law_logged P_law_logged m_law_logged 5)   (f : Addr) (cdv : Value) (A : Around) (outer : List Env) (s : Shared) (H : Hp) (E : XK) (hr : Room 5 (A.deeper (envOfC "_law_own" (defScope s_law_own) s.heap.objs.size f cdv))) :
    VB (cxOf (CXv mg P w) P w K mg base N_law_own "_law_own" (defScope s_law_own) f cdv A outer s H E) [] (defBody s_law_own) m_law_own :=
  have hN := sc_law_own.nd
  have hu : Hu (cxOf (CXv mg P w) P w K mg base N_law_own "_law_own" (defScope s_law_own) f cdv A outer s H E) := hu_of hr
  (vb_cons (vs_if (VW.vt (vw_or (vt_not (vt_tru (ve_isi "tuple" (T.b.at "isinstance") (T.b.at "tuple") (by decide +kernel) (ve_fld "vats" T.C (ve_var 0))))) (vw_or1 (vt_ne hu (ve_list (T.b.at "list") (ve_fld "vats" T.C (ve_var 0))) (ve_var 1))))) (vb_one (vs_ret (vx ve_bl))) vb_nil)
    (vb_cons (vs_if (VW.vt (vw_or (vt_not (vt_tru (ve_callO f_law_logged (hr.mono (by decide)) (va_cons (ve_var 0) (va_cons (ve_var 2) va_nil)) (alen_cons (alen_cons alen_nil))))) (vw_or1 (vt_not (vt_tru (ve_callO f_law_dipped (hr.mono (by decide)) (va_cons (ve_var 0) (va_cons (ve_var 2) va_nil)) (alen_cons (alen_cons alen_nil)))))))) (vb_one (vs_ret (vx ve_bl))) vb_nil)
    (vb_cons (vs_set (i := 3) (vx (ve_mth0 "House" "dipped" f_House_dipped (hr.mono (by decide)) (ve_var 0))) hN)
    (vb_cons (vs_expr (vx_append (vp_name 3) ve_str))
    (vb_one (vs_ret (vx (ve_callO f_law_dipped (hr.mono (by decide)) (va_cons (ve_var 0) (va_cons (ve_var 2) va_nil)) (alen_cons (alen_cons alen_nil))))))))))
theorem k_law_own (T : Txt P w K mg base) : OkF P w K mg base "_law_own" N_law_own P_law_own m_law_own 6 :=
  T.t_law_own.ok sc_law_own (fun f cdv A outer s H E hr => v_law_own T (k_House_dipped T) (k_law_dipped T) (k_law_logged T) f cdv A outer s H E hr)
theorem vh_House_dipped (T : Txt P w K mg base) (f : Addr) (cdv : Value) (A : Around) (outer : List Env) (s : Shared) (H : Hp) (E : XK) (p : Addr × Obj) (hot : L2H.Hot1 A p) (hr : L2H.RoomH 1 (A.deeper (envOfC "House.dipped" (defScope s_House_dipped) s.heap.objs.size f cdv))) :
    VB (L2H.cxH (CXv mg P w) P w K mg base N_House_dipped "House.dipped" (defScope s_House_dipped) f cdv A outer s H E p) [] (defBody s_House_dipped) h_House_dipped :=
  have hN := sc_House_dipped.nd
  (vb_cons (vs_set (i := 1) (vx (ve_lst va_nil)) hN)
    (vb_cons (vs_forE (passes_of rfl) (hotC_of hot) (ve_fld "deeds" T.C (ve_var 0)))
    (vb_one (vs_ret (vx_move 1)))))
theorem kh_House_dipped (T : Txt P w K mg base) : OkMH P w K mg base "House" "dipped" N_House_dipped P_House_dipped h_House_dipped 2 :=
  T.t_House_dipped.okH sc_House_dipped (fun f cdv A outer s H E p hot hr => vh_House_dipped T f cdv A outer s H E p hot hr)
theorem kh_House___iter__ (T : Txt P w K mg base) : OkItH P w K mg base "House" "deeds" 1 :=
  T.t_House___iter__.okH sc_House___iter__ sc_House___len__ (fun f cdv A outer s H E p => pss_itL 0 (T.b.at "iter")) (fun f cdv A outer s H E p => pss_ln 0 (T.b.at "len"))
theorem vh_law_dipped (T : Txt P w K mg base) (f_House_dipped : OkMH P w K mg base "House" "dipped" N_House_dipped P_House_dipped h_House_dipped 2) (f : Addr) (cdv : Value) (A : Around) (outer : List Env) (s : Shared) (H : Hp) (E : XK) (p : Addr × Obj) (hot : L2H.Hot1 A p) (hr : L2H.RoomH 2 (A.deeper (envOfC "_law_dipped" (defScope s_law_dipped) s.heap.objs.size f cdv))) :
    VB (L2H.cxH (CXv mg P w) P w K mg base N_law_dipped "_law_dipped" (defScope s_law_dipped) f cdv A outer s H E p) [] (defBody s_law_dipped) h_law_dipped :=
  have hN := sc_law_dipped.nd
  (vb_cons (vs_setLcE (own := [("_law_deed_here", 6)]) (hotC_of hot) hN (blkOk_by (by exact rfl)) (ve_var 1))
    (vb_cons (vs_setZ (i := 3) (vx (ve_mth0H "House" "dipped" f_House_dipped (hr.mono (by decide)) (hotC_of hot) (ve_var 0))) hN)
    (vb_cons (vs_if (vt_not (vt_tru (ve_isi "list" (T.b.at "isinstance") (T.b.at "list") (by decide +kernel) (ve_var 3)))) (vb_one (vs_ret (vx ve_bl))) vb_nil)
    (vb_cons (vs_setZ (i := 4) (vx (ve_neg ve_int)) hN)
    (vb_cons (vs_forE (passes_of rfl) (hotC_of hot) (ve_var 3))
    (vb_one (vs_ret (vx (ve_allH (hotC_of hot) (T.b.at "all") (ve_lcE (own := [("_law_name", 5)]) (hotC_of hot) (blkOk_by (by exact rfl)) (ve_var 2)))))))))))
theorem kh_law_dipped (T : Txt P w K mg base) : OkFH P w K mg base "_law_dipped" N_law_dipped P_law_dipped h_law_dipped 3 :=
  T.t_law_dipped.okH sc_law_dipped (fun f cdv A outer s H E p hot hr => vh_law_dipped T (kh_House_dipped T) f cdv A outer s H E p hot hr)
theorem vh_law_logged (T : Txt P w K mg base) (f_House___iter__ : OkItH P w K mg base "House" "deeds" 1) (f : Addr) (cdv : Value) (A : Around) (outer : List Env) (s : Shared) (H : Hp) (E : XK) (p : Addr × Obj) (hot : L2H.Hot1 A p) (hr : L2H.RoomH 4 (A.deeper (envOfC "_law_logged" (defScope s_law_logged) s.heap.objs.size f cdv))) :
    VB (L2H.cxH (CXv mg P w) P w K mg base N_law_logged "_law_logged" (defScope s_law_logged) f cdv A outer s H E p) [] (defBody s_law_logged) h_law_logged :=
  have hN := sc_law_logged.nd
  have hu : Hu (L2H.cxH (CXv mg P w) P w K mg base N_law_logged "_law_logged" (defScope s_law_logged) f cdv A outer s H E p) := huH_of hr
  (vb_cons (vs_setZ (i := 2) (vx (ve_listH "House" "deeds" f_House___iter__ (hr.mono (by decide)) (hotC_of hot) (T.b.at "list") (ve_var 0))) hN)
    (vb_cons (vs_if (VW.vt (vw_or (vt_ne hu (ve_lenH "House" "deeds" f_House___iter__ (hr.mono (by decide)) (hotC_of hot) (T.b.at "len") (ve_var 0)) (ve_len (T.b.at "len") (ve_var 1))) (vw_or1 (vt_ne hu (ve_len (T.b.at "len") (ve_var 2)) (ve_len (T.b.at "len") (ve_var 1)))))) (vb_one (vs_ret (vx ve_bl))) vb_nil)
    (vb_one (vs_ret (vx (ve_allH (hotC_of hot) (T.b.at "all") (ve_lcR (own := [("_law_k", 3)]) (hotC_of hot) (blkOk_by (by exact rfl)) (T.b.at "range") (ve_len (T.b.at "len") (ve_var 1)))))))))
theorem kh_law_logged (T : Txt P w K mg base) : OkFH P w K mg base "_law_logged" N_law_logged P_law_logged h_law_logged 5 :=
  T.t_law_logged.okH sc_law_logged (fun f cdv A outer s H E p hot hr => vh_law_logged T (kh_House___iter__ T) f cdv A outer s H E p hot hr)
theorem vh_law_own (T : Txt P w K mg base) (f_House_dipped : OkMH P w K mg base "House" "dipped" N_House_dipped P_House_dipped h_House_dipped 2) (f_law_dipped : OkFH P w K mg base "_law_dipped" N_law_dipped P_law_dipped h_law_dipped 3) (f_law_logged : OkFH P w K mg base "_law_logged" N_law_logged P_law_logged h_law_logged 5) (f : Addr) (cdv : Value) (A : Around) (outer : List Env) (s : Shared) (H : Hp) (E : XK) (p : Addr × Obj) (hot : L2H.Hot1 A p) (hr : L2H.RoomH 5 (A.deeper (envOfC "_law_own" (defScope s_law_own) s.heap.objs.size f cdv))) :
    VB (L2H.cxH (CXv mg P w) P w K mg base N_law_own "_law_own" (defScope s_law_own) f cdv A outer s H E p) [] (defBody s_law_own) h_law_own :=
  have hN := sc_law_own.nd
  have hu : Hu (L2H.cxH (CXv mg P w) P w K mg base N_law_own "_law_own" (defScope s_law_own) f cdv A outer s H E p) := huH_of hr
  (vb_cons (vs_if (VW.vt (vw_or (vt_not (vt_tru (ve_isi "tuple" (T.b.at "isinstance") (T.b.at "tuple") (by decide +kernel) (ve_fld "vats" T.C (ve_var 0))))) (vw_or1 (vt_ne hu (ve_list (T.b.at "list") (ve_fld "vats" T.C (ve_var 0))) (ve_var 1))))) (vb_one (vs_ret (vx ve_bl))) vb_nil)
    (vb_cons (vs_if (VW.vt (vw_or (vt_not (vt_tru (ve_callH f_law_logged (hr.mono (by decide)) (hotC_of hot) (va_cons (ve_var 0) (va_cons (ve_var 2) va_nil)) (alen_cons (alen_cons alen_nil))))) (vw_or1 (vt_not (vt_tru (ve_callH f_law_dipped (hr.mono (by decide)) (hotC_of hot) (va_cons (ve_var 0) (va_cons (ve_var 2) va_nil)) (alen_cons (alen_cons alen_nil)))))))) (vb_one (vs_ret (vx ve_bl))) vb_nil)
    (vb_cons (vs_set (i := 3) (vx (ve_mth0H "House" "dipped" f_House_dipped (hr.mono (by decide)) (hotC_of hot) (ve_var 0))) hN)
    (vb_cons (vs_expr (vx_append (vp_name 3) ve_str))
    (vb_one (vs_ret (vx (ve_callH f_law_dipped (hr.mono (by decide)) (hotC_of hot) (va_cons (ve_var 0) (va_cons (ve_var 2) va_nil)) (alen_cons (alen_cons alen_nil))))))))))
theorem kh_law_own (T : Txt P w K mg base) : OkFH P w K mg base "_law_own" N_law_own P_law_own h_law_own 6 :=
  T.t_law_own.okH sc_law_own (fun f cdv A outer s H E p hot hr => vh_law_own T (kh_House_dipped T) (kh_law_dipped T) (kh_law_logged T) f cdv A outer s H E p hot hr)
theorem sc_law_none : FnScope N_law_none P_law_none (defScope s_law_none) := ⟨rfl, rfl, rfl, by decide +kernel, rfl, by decide +kernel, by decide +kernel⟩
theorem v_law_none (T : Txt P w K mg base) (f_House___init__ : OkI P w K mg base "House" N_House___init__ P_House___init__ m_House___init__ 3) (f_House_dip : OkMK P w K mg base "House" "dip" N_House_dip P_House_dip "lasting" (.int 1) 2 [0] m_House_dip 4) (f_law_own : OkFH P w K mg base "_law_own" N_law_own P_law_own h_law_own 6)   (f : Addr) (cdv : Value) (A : Around) (outer : List Env) (s : Shared) (H : Hp) (E : XK) (hr : Room 6 (A.deeper (envOfC "_law_none" (defScope s_law_none) s.heap.objs.size f cdv))) :
    VB (cxOf (CXv mg P w) P w K mg base N_law_none "_law_none" (defScope s_law_none) f cdv A outer s H E) [] (defBody s_law_none) m_law_none :=
  have hN := sc_law_none.nd
  have hu : Hu (cxOf (CXv mg P w) P w K mg base N_law_none "_law_none" (defScope s_law_none) f cdv A outer s H E) := hu_of hr
  (vb_cons (vs_set (i := 2) (vx (ve_make "House" f_House___init__ (hr.mono (by decide)) (va_cons (ve_lst va_nil) va_nil) (alen_cons alen_nil))) hN)
    (vb_cons (vs_tryR (i := 3) "UnknownName" T.E rfl hN (L2H.passesAt_of rfl) (fun pn xe hpo => (vb_one (vs_expr (vx_methSD (k := 4) (d := (.int 1)) (fun _ _ _ => rfl) "House" "dip" 2 f_House_dip (hr.mono (by decide)) (va_cons (ve_var 0) (va_cons (ve_var 1) va_nil)) (alen_cons (alen_cons alen_nil)))))) (fun a oe pn xe hot => (vb_one (vs_ret (vx (ve_and (ve_eq hu (ve_xf "name" T.E (ve_var 3)) (ve_var 1)) (ve_one (ve_callH (k := 6) f_law_own (L2H.roomH_mark (hr.mono (by decide)) _) ⟨_, hot, List.mem_cons_self⟩ (va_cons (ve_var 2) (va_cons (ve_lst va_nil) (va_cons (ve_lst va_nil) va_nil))) (alen_cons (alen_cons (alen_cons alen_nil)))))))))) (h1 := .inr T.nbd) (h2 := .inr T.nbl))
    (vb_one (vs_ret (vx ve_bl)))))
theorem k_law_none (T : Txt P w K mg base) : OkF P w K mg base "_law_none" N_law_none P_law_none m_law_none 7 :=
  T.t_law_none.ok sc_law_none (fun f cdv A outer s H E hr => v_law_none T (k_House___init__ T) (k_House_dip T) (kh_law_own T) f cdv A outer s H E hr)
theorem sc_law_opened : FnScope N_law_opened P_law_opened (defScope s_law_opened) := ⟨rfl, rfl, rfl, by decide +kernel, rfl, by decide +kernel, by decide +kernel⟩
theorem v_law_opened (T : Txt P w K mg base) (f_House___init__ : OkI P w K mg base "House" N_House___init__ P_House___init__ m_House___init__ 3)   (f : Addr) (cdv : Value) (A : Around) (outer : List Env) (s : Shared) (H : Hp) (E : XK) (hr : Room 4 (A.deeper (envOfC "_law_opened" (defScope s_law_opened) s.heap.objs.size f cdv))) :
    VB (cxOf (CXv mg P w) P w K mg base N_law_opened "_law_opened" (defScope s_law_opened) f cdv A outer s H E) [] (defBody s_law_opened) m_law_opened :=
  have hN := sc_law_opened.nd
  have hu : Hu (cxOf (CXv mg P w) P w K mg base N_law_opened "_law_opened" (defScope s_law_opened) f cdv A outer s H E) := hu_of hr
  (vb_cons (vs_try_as (i := 2) "BadName" T.E rfl hN (fun pn xe hpo => (vb_one (vs_set (i := 1) (vx (ve_make "House" f_House___init__ (hr.mono (by decide)) (va_cons (ve_var 0) va_nil) (alen_cons alen_nil))) hN))) (fun a oe pn => (vb_one (vs_ret (vx (ve_tup (va_cons ve_str (va_cons (ve_xf "name" T.E (ve_var 2)) va_nil))))))))
    (vb_one (vs_ret (vx_tupX (xa_cons (vx ve_str) (xa_cons (vx_move 1) xa_nil))))))
theorem k_law_opened (T : Txt P w K mg base) : OkF P w K mg base "_law_opened" N_law_opened P_law_opened m_law_opened 5 :=
  T.t_law_opened.ok sc_law_opened (fun f cdv A outer s H E hr => v_law_opened T (k_House___init__ T) f cdv A outer s H E hr)
theorem sc_law_no_name : FnScope N_law_no_name P_law_no_name (defScope s_law_no_name) := ⟨rfl, rfl, rfl, by decide +kernel, rfl, by decide +kernel, by decide +kernel⟩
theorem v_law_no_name (T : Txt P w K mg base)    (f : Addr) (cdv : Value) (A : Around) (outer : List Env) (s : Shared) (H : Hp) (E : XK) (hr : Room 1 (A.deeper (envOfC "_law_no_name" (defScope s_law_no_name) s.heap.objs.size f cdv))) :
    VB (cxOf (CXv mg P w) P w K mg base N_law_no_name "_law_no_name" (defScope s_law_no_name) f cdv A outer s H E) [] (defBody s_law_no_name) m_law_no_name :=
  have hN := sc_law_no_name.nd
  have hu : Hu (cxOf (CXv mg P w) P w K mg base N_law_no_name "_law_no_name" (defScope s_law_no_name) f cdv A outer s H E) := hu_of hr
  (vb_cons (vs_setZ (i := 2) (vx ve_str) hN)
    (vb_cons (vs_setZ (i := 3) (vx (ve_mod (ve_int1 (T.b.at "int") (ve_ix (ve_var 1) ve_int)) (ve_plus (ve_len (T.b.at "len") (ve_var 0)) ve_int))) hN)
    (vb_cons (vs_setZ (i := 4) (vx (ve_mod (ve_int1 (T.b.at "int") (ve_ix (ve_var 1) ve_int)) ve_int)) hN)
    (vb_cons (vs_if (VW.vt (vw_and (vt_eq hu (ve_var 4) ve_int) (vw_and1 (vt_eq hu (ve_mod (ve_int1 (T.b.at "int") (ve_ix (ve_var 1) ve_int)) ve_int) ve_int)))) (vb_one (vs_ret (vx ve_str))) vb_nil)
    (vb_cons (vs_if (vt_eq hu (ve_var 4) ve_int) (vb_one (vs_ret (vx (ve_plus (ve_ix ve_str (ve_mod (ve_int1 (T.b.at "int") (ve_ix (ve_var 1) ve_int)) ve_int)) (ve_slice (ve_var 0) (vo_some ve_int) vo_none))))) vb_nil)
    (vb_cons (vs_if (vt_eq hu (ve_var 4) ve_int) (vb_one (vs_ret (vx (ve_plus (ve_var 0) (ve_times ve_str (ve_sub ve_int (ve_len (T.b.at "len") (ve_var 0)))))))) vb_nil)
    (vb_cons (vs_setZ (i := 5) (vx (ve_ix (ve_var 2) (ve_mod (ve_int1 (T.b.at "int") (ve_plus (ve_times ve_int (ve_ix (ve_var 1) ve_int)) (ve_ix (ve_var 1) ve_int))) (ve_len (T.b.at "len") (ve_var 2))))) hN)
    (vb_one (vs_ret (vx (ve_plus (ve_plus (ve_slice (ve_var 0) vo_none (vo_some (ve_var 3))) (ve_var 5)) (ve_slice (ve_var 0) (vo_some (ve_var 3)) vo_none))))))))))))
theorem k_law_no_name (T : Txt P w K mg base) : OkF P w K mg base "_law_no_name" N_law_no_name P_law_no_name m_law_no_name 2 :=
  T.t_law_no_name.ok sc_law_no_name (fun f cdv A outer s H E hr => v_law_no_name T  f cdv A outer s H E hr)
theorem sc_law_is_name : FnScope N_law_is_name P_law_is_name (defScope s_law_is_name) := ⟨rfl, rfl, rfl, by decide +kernel, rfl, by decide +kernel, by decide +kernel⟩
theorem v_law_is_name (T : Txt P w K mg base)    (f : Addr) (cdv : Value) (A : Around) (outer : List Env) (s : Shared) (H : Hp) (E : XK) (hr : Room 1 (A.deeper (envOfC "_law_is_name" (defScope s_law_is_name) s.heap.objs.size f cdv))) :
    VB (cxOf (CXv mg P w) P w K mg base N_law_is_name "_law_is_name" (defScope s_law_is_name) f cdv A outer s H E) [] (defBody s_law_is_name) m_law_is_name :=
  have hN := sc_law_is_name.nd
  have hu : Hu (cxOf (CXv mg P w) P w K mg base N_law_is_name "_law_is_name" (defScope s_law_is_name) f cdv A outer s H E) := hu_of hr
  have hu5 := hu5_of hr
  (vb_cons (vs_setZ (i := 1) (vx ve_str) hN)
    (vb_cons (vs_for (passes_of rfl) rfl (vi_range1 2 (T.b.at "range") (ve_len (T.b.at "len") (ve_var 0))) (pg_name (i := 2) hN rfl (by first | exact Or.inl rfl | exact Or.inr rfl)) (vb_one (vs_if (VW.vt (vw_and (vt_nin hu5 (ve_ix (ve_var 0) (ve_var 2)) (ve_var 1)) (vw_and1 (VW.vt (vw_or (vt_eq hu (ve_var 2) ve_int) (vw_or1 (vt_nin hu5 (ve_ix (ve_var 0) (ve_var 2)) ve_str))))))) (vb_one (vs_ret (vx ve_bl))) vb_nil)))
    (vb_one (vs_ret (vx (ve_leLe ve_int (ve_len (T.b.at "len") (ve_var 0)) ve_int))))))
theorem k_law_is_name (T : Txt P w K mg base) : OkF P w K mg base "_law_is_name" N_law_is_name P_law_is_name m_law_is_name 2 :=
  T.t_law_is_name.ok sc_law_is_name (fun f cdv A outer s H E hr => v_law_is_name T  f cdv A outer s H E hr)
theorem sc_law_classes : FnScope N_law_classes P_law_classes (defScope s_law_classes) := ⟨rfl, rfl, rfl, by decide +kernel, rfl, by decide +kernel, by decide +kernel⟩
theorem v_law_classes (T : Txt P w K mg base) (f_House___init__ : OkI P w K mg base "House" N_House___init__ P_House___init__ m_House___init__ 3)   (f : Addr) (cdv : Value) (A : Around) (outer : List Env) (s : Shared) (H : Hp) (E : XK) (hr : Room 4 (A.deeper (envOfC "_law_classes" (defScope s_law_classes) s.heap.objs.size f cdv))) :
    VB (cxOf (CXv mg P w) P w K mg base N_law_classes "_law_classes" (defScope s_law_classes) f cdv A outer s H E) [] (defBody s_law_classes) m_law_classes :=
  have hN := sc_law_classes.nd
  have hu : Hu (cxOf (CXv mg P w) P w K mg base N_law_classes "_law_classes" (defScope s_law_classes) f cdv A outer s H E) := hu_of hr
  (vb_cons (vs_try_as (i := 1) "DyeError" T.E rfl hN (fun pn xe hpo => (vb_one (vs_expr (vx (ve_make "House" f_House___init__ (hr.mono (by decide)) (va_cons (ve_var 0) va_nil) (alen_cons alen_nil)))))) (fun a oe pn => (vb_one (vs_ret (vx (ve_lst (va_cons (ve_isE "BadName" T.E (T.b.at "isinstance") (ve_var 1)) (va_cons (ve_isE "UnknownName" T.E (T.b.at "isinstance") (ve_var 1)) (va_cons (ve_isV T.E (T.b.at "isinstance") (T.b.at "ValueError") (ve_var 1)) va_nil)))))))))
    (vb_one (vs_ret (vx (ve_lst va_nil)))))
theorem k_law_classes (T : Txt P w K mg base) : OkF P w K mg base "_law_classes" N_law_classes P_law_classes m_law_classes 5 :=
  T.t_law_classes.ok sc_law_classes (fun f cdv A outer s H E hr => v_law_classes T (k_House___init__ T) f cdv A outer s H E hr)
theorem sc_law_listed : FnScope N_law_listed P_law_listed (defScope s_law_listed) := ⟨rfl, rfl, rfl, by decide +kernel, rfl, by decide +kernel, by decide +kernel⟩
theorem v_law_listed (T : Txt P w K mg base) (f_law_own : OkF P w K mg base "_law_own" N_law_own P_law_own m_law_own 6) (f_law_opened : OkF P w K mg base "_law_opened" N_law_opened P_law_opened m_law_opened 5) (f_law_no_name : OkF P w K mg base "_law_no_name" N_law_no_name P_law_no_name m_law_no_name 2) (f_law_is_name : OkF P w K mg base "_law_is_name" N_law_is_name P_law_is_name m_law_is_name 2) (f_law_classes : OkF P w K mg base "_law_classes" N_law_classes P_law_classes m_law_classes 5)   (f : Addr) (cdv : Value) (A : Around) (outer : List Env) (s : Shared) (H : Hp) (E : XK) (hr : Room 6 (A.deeper (envOfC "_law_listed" (defScope s_law_listed) s.heap.objs.size f cdv))) :
    VB (cxOf (CXv mg P w) P w K mg base N_law_listed "_law_listed" (defScope s_law_listed) f cdv A outer s H E) [] (defBody s_law_listed) m_law_listed :=
  have hN := sc_law_listed.nd
  have hu : Hu (cxOf (CXv mg P w) P w K mg base N_law_listed "_law_listed" (defScope s_law_listed) f cdv A outer s H E) := hu_of hr
  have hu5 := hu5_of hr
  (vb_cons (vs_setZ (i := 3) (vx (ve_slice (ve_var 0) (vo_some (ve_plus ve_int (ve_mod (ve_int1 (T.b.at "int") (ve_ix (ve_var 1) ve_int)) ve_int))) vo_none)) hN)
    (vb_cons (vs_for (passes_of rfl) rfl (vi_range1 4 (T.b.at "range") (ve_mod (ve_int1 (T.b.at "int") (ve_ix (ve_var 1) ve_int)) ve_int)) (pg_name (i := 4) hN rfl (by first | exact Or.inl rfl | exact Or.inr rfl)) (vb_cons (vs_setZ (i := 5) (vx (ve_callO f_law_no_name (hr.mono (by decide)) (va_cons (ve_ix (ve_var 0) (ve_mod (ve_int1 (T.b.at "int") (ve_ix (ve_var 1) (ve_plus ve_int (ve_times ve_int (ve_var 4))))) ve_int)) (va_cons (ve_plus (ve_slice (ve_var 2) (vo_some (ve_var 4)) vo_none) (ve_slice (ve_var 2) vo_none (vo_some (ve_var 4)))) va_nil)) (alen_cons (alen_cons alen_nil)))) hN)
    (vb_cons (vs_if (VW.vt (vw_and (vt_eq hu (ve_mod (ve_int1 (T.b.at "int") (ve_ix (ve_var 1) (ve_plus ve_int (ve_times ve_int (ve_var 4))))) ve_int) ve_int) (vw_and1 (vt_gt (ve_len (T.b.at "len") (ve_var 3)) ve_int)))) (vb_one (vs_setZ (i := 5) (vx (ve_ix (ve_var 3) (ve_mod (ve_int1 (T.b.at "int") (ve_ix (ve_var 1) (ve_plus ve_int (ve_times ve_int (ve_var 4))))) (ve_len (T.b.at "len") (ve_var 3))))) hN)) vb_nil)
    (vb_cons (vs_setZ (i := 6) (vx (ve_mod (ve_int1 (T.b.at "int") (ve_ix (ve_var 1) (ve_plus ve_int (ve_times ve_int (ve_var 4))))) (ve_plus (ve_len (T.b.at "len") (ve_var 3)) ve_int))) hN)
    (vb_one (vs_setZ (i := 3) (vx (ve_plus (ve_plus (ve_slice (ve_var 3) vo_none (vo_some (ve_var 6))) (ve_lst (va_cons (ve_var 5) va_nil))) (ve_slice (ve_var 3) (vo_some (ve_var 6)) vo_none))) hN))))))
    (vb_cons (vs_set (i := 7) (vx (ve_lst va_nil)) hN)
    (vb_cons (vs_set (i := 8) (vx (ve_lst va_nil)) hN)
    (vb_cons (vs_for (passes_of rfl) rfl (vi_list 9 (ve_var 3)) (pg_name (i := 9) hN rfl (by first | exact Or.inl rfl | exact Or.inr rfl)) (vb_one (vs_if (VW.vt (vw_and (vt_tru (ve_callO f_law_is_name (hr.mono (by decide)) (va_cons (ve_var 9) va_nil) (alen_cons alen_nil))) (vw_and1 (vt_nin hu5 (ve_var 9) (ve_var 7))))) (vb_one (vs_expr (vx_append (vp_name 7) (ve_var 9)))) (vb_one (vs_expr (vx_append (vp_name 8) (ve_var 9)))))))
    (vb_cons (vs_setZ (i := 10) (vx (ve_list (T.b.at "list") (ve_var 3))) hN)
    (vb_cons (vs_if (vt_gt (ve_len (T.b.at "len") (ve_var 8)) ve_int) (vb_cons (vs_if (VW.vt (vw_or (vt_ne hu (ve_callO f_law_opened (hr.mono (by decide)) (va_cons (ve_var 10) va_nil) (alen_cons alen_nil)) (ve_tup (va_cons ve_str (va_cons (ve_ix (ve_var 8) ve_int) va_nil)))) (vw_or1 (vt_ne hu (ve_callO f_law_classes (hr.mono (by decide)) (va_cons (ve_var 10) va_nil) (alen_cons alen_nil)) (ve_lst (va_cons ve_bl (va_cons ve_bl (va_cons ve_bl va_nil)))))))) (vb_one (vs_ret (vx ve_bl))) vb_nil)
    (vb_cons (vs_if (vt_ne hu (ve_var 10) (ve_var 3)) (vb_one (vs_ret (vx ve_bl))) vb_nil)
    (vb_one (vs_setZ (i := 10) (vx (ve_list (T.b.at "list") (ve_var 7))) hN)))) vb_nil)
    (vb_cons (vs_setZ (i := 11) (vx (ve_callO f_law_opened (hr.mono (by decide)) (va_cons (ve_var 10) va_nil) (alen_cons alen_nil))) hN)
    (vb_one (vs_ret (vx (ve_and (ve_eq hu (ve_ix (ve_var 11) ve_int) ve_str) (ve_and (ve_eq hu (ve_var 10) (ve_var 7)) (ve_one (ve_callO f_law_own (hr.mono (by decide)) (va_cons (ve_ix (ve_var 11) ve_int) (va_cons (ve_var 7) (va_cons (ve_lst va_nil) va_nil))) (alen_cons (alen_cons (alen_cons alen_nil))))))))))))))))))
theorem k_law_listed (T : Txt P w K mg base) : OkF P w K mg base "_law_listed" N_law_listed P_law_listed m_law_listed 7 :=
  T.t_law_listed.ok sc_law_listed (fun f cdv A outer s H E hr => v_law_listed T (k_law_own T) (k_law_opened T) (k_law_no_name T) (k_law_is_name T) (k_law_classes T) f cdv A outer s H E hr)
theorem sc_law : FnScope N_law P_law (defScope s_law) := ⟨rfl, rfl, rfl, by decide +kernel, rfl, by decide +kernel, by decide +kernel⟩
theorem v_law (T : Txt P w K mg base) (f_law_row : OkF P w K mg base "_law_row" N_law_row P_law_row m_law_row 2) (f_law_names : OkF P w K mg base "_law_names" N_law_names P_law_names m_law_names 3) (f_law_cell : OkF P w K mg base "_law_cell" N_law_cell P_law_cell m_law_cell 2) (f_law_rows : OkF P w K mg base "_law_rows" N_law_rows P_law_rows m_law_rows 3) (f_House___init__ : OkI P w K mg base "House" N_House___init__ P_House___init__ m_House___init__ 3) (f_law_deed : OkF P w K mg base "_law_deed" N_law_deed P_law_deed m_law_deed 3) (f_House_dipped : OkM P w K mg base "House" "dipped" N_House_dipped P_House_dipped m_House_dipped 2) (f_law_single : OkFW P w K mg base "_law_single" N_law_single P_law_single [0] m_law_single 5) (f_law_own : OkF P w K mg base "_law_own" N_law_own P_law_own m_law_own 6) (f_law_none : OkF P w K mg base "_law_none" N_law_none P_law_none m_law_none 7) (f_law_listed : OkF P w K mg base "_law_listed" N_law_listed P_law_listed m_law_listed 7)   (f : Addr) (cdv : Value) (A : Around) (outer : List Env) (s : Shared) (H : Hp) (E : XK) (hr : Room 7 (A.deeper (envOfC "law" (defScope s_law) s.heap.objs.size f cdv))) :
    VB (cxOf (CXv mg P w) P w K mg base N_law "law" (defScope s_law) f cdv A outer s H E) [] (defBody s_law) m_law :=
  have hN := sc_law.nd
  have hu : Hu (cxOf (CXv mg P w) P w K mg base N_law "law" (defScope s_law) f cdv A outer s H E) := hu_of hr
  (vb_cons (vs_setZ (i := 1) (vx (ve_callO f_law_names (hr.mono (by decide)) (va_cons (ve_callO f_law_cell (hr.mono (by decide)) (va_cons (ve_var 0) (va_cons ve_int va_nil)) (alen_cons (alen_cons alen_nil))) (va_cons ve_int va_nil)) (alen_cons (alen_cons alen_nil)))) hN)
    (vb_cons (vs_setZ (i := 2) (vx (ve_callO f_law_row (hr.mono (by decide)) (va_cons (ve_callO f_law_cell (hr.mono (by decide)) (va_cons (ve_var 0) (va_cons ve_int va_nil)) (alen_cons (alen_cons alen_nil))) (va_cons ve_int (va_cons ve_int va_nil))) (alen_cons (alen_cons (alen_cons alen_nil))))) hN)
    (vb_cons (vs_setZ (i := 3) (vx (ve_lst (va_cons (ve_slice (ve_var 1) vo_none (vo_some (ve_plus ve_int (ve_mod (ve_int1 (T.b.at "int") (ve_ix (ve_var 2) ve_int)) ve_int)))) (va_cons (ve_slice (ve_var 1) (vo_some (ve_sub ve_int (ve_mod (ve_int1 (T.b.at "int") (ve_ix (ve_var 2) ve_int)) ve_int))) vo_none) va_nil)))) hN)
    (vb_cons (vs_set (i := 4) (vx (ve_lst (va_cons (ve_list (T.b.at "list") (ve_ix (ve_var 3) ve_int)) (va_cons (ve_list (T.b.at "list") (ve_ix (ve_var 3) ve_int)) va_nil)))) hN)
    (vb_cons (vs_set (i := 5) (vx (ve_lst (va_cons (ve_make "House" f_House___init__ (hr.mono (by decide)) (va_cons (ve_ix (ve_var 4) ve_int) va_nil) (alen_cons alen_nil)) (va_cons (ve_make "House" f_House___init__ (hr.mono (by decide)) (va_cons (ve_ix (ve_var 4) ve_int) va_nil) (alen_cons alen_nil)) va_nil)))) hN)
    (vb_cons (vs_expr (vx_append (vp_ix (vp_name 4) ve_int) ve_str))
    (vb_cons (vs_setIx ve_str (vp_ix (vp_name 4) ve_int) ve_int)
    (vb_cons (vs_set (i := 6) (vx (ve_lst (va_cons (ve_lst va_nil) (va_cons (ve_lst va_nil) va_nil)))) hN)
    (vb_cons (vs_for (passes_of rfl) rfl (vi_list 7 (ve_callO f_law_rows (hr.mono (by decide)) (va_cons (ve_var 0) (va_cons ve_int (va_cons ve_int (va_cons ve_int va_nil)))) (alen_cons (alen_cons (alen_cons (alen_cons alen_nil)))))) (pg_name (i := 7) hN rfl (by first | exact Or.inl rfl | exact Or.inr rfl)) (vb_cons (vs_setZ (i := 8) (vx (ve_mod (ve_int1 (T.b.at "int") (ve_ix (ve_var 7) ve_int)) ve_int)) hN)
    (vb_cons (vs_setZ (i := 9) (vx (ve_callO f_law_deed (hr.mono (by decide)) (va_cons (ve_var 7) (va_cons (ve_var 1) (va_cons (ve_ix (ve_var 3) (ve_var 8)) (va_cons (ve_ix (ve_var 6) (ve_var 8)) va_nil)))) (alen_cons (alen_cons (alen_cons (alen_cons alen_nil)))))) hN)
    (vb_cons (vs_setZ (i := 10) (vx (ve_mth0 "House" "dipped" f_House_dipped (hr.mono (by decide)) (ve_ix (ve_var 5) (ve_var 8)))) hN)
    (vb_cons (vs_setZ (i := 11) (vx (ve_list (T.b.at "list") (ve_var 10))) hN)
    (vb_cons (vs_expr (vx_callPS f_law_single (hr.mono (by decide)) (vp_ix (vp_name 5) (ve_var 8)) (vq_va (ve_var 9) vq_nil)))
    (vb_cons (vs_expr (vx_append (vp_ix (vp_name 6) (ve_var 8)) (ve_var 9)))
    (vb_cons (vs_if (vt_ne hu (ve_var 10) (ve_var 11)) (vb_one (vs_ret (vx ve_bl))) vb_nil)
    (vb_one (vs_for (passes_of rfl) rfl (vi_range1 12 (T.b.at "range") ve_int) (pg_name (i := 12) hN rfl (by first | exact Or.inl rfl | exact Or.inr rfl)) (vb_one (vs_if (vt_not (vt_tru (ve_callO f_law_own (hr.mono (by decide)) (va_cons (ve_ix (ve_var 5) (ve_var 12)) (va_cons (ve_ix (ve_var 3) (ve_var 12)) (va_cons (ve_ix (ve_var 6) (ve_var 12)) va_nil))) (alen_cons (alen_cons (alen_cons alen_nil)))))) (vb_one (vs_ret (vx ve_bl))) vb_nil))))))))))))
    (vb_cons (vs_if (VW.vt (vw_or (vt_not (vt_tru (ve_callO f_law_own (hr.mono (by decide)) (va_cons (ve_ix (ve_var 5) ve_int) (va_cons (ve_ix (ve_var 3) ve_int) (va_cons (ve_ix (ve_var 6) ve_int) va_nil))) (alen_cons (alen_cons (alen_cons alen_nil)))))) (vw_or1 (vt_not (vt_tru (ve_callO f_law_own (hr.mono (by decide)) (va_cons (ve_ix (ve_var 5) ve_int) (va_cons (ve_ix (ve_var 3) ve_int) (va_cons (ve_ix (ve_var 6) ve_int) va_nil))) (alen_cons (alen_cons (alen_cons alen_nil))))))))) (vb_one (vs_ret (vx ve_bl))) vb_nil)
    (vb_cons (vs_setZ (i := 7) (vx (ve_callO f_law_row (hr.mono (by decide)) (va_cons (ve_callO f_law_cell (hr.mono (by decide)) (va_cons (ve_var 0) (va_cons ve_int va_nil)) (alen_cons (alen_cons alen_nil))) (va_cons ve_int (va_cons ve_int va_nil))) (alen_cons (alen_cons (alen_cons alen_nil))))) hN)
    (vb_cons (vs_setZ (i := 13) (vx (ve_callO f_law_row (hr.mono (by decide)) (va_cons (ve_callO f_law_cell (hr.mono (by decide)) (va_cons (ve_var 0) (va_cons ve_int va_nil)) (alen_cons (alen_cons alen_nil))) (va_cons ve_int (va_cons ve_int va_nil))) (alen_cons (alen_cons (alen_cons alen_nil))))) hN)
    (vb_cons (vs_for (passes_of rfl) rfl (vi_range1 12 (T.b.at "range") ve_int) (pg_name (i := 12) hN rfl (by first | exact Or.inl rfl | exact Or.inr rfl)) (vb_one (vs_if (vt_not (vt_tru (ve_callO f_law_listed (hr.mono (by decide)) (va_cons (ve_var 1) (va_cons (ve_plus (ve_slice (ve_var 7) (vo_some (ve_times ve_int (ve_var 12))) vo_none) (ve_slice (ve_var 7) vo_none (vo_some (ve_times ve_int (ve_var 12))))) (va_cons (ve_plus (ve_slice (ve_var 13) (vo_some (ve_var 12)) vo_none) (ve_slice (ve_var 13) vo_none (vo_some (ve_var 12)))) va_nil))) (alen_cons (alen_cons (alen_cons alen_nil)))))) (vb_one (vs_ret (vx ve_bl))) vb_nil)))
    (vb_cons (vs_setZ (i := 14) (vx (ve_lst (va_cons ve_str (va_cons ve_str (va_cons ve_str (va_cons ve_str (va_cons ve_str (va_cons ve_str (va_cons ve_str va_nil))))))))) hN)
    (vb_one (vs_ret (vx (ve_and (ve_callO f_law_own (hr.mono (by decide)) (va_cons (ve_make "House" f_House___init__ (hr.mono (by decide)) (va_cons (ve_list (T.b.at "list") (ve_var 14)) va_nil) (alen_cons alen_nil)) (va_cons (ve_var 14) (va_cons (ve_lst va_nil) va_nil))) (alen_cons (alen_cons (alen_cons alen_nil)))) (ve_one (ve_callO f_law_none (hr.mono (by decide)) (va_cons (ve_ix (ve_var 1) ve_int) (va_cons (ve_ix (ve_var 1) ve_int) va_nil)) (alen_cons (alen_cons alen_nil))))))))))))))))))))))
end
section
variable {P : Program} {w : World} {K : PySem.W.Frag} {h : Heap} {mg : Str → Option Value} {base : Heap}
abbrev iBadName : Stmt := inClass (top 3) 0
theorem er_BadName {Ca f1 cda cc : Addr} {fd : FuncData} (I : InitT P K mg "BadName" iBadName "BadName.__init__" ["self", "name"] ["name"] Ca f1 cda cc fd) : Er1 P w K mg base "BadName" "name" :=
  ⟨Ca, f1, fd, _, I.gC, I.ox, I.iC, I.tI, (err1B I.T (VLX.sup_by rfl) rfl (fun _ => rfl) rfl (I.no _ (by simp)) (fun A outer s H E cal pn => pss_one (ps_ost (pv 0) (pv 1)))).1, I.bd⟩
abbrev iBadNumber : Stmt := inClass (top 5) 0
theorem er_BadNumber {Ca f1 cda cc : Addr} {fd : FuncData} (I : InitT P K mg "BadNumber" iBadNumber "BadNumber.__init__" ["self", "number"] ["number"] Ca f1 cda cc fd) : Er1 P w K mg base "BadNumber" "number" :=
  ⟨Ca, f1, fd, _, I.gC, I.ox, I.iC, I.tI, (err1B I.T (VLX.sup_by rfl) rfl (fun _ => rfl) rfl (I.no _ (by simp)) (fun A outer s H E cal pn => pss_one (ps_ost (pv 0) (pv 1)))).1, I.bd⟩
abbrev iUnknownName : Stmt := inClass (top 4) 0
theorem er_UnknownName {Ca f1 cda cc : Addr} {fd : FuncData} (I : InitT P K mg "UnknownName" iUnknownName "UnknownName.__init__" ["self", "name"] ["name"] Ca f1 cda cc fd) : Er1 P w K mg base "UnknownName" "name" :=
  ⟨Ca, f1, fd, _, I.gC, I.ox, I.iC, I.tI, (err1B I.T (VLX.sup_by rfl) rfl (fun _ => rfl) rfl (I.no _ (by simp)) (fun A outer s H E cal pn => pss_one (ps_ost (pv 0) (pv 1)))).1, I.bd⟩
end
theorem all_mk {w : World} {K : PySem.W.Frag} {h : Heap} {mg : Str → Option Value} {fa : Addr} (X : K.In h) (G : h.Ns mainGlobals mg) (hfa : mg "law" = some (.ref fa))
    {C0 : Addr} (n0 : PySem.W.nsIn K mainGlobals "DyeError" = some (some (.ref C0)))
    {C1 : Addr} (n1 : PySem.W.nsIn K mainGlobals "BadName" = some (some (.ref C1)))
    {C2 : Addr} (n2 : PySem.W.nsIn K mainGlobals "UnknownName" = some (some (.ref C2)))
    {C3 : Addr} (n3 : PySem.W.nsIn K mainGlobals "BadNumber" = some (some (.ref C3)))
    (hE : errB K [(("DyeError", []), C0), (("BadName", ["name"]), C1), (("UnknownName", ["name"]), C2), (("BadNumber", ["number"]), C3)] = true) (hblt : bltB K = true) (hnbd : PySem.W.nsIn K mainGlobals (Str.ofString "BadDeed") = some none) (hnbl : PySem.W.nsIn K mainGlobals (Str.ofString "BadLine") = some none)
    {nm1 q1 : String} {N1 : Addr} {bs1 bm1 : List Value} {sn1 : List Str} {sub1 : List Value} {ab1 : Bool} {col1 : Option Bool} {dd1 : Option Addr} {z01 z11 z21 z31 z51 : Option Value}
    {g1 cda1 cc1 : Addr} {oc1 kV1 doc1 pm1 ct1 : Value} {od1 an1 : Option Addr} {osl1 : Array (Option Value)} {cl1 : Value} {cld1 : Option Addr} {csl1 : Array (Option Value)}
    (x1 : K.lookup C1 = some (excClassObj nm1 q1 C1 N1 bs1 bm1 true sn1 sub1 ab1 col1 dd1 z01 z11 z21 z31 z51 "ValueError.__new__")) (bm_1 : PySem.HandSPX.refsVE bm1 = true)
    (y1 : PySem.W.findIn K (.ref C1) "__init__" = some (some (.ref g1)))
    (m1 : K.lookup g1 = some ⟨oc1, od1, .func (PySem.W.fnX "__init__" "BadName.__init__" (defArgs iBadName) (defBody iBadName) (defScope iBadName) [("__class__", cc1)] .none kV1 doc1 pm1 an1 (.ref cda1) ct1), osl1⟩)
    (ce1 : K.lookup cc1 = some ⟨cl1, cld1, .cell (some (.ref C1)), csl1⟩) (hc1 : codeB PySem.Challenge.pw_dyevats_k21_two_houses K cda1 = true) (e1 : initB PySem.Challenge.pw_dyevats_k21_two_houses K C1 g1 cda1 "BadName.__init__" ["name"] = true)
    {nm3 q3 : String} {N3 : Addr} {bs3 bm3 : List Value} {sn3 : List Str} {sub3 : List Value} {ab3 : Bool} {col3 : Option Bool} {dd3 : Option Addr} {z03 z13 z23 z33 z53 : Option Value}
    {g3 cda3 cc3 : Addr} {oc3 kV3 doc3 pm3 ct3 : Value} {od3 an3 : Option Addr} {osl3 : Array (Option Value)} {cl3 : Value} {cld3 : Option Addr} {csl3 : Array (Option Value)}
    (x3 : K.lookup C3 = some (excClassObj nm3 q3 C3 N3 bs3 bm3 true sn3 sub3 ab3 col3 dd3 z03 z13 z23 z33 z53 "ValueError.__new__")) (bm_3 : PySem.HandSPX.refsVE bm3 = true)
    (y3 : PySem.W.findIn K (.ref C3) "__init__" = some (some (.ref g3)))
    (m3 : K.lookup g3 = some ⟨oc3, od3, .func (PySem.W.fnX "__init__" "BadNumber.__init__" (defArgs iBadNumber) (defBody iBadNumber) (defScope iBadNumber) [("__class__", cc3)] .none kV3 doc3 pm3 an3 (.ref cda3) ct3), osl3⟩)
    (ce3 : K.lookup cc3 = some ⟨cl3, cld3, .cell (some (.ref C3)), csl3⟩) (hc3 : codeB PySem.Challenge.pw_dyevats_k21_two_houses K cda3 = true) (e3 : initB PySem.Challenge.pw_dyevats_k21_two_houses K C3 g3 cda3 "BadNumber.__init__" ["number"] = true)
    {nm2 q2 : String} {N2 : Addr} {bs2 bm2 : List Value} {sn2 : List Str} {sub2 : List Value} {ab2 : Bool} {col2 : Option Bool} {dd2 : Option Addr} {z02 z12 z22 z32 z52 : Option Value}
    {g2 cda2 cc2 : Addr} {oc2 kV2 doc2 pm2 ct2 : Value} {od2 an2 : Option Addr} {osl2 : Array (Option Value)} {cl2 : Value} {cld2 : Option Addr} {csl2 : Array (Option Value)}
    (x2 : K.lookup C2 = some (excClassObj nm2 q2 C2 N2 bs2 bm2 true sn2 sub2 ab2 col2 dd2 z02 z12 z22 z32 z52 "ValueError.__new__")) (bm_2 : PySem.HandSPX.refsVE bm2 = true)
    (y2 : PySem.W.findIn K (.ref C2) "__init__" = some (some (.ref g2)))
    (m2 : K.lookup g2 = some ⟨oc2, od2, .func (PySem.W.fnX "__init__" "UnknownName.__init__" (defArgs iUnknownName) (defBody iUnknownName) (defScope iUnknownName) [("__class__", cc2)] .none kV2 doc2 pm2 an2 (.ref cda2) ct2), osl2⟩)
    (ce2 : K.lookup cc2 = some ⟨cl2, cld2, .cell (some (.ref C2)), csl2⟩) (hc2 : codeB PySem.Challenge.pw_dyevats_k21_two_houses K cda2 = true) (e2 : initB PySem.Challenge.pw_dyevats_k21_two_houses K C2 g2 cda2 "UnknownName.__init__" ["name"] = true)
    {Cc0 : Addr} (nc0 : PySem.W.nsIn K mainGlobals "House" = some (some (.ref Cc0)))
    (hcl : clsB K [(("House", ["vats", "deeds"]), Cc0)] = true)
    {tk_DIGITS : Tok} (gs_DIGITS : PySem.W.nsIn K mainGlobals "DIGITS" = some (some (.str "0123456789" tk_DIGITS)))
    {tk_LETTERS : Tok} (gs_LETTERS : PySem.W.nsIn K mainGlobals "LETTERS" = some (some (.str "abcdefghijklmnopqrstuvwxyz" tk_LETTERS)))
    {f__law_row : Addr} {oc__law_row kV__law_row dc__law_row pm__law_row cd__law_row ct__law_row : Value} {od__law_row an__law_row : Option Addr} {sl__law_row : Array (Option Value)} (a__law_row : PySem.W.nsIn K mainGlobals "_law_row" = some (some (.ref f__law_row))) (l__law_row : K.lookup f__law_row = some ⟨oc__law_row, od__law_row, .func (PySem.W.fnOf "_law_row" "_law_row" (defArgs s_law_row) (defBody s_law_row) (defScope s_law_row) .none kV__law_row dc__law_row pm__law_row an__law_row cd__law_row ct__law_row), sl__law_row⟩) (c__law_row : PySem.W.codeIn K cd__law_row "_law_row" = true) (k__law_row : PySem.W.keepIn K (.ref f__law_row) = true)
    {f__law_names : Addr} {oc__law_names kV__law_names dc__law_names pm__law_names cd__law_names ct__law_names : Value} {od__law_names an__law_names : Option Addr} {sl__law_names : Array (Option Value)} (a__law_names : PySem.W.nsIn K mainGlobals "_law_names" = some (some (.ref f__law_names))) (l__law_names : K.lookup f__law_names = some ⟨oc__law_names, od__law_names, .func (PySem.W.fnOf "_law_names" "_law_names" (defArgs s_law_names) (defBody s_law_names) (defScope s_law_names) .none kV__law_names dc__law_names pm__law_names an__law_names cd__law_names ct__law_names), sl__law_names⟩) (c__law_names : PySem.W.codeIn K cd__law_names "_law_names" = true) (k__law_names : PySem.W.keepIn K (.ref f__law_names) = true)
    {f__law_cell : Addr} {oc__law_cell kV__law_cell dc__law_cell pm__law_cell cd__law_cell ct__law_cell : Value} {od__law_cell an__law_cell : Option Addr} {sl__law_cell : Array (Option Value)} (a__law_cell : PySem.W.nsIn K mainGlobals "_law_cell" = some (some (.ref f__law_cell))) (l__law_cell : K.lookup f__law_cell = some ⟨oc__law_cell, od__law_cell, .func (PySem.W.fnOf "_law_cell" "_law_cell" (defArgs s_law_cell) (defBody s_law_cell) (defScope s_law_cell) .none kV__law_cell dc__law_cell pm__law_cell an__law_cell cd__law_cell ct__law_cell), sl__law_cell⟩) (c__law_cell : PySem.W.codeIn K cd__law_cell "_law_cell" = true) (k__law_cell : PySem.W.keepIn K (.ref f__law_cell) = true)
    {f__law_rows : Addr} {oc__law_rows kV__law_rows dc__law_rows pm__law_rows cd__law_rows ct__law_rows : Value} {od__law_rows an__law_rows : Option Addr} {sl__law_rows : Array (Option Value)} (a__law_rows : PySem.W.nsIn K mainGlobals "_law_rows" = some (some (.ref f__law_rows))) (l__law_rows : K.lookup f__law_rows = some ⟨oc__law_rows, od__law_rows, .func (PySem.W.fnOf "_law_rows" "_law_rows" (defArgs s_law_rows) (defBody s_law_rows) (defScope s_law_rows) .none kV__law_rows dc__law_rows pm__law_rows an__law_rows cd__law_rows ct__law_rows), sl__law_rows⟩) (c__law_rows : PySem.W.codeIn K cd__law_rows "_law_rows" = true) (k__law_rows : PySem.W.keepIn K (.ref f__law_rows) = true)
    {f__valid_name : Addr} {oc__valid_name kV__valid_name dc__valid_name pm__valid_name cd__valid_name ct__valid_name : Value} {od__valid_name an__valid_name : Option Addr} {sl__valid_name : Array (Option Value)} (a__valid_name : PySem.W.nsIn K mainGlobals "valid_name" = some (some (.ref f__valid_name))) (l__valid_name : K.lookup f__valid_name = some ⟨oc__valid_name, od__valid_name, .func (PySem.W.fnOf "valid_name" "valid_name" (defArgs s_valid_name) (defBody s_valid_name) (defScope s_valid_name) .none kV__valid_name dc__valid_name pm__valid_name an__valid_name cd__valid_name ct__valid_name), sl__valid_name⟩) (c__valid_name : PySem.W.codeIn K cd__valid_name "valid_name" = true) (k__valid_name : PySem.W.keepIn K (.ref f__valid_name) = true)
    {f__House___init__ : Addr} {oc__House___init__ kV__House___init__ dc__House___init__ pm__House___init__ cd__House___init__ ct__House___init__ : Value} {od__House___init__ an__House___init__ : Option Addr} {sl__House___init__ : Array (Option Value)} (a__House___init__ : PySem.W.findIn K (.ref Cc0) "__init__" = some (some (.ref f__House___init__))) (l__House___init__ : K.lookup f__House___init__ = some ⟨oc__House___init__, od__House___init__, .func (PySem.W.fnOf "__init__" "House.__init__" (defArgs s_House___init__) (defBody s_House___init__) (defScope s_House___init__) .none kV__House___init__ dc__House___init__ pm__House___init__ an__House___init__ cd__House___init__ ct__House___init__), sl__House___init__⟩) (c__House___init__ : PySem.W.codeIn K cd__House___init__ "House.__init__" = true) (me__House___init__ : mkB K Cc0 f__House___init__ = true)
    {f__law_units : Addr} {oc__law_units kV__law_units dc__law_units pm__law_units cd__law_units ct__law_units : Value} {od__law_units an__law_units : Option Addr} {sl__law_units : Array (Option Value)} (a__law_units : PySem.W.nsIn K mainGlobals "_law_units" = some (some (.ref f__law_units))) (l__law_units : K.lookup f__law_units = some ⟨oc__law_units, od__law_units, .func (PySem.W.fnOf "_law_units" "_law_units" (defArgs s_law_units) (defBody s_law_units) (defScope s_law_units) .none kV__law_units dc__law_units pm__law_units an__law_units cd__law_units ct__law_units), sl__law_units⟩) (c__law_units : PySem.W.codeIn K cd__law_units "_law_units" = true) (k__law_units : PySem.W.keepIn K (.ref f__law_units) = true)
    {f__law_level : Addr} {oc__law_level kV__law_level dc__law_level pm__law_level cd__law_level ct__law_level : Value} {od__law_level an__law_level : Option Addr} {sl__law_level : Array (Option Value)} (a__law_level : PySem.W.nsIn K mainGlobals "_law_level" = some (some (.ref f__law_level))) (l__law_level : K.lookup f__law_level = some ⟨oc__law_level, od__law_level, .func (PySem.W.fnOf "_law_level" "_law_level" (defArgs s_law_level) (defBody s_law_level) (defScope s_law_level) .none kV__law_level dc__law_level pm__law_level an__law_level cd__law_level ct__law_level), sl__law_level⟩) (c__law_level : PySem.W.codeIn K cd__law_level "_law_level" = true) (k__law_level : PySem.W.keepIn K (.ref f__law_level) = true)
    {f__law_deed : Addr} {oc__law_deed kV__law_deed dc__law_deed pm__law_deed cd__law_deed ct__law_deed : Value} {od__law_deed an__law_deed : Option Addr} {sl__law_deed : Array (Option Value)} (a__law_deed : PySem.W.nsIn K mainGlobals "_law_deed" = some (some (.ref f__law_deed))) (l__law_deed : K.lookup f__law_deed = some ⟨oc__law_deed, od__law_deed, .func (PySem.W.fnOf "_law_deed" "_law_deed" (defArgs s_law_deed) (defBody s_law_deed) (defScope s_law_deed) .none kV__law_deed dc__law_deed pm__law_deed an__law_deed cd__law_deed ct__law_deed), sl__law_deed⟩) (c__law_deed : PySem.W.codeIn K cd__law_deed "_law_deed" = true) (k__law_deed : PySem.W.keepIn K (.ref f__law_deed) = true)
    {f__House_dipped : Addr} {oc__House_dipped kV__House_dipped dc__House_dipped pm__House_dipped cd__House_dipped ct__House_dipped : Value} {od__House_dipped an__House_dipped : Option Addr} {sl__House_dipped : Array (Option Value)} (a__House_dipped : PySem.W.findIn K (.ref Cc0) "dipped" = some (some (.ref f__House_dipped))) (l__House_dipped : K.lookup f__House_dipped = some ⟨oc__House_dipped, od__House_dipped, .func (PySem.W.fnOf "dipped" "House.dipped" (defArgs s_House_dipped) (defBody s_House_dipped) (defScope s_House_dipped) .none kV__House_dipped dc__House_dipped pm__House_dipped an__House_dipped cd__House_dipped ct__House_dipped), sl__House_dipped⟩) (c__House_dipped : PySem.W.codeIn K cd__House_dipped "House.dipped" = true) (me__House_dipped : methB K Cc0 f__House_dipped "dipped" = true)
    {f__House_ahead : Addr} {oc__House_ahead kV__House_ahead dc__House_ahead pm__House_ahead cd__House_ahead ct__House_ahead : Value} {od__House_ahead an__House_ahead : Option Addr} {sl__House_ahead : Array (Option Value)} (a__House_ahead : PySem.W.findIn K (.ref Cc0) "ahead" = some (some (.ref f__House_ahead))) (l__House_ahead : K.lookup f__House_ahead = some ⟨oc__House_ahead, od__House_ahead, .func (PySem.W.fnOf "ahead" "House.ahead" (defArgs s_House_ahead) (defBody s_House_ahead) (defScope s_House_ahead) .none kV__House_ahead dc__House_ahead pm__House_ahead an__House_ahead cd__House_ahead ct__House_ahead), sl__House_ahead⟩) (c__House_ahead : PySem.W.codeIn K cd__House_ahead "House.ahead" = true) (me__House_ahead : methB K Cc0 f__House_ahead "ahead" = true)
    {f__House_fill : Addr} {oc__House_fill kV__House_fill dc__House_fill pm__House_fill cd__House_fill ct__House_fill : Value} {od__House_fill an__House_fill : Option Addr} {sl__House_fill : Array (Option Value)} (a__House_fill : PySem.W.findIn K (.ref Cc0) "fill" = some (some (.ref f__House_fill))) (l__House_fill : K.lookup f__House_fill = some ⟨oc__House_fill, od__House_fill, .func (PySem.W.fnOf "fill" "House.fill" (defArgs s_House_fill) (defBody s_House_fill) (defScope s_House_fill) .none kV__House_fill dc__House_fill pm__House_fill an__House_fill cd__House_fill ct__House_fill), sl__House_fill⟩) (c__House_fill : PySem.W.codeIn K cd__House_fill "House.fill" = true) (me__House_fill : methB K Cc0 f__House_fill "fill" = true)
    {kD__House_dip : Addr} {kt__House_dip : Tok} {f__House_dip : Addr} {oc__House_dip dc__House_dip pm__House_dip cd__House_dip ct__House_dip : Value} {od__House_dip an__House_dip : Option Addr} {sl__House_dip : Array (Option Value)} (a__House_dip : PySem.W.findIn K (.ref Cc0) "dip" = some (some (.ref f__House_dip))) (l__House_dip : K.lookup f__House_dip = some ⟨oc__House_dip, od__House_dip, .func (PySem.W.fnOf "dip" "House.dip" (defArgs s_House_dip) (defBody s_House_dip) (defScope s_House_dip) .none (.ref kD__House_dip) dc__House_dip pm__House_dip an__House_dip cd__House_dip ct__House_dip), sl__House_dip⟩) (c__House_dip : PySem.W.codeIn K cd__House_dip "House.dip" = true) (me__House_dip : methB K Cc0 f__House_dip "dip" = true) (q__House_dip : PySem.W.nsIn K kD__House_dip "lasting" = some (some (.int 1 kt__House_dip)))
    {f__law_single : Addr} {oc__law_single kV__law_single dc__law_single pm__law_single cd__law_single ct__law_single : Value} {od__law_single an__law_single : Option Addr} {sl__law_single : Array (Option Value)} (a__law_single : PySem.W.nsIn K mainGlobals "_law_single" = some (some (.ref f__law_single))) (l__law_single : K.lookup f__law_single = some ⟨oc__law_single, od__law_single, .func (PySem.W.fnOf "_law_single" "_law_single" (defArgs s_law_single) (defBody s_law_single) (defScope s_law_single) .none kV__law_single dc__law_single pm__law_single an__law_single cd__law_single ct__law_single), sl__law_single⟩) (c__law_single : PySem.W.codeIn K cd__law_single "_law_single" = true) (k__law_single : PySem.W.keepIn K (.ref f__law_single) = true)
    {f__law_dipped : Addr} {oc__law_dipped kV__law_dipped dc__law_dipped pm__law_dipped cd__law_dipped ct__law_dipped : Value} {od__law_dipped an__law_dipped : Option Addr} {sl__law_dipped : Array (Option Value)} (a__law_dipped : PySem.W.nsIn K mainGlobals "_law_dipped" = some (some (.ref f__law_dipped))) (l__law_dipped : K.lookup f__law_dipped = some ⟨oc__law_dipped, od__law_dipped, .func (PySem.W.fnOf "_law_dipped" "_law_dipped" (defArgs s_law_dipped) (defBody s_law_dipped) (defScope s_law_dipped) .none kV__law_dipped dc__law_dipped pm__law_dipped an__law_dipped cd__law_dipped ct__law_dipped), sl__law_dipped⟩) (c__law_dipped : PySem.W.codeIn K cd__law_dipped "_law_dipped" = true) (k__law_dipped : PySem.W.keepIn K (.ref f__law_dipped) = true)
    {f__House___len__ : Addr} {oc__House___len__ kV__House___len__ dc__House___len__ pm__House___len__ cd__House___len__ ct__House___len__ : Value} {od__House___len__ an__House___len__ : Option Addr} {sl__House___len__ : Array (Option Value)} (a__House___len__ : PySem.W.findIn K (.ref Cc0) "__len__" = some (some (.ref f__House___len__))) (l__House___len__ : K.lookup f__House___len__ = some ⟨oc__House___len__, od__House___len__, .func (PySem.W.fnOf "__len__" "House.__len__" (defArgs s_House___len__) (defBody s_House___len__) (defScope s_House___len__) .none kV__House___len__ dc__House___len__ pm__House___len__ an__House___len__ cd__House___len__ ct__House___len__), sl__House___len__⟩) (c__House___len__ : PySem.W.codeIn K cd__House___len__ "House.__len__" = true)
    {f__House___iter__ : Addr} {oc__House___iter__ kV__House___iter__ dc__House___iter__ pm__House___iter__ cd__House___iter__ ct__House___iter__ : Value} {od__House___iter__ an__House___iter__ : Option Addr} {sl__House___iter__ : Array (Option Value)} (a__House___iter__ : PySem.W.findIn K (.ref Cc0) "__iter__" = some (some (.ref f__House___iter__))) (l__House___iter__ : K.lookup f__House___iter__ = some ⟨oc__House___iter__, od__House___iter__, .func (PySem.W.fnOf "__iter__" "House.__iter__" (defArgs s_House___iter__) (defBody s_House___iter__) (defScope s_House___iter__) .none kV__House___iter__ dc__House___iter__ pm__House___iter__ an__House___iter__ cd__House___iter__ ct__House___iter__), sl__House___iter__⟩) (c__House___iter__ : PySem.W.codeIn K cd__House___iter__ "House.__iter__" = true) (me__House___iter__ : itLB K Cc0 f__House___iter__ f__House___len__ = true)
    {f__law_is_int : Addr} {oc__law_is_int kV__law_is_int dc__law_is_int pm__law_is_int cd__law_is_int ct__law_is_int : Value} {od__law_is_int an__law_is_int : Option Addr} {sl__law_is_int : Array (Option Value)} (a__law_is_int : PySem.W.nsIn K mainGlobals "_law_is_int" = some (some (.ref f__law_is_int))) (l__law_is_int : K.lookup f__law_is_int = some ⟨oc__law_is_int, od__law_is_int, .func (PySem.W.fnOf "_law_is_int" "_law_is_int" (defArgs s_law_is_int) (defBody s_law_is_int) (defScope s_law_is_int) .none kV__law_is_int dc__law_is_int pm__law_is_int an__law_is_int cd__law_is_int ct__law_is_int), sl__law_is_int⟩) (c__law_is_int : PySem.W.codeIn K cd__law_is_int "_law_is_int" = true) (k__law_is_int : PySem.W.keepIn K (.ref f__law_is_int) = true)
    {f__law_same : Addr} {oc__law_same kV__law_same dc__law_same pm__law_same cd__law_same ct__law_same : Value} {od__law_same an__law_same : Option Addr} {sl__law_same : Array (Option Value)} (a__law_same : PySem.W.nsIn K mainGlobals "_law_same" = some (some (.ref f__law_same))) (l__law_same : K.lookup f__law_same = some ⟨oc__law_same, od__law_same, .func (PySem.W.fnOf "_law_same" "_law_same" (defArgs s_law_same) (defBody s_law_same) (defScope s_law_same) .none kV__law_same dc__law_same pm__law_same an__law_same cd__law_same ct__law_same), sl__law_same⟩) (c__law_same : PySem.W.codeIn K cd__law_same "_law_same" = true) (k__law_same : PySem.W.keepIn K (.ref f__law_same) = true)
    {f__law_logged : Addr} {oc__law_logged kV__law_logged dc__law_logged pm__law_logged cd__law_logged ct__law_logged : Value} {od__law_logged an__law_logged : Option Addr} {sl__law_logged : Array (Option Value)} (a__law_logged : PySem.W.nsIn K mainGlobals "_law_logged" = some (some (.ref f__law_logged))) (l__law_logged : K.lookup f__law_logged = some ⟨oc__law_logged, od__law_logged, .func (PySem.W.fnOf "_law_logged" "_law_logged" (defArgs s_law_logged) (defBody s_law_logged) (defScope s_law_logged) .none kV__law_logged dc__law_logged pm__law_logged an__law_logged cd__law_logged ct__law_logged), sl__law_logged⟩) (c__law_logged : PySem.W.codeIn K cd__law_logged "_law_logged" = true) (k__law_logged : PySem.W.keepIn K (.ref f__law_logged) = true)
    {f__law_own : Addr} {oc__law_own kV__law_own dc__law_own pm__law_own cd__law_own ct__law_own : Value} {od__law_own an__law_own : Option Addr} {sl__law_own : Array (Option Value)} (a__law_own : PySem.W.nsIn K mainGlobals "_law_own" = some (some (.ref f__law_own))) (l__law_own : K.lookup f__law_own = some ⟨oc__law_own, od__law_own, .func (PySem.W.fnOf "_law_own" "_law_own" (defArgs s_law_own) (defBody s_law_own) (defScope s_law_own) .none kV__law_own dc__law_own pm__law_own an__law_own cd__law_own ct__law_own), sl__law_own⟩) (c__law_own : PySem.W.codeIn K cd__law_own "_law_own" = true) (k__law_own : PySem.W.keepIn K (.ref f__law_own) = true)
    {f__law_none : Addr} {oc__law_none kV__law_none dc__law_none pm__law_none cd__law_none ct__law_none : Value} {od__law_none an__law_none : Option Addr} {sl__law_none : Array (Option Value)} (a__law_none : PySem.W.nsIn K mainGlobals "_law_none" = some (some (.ref f__law_none))) (l__law_none : K.lookup f__law_none = some ⟨oc__law_none, od__law_none, .func (PySem.W.fnOf "_law_none" "_law_none" (defArgs s_law_none) (defBody s_law_none) (defScope s_law_none) .none kV__law_none dc__law_none pm__law_none an__law_none cd__law_none ct__law_none), sl__law_none⟩) (c__law_none : PySem.W.codeIn K cd__law_none "_law_none" = true) (k__law_none : PySem.W.keepIn K (.ref f__law_none) = true)
    {f__law_opened : Addr} {oc__law_opened kV__law_opened dc__law_opened pm__law_opened cd__law_opened ct__law_opened : Value} {od__law_opened an__law_opened : Option Addr} {sl__law_opened : Array (Option Value)} (a__law_opened : PySem.W.nsIn K mainGlobals "_law_opened" = some (some (.ref f__law_opened))) (l__law_opened : K.lookup f__law_opened = some ⟨oc__law_opened, od__law_opened, .func (PySem.W.fnOf "_law_opened" "_law_opened" (defArgs s_law_opened) (defBody s_law_opened) (defScope s_law_opened) .none kV__law_opened dc__law_opened pm__law_opened an__law_opened cd__law_opened ct__law_opened), sl__law_opened⟩) (c__law_opened : PySem.W.codeIn K cd__law_opened "_law_opened" = true) (k__law_opened : PySem.W.keepIn K (.ref f__law_opened) = true)
    {f__law_no_name : Addr} {oc__law_no_name kV__law_no_name dc__law_no_name pm__law_no_name cd__law_no_name ct__law_no_name : Value} {od__law_no_name an__law_no_name : Option Addr} {sl__law_no_name : Array (Option Value)} (a__law_no_name : PySem.W.nsIn K mainGlobals "_law_no_name" = some (some (.ref f__law_no_name))) (l__law_no_name : K.lookup f__law_no_name = some ⟨oc__law_no_name, od__law_no_name, .func (PySem.W.fnOf "_law_no_name" "_law_no_name" (defArgs s_law_no_name) (defBody s_law_no_name) (defScope s_law_no_name) .none kV__law_no_name dc__law_no_name pm__law_no_name an__law_no_name cd__law_no_name ct__law_no_name), sl__law_no_name⟩) (c__law_no_name : PySem.W.codeIn K cd__law_no_name "_law_no_name" = true) (k__law_no_name : PySem.W.keepIn K (.ref f__law_no_name) = true)
    {f__law_is_name : Addr} {oc__law_is_name kV__law_is_name dc__law_is_name pm__law_is_name cd__law_is_name ct__law_is_name : Value} {od__law_is_name an__law_is_name : Option Addr} {sl__law_is_name : Array (Option Value)} (a__law_is_name : PySem.W.nsIn K mainGlobals "_law_is_name" = some (some (.ref f__law_is_name))) (l__law_is_name : K.lookup f__law_is_name = some ⟨oc__law_is_name, od__law_is_name, .func (PySem.W.fnOf "_law_is_name" "_law_is_name" (defArgs s_law_is_name) (defBody s_law_is_name) (defScope s_law_is_name) .none kV__law_is_name dc__law_is_name pm__law_is_name an__law_is_name cd__law_is_name ct__law_is_name), sl__law_is_name⟩) (c__law_is_name : PySem.W.codeIn K cd__law_is_name "_law_is_name" = true) (k__law_is_name : PySem.W.keepIn K (.ref f__law_is_name) = true)
    {f__law_classes : Addr} {oc__law_classes kV__law_classes dc__law_classes pm__law_classes cd__law_classes ct__law_classes : Value} {od__law_classes an__law_classes : Option Addr} {sl__law_classes : Array (Option Value)} (a__law_classes : PySem.W.nsIn K mainGlobals "_law_classes" = some (some (.ref f__law_classes))) (l__law_classes : K.lookup f__law_classes = some ⟨oc__law_classes, od__law_classes, .func (PySem.W.fnOf "_law_classes" "_law_classes" (defArgs s_law_classes) (defBody s_law_classes) (defScope s_law_classes) .none kV__law_classes dc__law_classes pm__law_classes an__law_classes cd__law_classes ct__law_classes), sl__law_classes⟩) (c__law_classes : PySem.W.codeIn K cd__law_classes "_law_classes" = true) (k__law_classes : PySem.W.keepIn K (.ref f__law_classes) = true)
    {f__law_listed : Addr} {oc__law_listed kV__law_listed dc__law_listed pm__law_listed cd__law_listed ct__law_listed : Value} {od__law_listed an__law_listed : Option Addr} {sl__law_listed : Array (Option Value)} (a__law_listed : PySem.W.nsIn K mainGlobals "_law_listed" = some (some (.ref f__law_listed))) (l__law_listed : K.lookup f__law_listed = some ⟨oc__law_listed, od__law_listed, .func (PySem.W.fnOf "_law_listed" "_law_listed" (defArgs s_law_listed) (defBody s_law_listed) (defScope s_law_listed) .none kV__law_listed dc__law_listed pm__law_listed an__law_listed cd__law_listed ct__law_listed), sl__law_listed⟩) (c__law_listed : PySem.W.codeIn K cd__law_listed "_law_listed" = true) (k__law_listed : PySem.W.keepIn K (.ref f__law_listed) = true)
    {f__law : Addr} {oc__law kV__law dc__law pm__law cd__law ct__law : Value} {od__law an__law : Option Addr} {sl__law : Array (Option Value)} (a__law : PySem.W.nsIn K mainGlobals "law" = some (some (.ref f__law))) (l__law : K.lookup f__law = some ⟨oc__law, od__law, .func (PySem.W.fnOf "law" "law" (defArgs s_law) (defBody s_law) (defScope s_law) .none kV__law dc__law pm__law an__law cd__law ct__law), sl__law⟩) (c__law : PySem.W.codeIn K cd__law "law" = true) (k__law : PySem.W.keepIn K (.ref f__law) = true)
    (nm_mk : PySem.W.nsIn K mainGlobals mkrN = some none) (hm : RunsTrue N_law.length m_law) :
    LawT PySem.Challenge.pw_dyevats_k21_two_houses w K 8 mg fa h := by
  have e := hfa.symm.trans (PySem.W.mg_of X G a__law)
  cases e
  have hb := blt_of X G hblt
  have T : ∀ base : Heap, Txt PySem.Challenge.pw_dyevats_k21_two_houses w K mg base := fun base =>
    { b := hb,
      E := errF_of (E := [(("DyeError", []), C0), (("BadName", ["name"]), C1), (("UnknownName", ["name"]), C2), (("BadNumber", ["number"]), C3)]) ⟨PySem.W.mg_of X G n0, PySem.W.mg_of X G n1, PySem.W.mg_of X G n2, PySem.W.mg_of X G n3, True.intro⟩ hE,
      nbd := PySem.W.mg_none_of X G hnbd,
      nbl := PySem.W.mg_none_of X G hnbl,
      C := clsO_of (E := [(("House", ["vats", "deeds"]), Cc0)]) ⟨PySem.W.mg_of X G nc0, True.intro⟩ hcl,
      gDIGITS := ⟨_, PySem.W.mg_of X G gs_DIGITS⟩,
      gLETTERS := ⟨_, PySem.W.mg_of X G gs_LETTERS⟩,
      eBadName := er_BadName (initT_of (PySem.W.mg_of X G n1) (hb.at "super") x1 bm_1 y1 m1 ce1 hc1 e1 rfl rfl (fun us hl => by obtain ⟨_, _, rfl⟩ := len2 hl; rfl)),
      eBadNumber := er_BadNumber (initT_of (PySem.W.mg_of X G n3) (hb.at "super") x3 bm_3 y3 m3 ce3 hc3 e3 rfl rfl (fun us hl => by obtain ⟨_, _, rfl⟩ := len2 hl; rfl)),
      eUnknownName := er_UnknownName (initT_of (PySem.W.mg_of X G n2) (hb.at "super") x2 bm_2 y2 m2 ce2 hc2 e2 rfl rfl (fun us hl => by obtain ⟨_, _, rfl⟩ := len2 hl; rfl)),
      t_law_row := fnT_of X G a__law_row l__law_row c__law_row k__law_row (fun _ _ _ _ _ _ us hl => by obtain ⟨_, _, _, rfl⟩ := len3 hl; rfl),
      t_law_names := fnT_of X G a__law_names l__law_names c__law_names k__law_names (fun _ _ _ _ _ _ us hl => by obtain ⟨_, _, rfl⟩ := len2 hl; rfl),
      t_law_cell := fnT_of X G a__law_cell l__law_cell c__law_cell k__law_cell (fun _ _ _ _ _ _ us hl => by obtain ⟨_, _, rfl⟩ := len2 hl; rfl),
      t_law_rows := fnT_of X G a__law_rows l__law_rows c__law_rows k__law_rows (fun _ _ _ _ _ _ us hl => by obtain ⟨_, _, _, _, rfl⟩ := len4 hl; rfl),
      t_valid_name := fnT_of X G a__valid_name l__valid_name c__valid_name k__valid_name (fun _ _ _ _ _ _ us hl => by obtain ⟨_, rfl⟩ := len1 hl; rfl),
      t_House___init__ := fnI_of (h := h) (PySem.W.mg_of X G nc0) me__House___init__ l__House___init__ c__House___init__ (fun _ _ _ _ _ _ us hl => by obtain ⟨_, _, rfl⟩ := len2 hl; rfl),
      t_law_units := fnT_of X G a__law_units l__law_units c__law_units k__law_units (fun _ _ _ _ _ _ us hl => by obtain ⟨_, rfl⟩ := len1 hl; rfl),
      t_law_level := fnT_of X G a__law_level l__law_level c__law_level k__law_level (fun _ _ _ _ _ _ us hl => by obtain ⟨_, _, rfl⟩ := len2 hl; rfl),
      t_law_deed := fnT_of X G a__law_deed l__law_deed c__law_deed k__law_deed (fun _ _ _ _ _ _ us hl => by obtain ⟨_, _, _, _, rfl⟩ := len4 hl; rfl),
      t_House_dipped := fnM_of (h := h) (PySem.W.mg_of X G nc0) (cls_of (fs := ["vats", "deeds"]) (List.all_eq_true.mp hcl (("House", ["vats", "deeds"]), Cc0) (by simp))).1 me__House_dipped rfl l__House_dipped c__House_dipped (fun _ _ _ _ _ _ us hl => by obtain ⟨_, rfl⟩ := len1 hl; rfl),
      t_House_ahead := fnM_of (h := h) (PySem.W.mg_of X G nc0) (cls_of (fs := ["vats", "deeds"]) (List.all_eq_true.mp hcl (("House", ["vats", "deeds"]), Cc0) (by simp))).1 me__House_ahead rfl l__House_ahead c__House_ahead (fun _ _ _ _ _ _ us hl => by obtain ⟨_, _, rfl⟩ := len2 hl; rfl),
      t_House_fill := fnM_of (h := h) (PySem.W.mg_of X G nc0) (cls_of (fs := ["vats", "deeds"]) (List.all_eq_true.mp hcl (("House", ["vats", "deeds"]), Cc0) (by simp))).1 me__House_fill rfl l__House_fill c__House_fill (fun _ _ _ _ _ _ us hl => by obtain ⟨_, _, rfl⟩ := len2 hl; rfl),
      t_House_dip := fnMK_of (PySem.W.mg_of X G nc0) (cls_of (fs := ["vats", "deeds"]) (List.all_eq_true.mp hcl (("House", ["vats", "deeds"]), Cc0) (by simp))).1 me__House_dip rfl l__House_dip c__House_dip q__House_dip ⟨_, rfl⟩ rfl (fun _ _ _ _ _ _ us ks h1 h2 => match us, ks, h1, h2 with | [_, _, _], [_], _, _ => ⟨_, _, _, _, _, _, rfl, rfl, rfl⟩) (fun _ _ _ _ _ _ us ks h1 h2 => match us, ks, h1, h2 with | [_, _, _], [_], _, _ => rfl),
      t_law_single := fnT_of X G a__law_single l__law_single c__law_single k__law_single (fun _ _ _ _ _ _ us hl => by obtain ⟨_, _, rfl⟩ := len2 hl; rfl),
      t_law_dipped := fnT_of X G a__law_dipped l__law_dipped c__law_dipped k__law_dipped (fun _ _ _ _ _ _ us hl => by obtain ⟨_, _, rfl⟩ := len2 hl; rfl),
      t_House___iter__ := fnItL_of (PySem.W.mg_of X G nc0) (cls_of (fs := ["vats", "deeds"]) (List.all_eq_true.mp hcl (("House", ["vats", "deeds"]), Cc0) (by simp))).1 ((cls_of (fs := ["vats", "deeds"]) (List.all_eq_true.mp hcl (("House", ["vats", "deeds"]), Cc0) (by simp))).2 "deeds" (by decide)) me__House___iter__ l__House___iter__ c__House___iter__ (fun _ _ _ _ _ _ us hl => by obtain ⟨_, rfl⟩ := len1 hl; rfl) l__House___len__ c__House___len__ (fun _ _ _ _ _ _ us hl => by obtain ⟨_, rfl⟩ := len1 hl; rfl),
      t_law_is_int := fnT_of X G a__law_is_int l__law_is_int c__law_is_int k__law_is_int (fun _ _ _ _ _ _ us hl => by obtain ⟨_, rfl⟩ := len1 hl; rfl),
      t_law_same := fnT_of X G a__law_same l__law_same c__law_same k__law_same (fun _ _ _ _ _ _ us hl => by obtain ⟨_, _, rfl⟩ := len2 hl; rfl),
      t_law_logged := fnT_of X G a__law_logged l__law_logged c__law_logged k__law_logged (fun _ _ _ _ _ _ us hl => by obtain ⟨_, _, rfl⟩ := len2 hl; rfl),
      t_law_own := fnT_of X G a__law_own l__law_own c__law_own k__law_own (fun _ _ _ _ _ _ us hl => by obtain ⟨_, _, _, rfl⟩ := len3 hl; rfl),
      t_law_none := fnT_of X G a__law_none l__law_none c__law_none k__law_none (fun _ _ _ _ _ _ us hl => by obtain ⟨_, _, rfl⟩ := len2 hl; rfl),
      t_law_opened := fnT_of X G a__law_opened l__law_opened c__law_opened k__law_opened (fun _ _ _ _ _ _ us hl => by obtain ⟨_, rfl⟩ := len1 hl; rfl),
      t_law_no_name := fnT_of X G a__law_no_name l__law_no_name c__law_no_name k__law_no_name (fun _ _ _ _ _ _ us hl => by obtain ⟨_, _, rfl⟩ := len2 hl; rfl),
      t_law_is_name := fnT_of X G a__law_is_name l__law_is_name c__law_is_name k__law_is_name (fun _ _ _ _ _ _ us hl => by obtain ⟨_, rfl⟩ := len1 hl; rfl),
      t_law_classes := fnT_of X G a__law_classes l__law_classes c__law_classes k__law_classes (fun _ _ _ _ _ _ us hl => by obtain ⟨_, rfl⟩ := len1 hl; rfl),
      t_law_listed := fnT_of X G a__law_listed l__law_listed c__law_listed k__law_listed (fun _ _ _ _ _ _ us hl => by obtain ⟨_, _, _, rfl⟩ := len3 hl; rfl),
      t_law := fnT_of X G a__law l__law c__law k__law (fun _ _ _ _ _ _ us hl => by obtain ⟨_, rfl⟩ := len1 hl; rfl) }
  refine lawT_none X G nm_mk (fun s u => ?_) fun base _ _ => law_fn (fn_v (fun_mk (st := s_law) l__law c__law k__law) sc_law (fun cdv A outer s H E hr => v_law (T base) (k_law_row (T base)) (k_law_names (T base)) (k_law_cell (T base)) (k_law_rows (T base)) (k_House___init__ (T base)) (k_law_deed (T base)) (k_House_dipped (T base)) (k_law_single (T base)) (k_law_own (T base)) (k_law_none (T base)) (k_law_listed (T base)) _ cdv A outer s H E hr)) hm
  exact .of_eq rfl
end Kw
namespace Kw
open PySem PySem.Spec PyProof.Rows L2 VL
local macro_rules | `(tactic| walk_at "s") => `(tactic| (rw [wS_seq]; generalize hK : seqK _ _ _ = K; simp [mulOk_lit]; subst hK; try rw [seqK_next]))
local macro_rules | `(tactic| walk_at "if") => `(tactic| (rw [wS_seq, wS_if]; generalize hK : seqK _ _ _ = K; simp [mulOk_lit, wS_seq, wS_if]; (try simp only [joinA, joinB, joinK K, and_assoc]); (try simp); subst hK; try rw [seqK_next]))
local macro_rules | `(tactic| walk_at "for") => `(tactic| (rw [wS_seq, wS_for]; generalize hK : seqK _ _ _ = K; simp [mulOk_lit]; subst hK))
local macro_rules | `(tactic| walk_at "s*") => `(tactic| (rw [wS_seq]; generalize hK : seqK _ _ _ = K; simp [mulOk_lit, *]; subst hK; try rw [seqK_next]))
local macro_rules | `(tactic| walk_at "if*") => `(tactic| (rw [wS_seq, wS_if]; generalize hK : seqK _ _ _ = K; simp [mulOk_lit, *]; (try simp only [joinA, joinB, joinK K, and_assoc]); (try simp); subst hK; try rw [seqK_next]))
local macro_rules | `(tactic| walk_at "gs") => `(tactic| repeat refine And.intro (by omega) ?_)
@[simp] theorem lit_0 : Str.ofString "z" = tS [122] := by decide +kernel
def LET : List Nat := [97, 98, 99, 100, 101, 102, 103, 104, 105, 106, 107, 108, 109, 110, 111, 112, 113, 114, 115, 116, 117, 118, 119, 120, 121, 122]
@[simp] theorem lit_LET : Str.ofString "abcdefghijklmnopqrstuvwxyz" = tS LET := by decide +kernel
@[simp] theorem len_LET : LET.length = 26 := (rfl)
def DIG : List Nat := [48, 49, 50, 51, 52, 53, 54, 55, 56, 57]
@[simp] theorem lit_DIG : Str.ofString "0123456789" = tS DIG := by decide +kernel
@[simp] theorem len_DIG : DIG.length = 10 := (rfl)
@[simp] theorem lit_w_dip : Str.ofString "dip" = tS [100, 105, 112] := by decide +kernel
@[simp] theorem lit_w_fill : Str.ofString "fill" = tS [102, 105, 108, 108] := by decide +kernel
@[simp] theorem lit_w_vat : Str.ofString "vat" = tS [118, 97, 116] := by decide +kernel
@[simp] theorem lit_w_cloth : Str.ofString "cloth" = tS [99, 108, 111, 116, 104] := by decide +kernel
@[simp] theorem lit_w_least : Str.ofString "least" = tS [108, 101, 97, 115, 116] := by decide +kernel
@[simp] theorem lit_w_most : Str.ofString "most" = tS [109, 111, 115, 116] := by decide +kernel
@[simp] theorem lit_w_near : Str.ofString "near" = tS [110, 101, 97, 114] := by decide +kernel
@[simp] theorem lit_w_darker : Str.ofString "darker" = tS [100, 97, 114, 107, 101, 114] := by decide +kernel
@[simp] theorem lit_w_fillings : Str.ofString "fillings" = tS [102, 105, 108, 108, 105, 110, 103, 115] := by decide +kernel
@[simp] theorem lit_w_always : Str.ofString "always" = tS [97, 108, 119, 97, 121, 115] := by decide +kernel
@[simp] theorem lit_w_none : Str.ofString "none" = tS [110, 111, 110, 101] := by decide +kernel
@[simp] theorem lit_w_levels : Str.ofString "levels" = tS [108, 101, 118, 101, 108, 115] := by decide +kernel
@[simp] theorem lit_empty : Str.ofString "" = tS [] := by decide +kernel
@[simp] theorem lit_w_nothing : Str.ofString "nothing" = tS [110, 111, 116, 104, 105, 110, 103] := by decide +kernel
@[simp] theorem lit_w_name : Str.ofString "name" = tS [110, 97, 109, 101] := by decide +kernel
@[simp] theorem lit_w_house : Str.ofString "house" = tS [104, 111, 117, 115, 101] := by decide +kernel
def BSG : List Nat := [32, 33, 34, 35, 36, 38, 39, 40, 41, 42, 43, 44, 45, 46, 47, 58, 59, 60, 61, 62, 63, 64, 65, 66, 67, 68, 69, 70, 71, 72, 73, 74, 75, 76, 77, 78, 79, 80, 81, 82, 83, 84, 85, 86, 87, 88, 89, 90, 91, 92, 93, 94, 95, 96, 123, 124, 125, 126]
@[simp] theorem lit_BSG : Str.ofString " !\"#$&'()*+,-./:;<=>?@ABCDEFGHIJKLMNOPQRSTUVWXYZ[\\]^_`{|}~" = tS BSG := by decide +kernel
@[simp] theorem len_BSG : BSG.length = 58 := (rfl)
@[simp] theorem lit_20 : Str.ofString "a" = tS [97] := by decide +kernel
@[simp] theorem lit_21 : Str.ofString "b" = tS [98] := by decide +kernel
@[simp] theorem lit_22 : Str.ofString "c" = tS [99] := by decide +kernel
@[simp] theorem lit_23 : Str.ofString "d" = tS [100] := by decide +kernel
@[simp] theorem lit_24 : Str.ofString "e" = tS [101] := by decide +kernel
@[simp] theorem lit_25 : Str.ofString "f" = tS [102] := by decide +kernel
@[simp] theorem lit_26 : Str.ofString "g" = tS [103] := by decide +kernel
def nameOk (l : List Nat) : Bool := decide (1 ≤ l.length ∧ l.length ≤ 12) && (match l with | c :: _ => decide (c ∈ LET) | [] => false) && l.all fun c => decide (c ∈ LET ++ DIG)
theorem r_valid {o : O} {k : Kd} {l : List Nat} (h1 : toArg o = .lf k (.str (tS l))) (hl : l.length ≤ 100000) : callM 2 m_valid_name [o] = .ok (ob (nameOk l)) := by
  refine call_ok ?_
  unfold m_valid_name
  simp only [List.map_cons, List.map_nil, h1]
  rw [wS_seq, wS_if]
  simp
  refine ⟨by omega, ?_⟩
  cases l with
  | nil => simp [nameOk]
  | cons c r =>
    simp
    by_cases h12 : r.length + 1 ≤ 12
    · have h12' : (r.length : Int) + 1 ≤ 12 := by omega
      rw [if_pos (show 1 ≤ (r.length : Int) + 1 by omega)]
      simp [h12']
      by_cases hc : c ∈ LET
      · simp [hc]
        refine ⟨by omega, ?_⟩
        unfold nameOk
        rw [decide_eq_true (show 1 ≤ (c :: r).length ∧ (c :: r).length ≤ 12 from ⟨by simp, by simpa using h12⟩)]
        simp [hc]
      · simp [hc, nameOk]
        omega
    · have h12' : ¬ (r.length : Int) + 1 ≤ 12 := by omega
      have hn : nameOk (c :: r) = false := by
        unfold nameOk
        rw [decide_eq_false (by simp; omega)]; rfl
      simp [h12', hn]
theorem nameOk_len {l : List Nat} (h : nameOk l = true) : l.length ≤ 12 := by
  unfold nameOk at h
  simp only [Bool.and_eq_true, decide_eq_true_eq] at h
  exact h.1.1.2
theorem w_row {c n many : Int} {Q : O → Prop} {E : Exn → Prop} (hn : 0 ≤ n) (hn2 : n ≤ 100000) (hm : 0 < many) (hm2 : many.natAbs.log2 < 9000) (k : ∀ xs : List Int, xs.length = n.toNat → (∀ x ∈ xs, 0 ≤ x ∧ x < many) → Q (ol xs)) : wR (callM 7 m_law_row [oi c, oi n, oi many]) Q E := by
  refine wR_mono (call_wp (P := fun o => ∃ xs : List Int, xs.length = n.toNat ∧ (∀ x ∈ xs, 0 ≤ x ∧ x < many) ∧ o = ol xs) ?_) (fun a ⟨c, h1, h2, e⟩ => e ▸ k c h1 h2)
  unfold m_law_row
  walk_at "s"
  walk_at "s"
  walk_at "if"
  walk_at "s"
  walk_at "for"
  refine ⟨by omega, wS_forN (fun j e => ∃ (r1 m1 : Int) (k1 : Option O) (xs : List Int), xs.length = j ∧ (∀ x ∈ xs, 0 ≤ x ∧ x < many) ∧ e = [some (oi c), some (oi n), some (oi many), some (oi r1), some (oi m1), some (ol xs), k1]) ?_ ?_ ?_⟩
  · exact ⟨_, _, none, [], rfl, by simp, rfl⟩
  · rintro j _ hj ⟨r1, m1, k1, xs, rfl, hx, rfl⟩
    have e0 : ∀ z : Int, ∀ x ∈ xs ++ [z % many], 0 ≤ x ∧ x < many := fun z x hx' => by
      rcases List.mem_append.mp hx' with h | h
      · exact hx x h
      · have : x = z % many := by simpa using h
        subst this
        exact ⟨Int.emod_nonneg _ (by omega), Int.emod_lt_of_pos _ hm⟩
    refine ⟨_, setA_ok (by simp), ?_⟩
    unfold b_law_row_1
    walk_at "s"
    rw [wS_if]
    simp
    split
    · walk_at "s"
      simp [hm, hm2]
      exact ⟨by omega, _, _, _, xs ++ [_ % many], by simp, e0 _, rfl, rfl, by rw [List.map_append]; rfl, rfl⟩
    · simp [hm, hm2]
      have hb : 0 ≤ (m1 * 16807 + 40692) % 2147483399 ∧ (m1 * 16807 + 40692) % 2147483399 < 2147483399 := by omega
      exact ⟨mulOk_r (by omega) (by omega), by omega, _, _, _, xs ++ [_ % many], by simp, e0 _, rfl, rfl, by rw [List.map_append]; rfl, rfl⟩
  · rintro _ ⟨r1, m1, k1, xs, h1, hx, rfl⟩
    simp
    exact ⟨xs, h1, hx, rfl⟩
theorem w_cell {ns : List Int} {j : Int} {Q : O → Prop} {E : Exn → Prop} (h : 0 ≤ j) (k : ∀ c : Int, Q (oi c)) : wR (callM 2 m_law_cell [scrD ns, oi j]) Q E := by
  refine wR_mono (call_wp (P := fun o => ∃ c : Int, o = oi c) ?_) (fun a ⟨c, e⟩ => e ▸ k c)
  unfold m_law_cell
  rw [wS_seq, wS_if]
  simp
  intro h2
  obtain ⟨x, _, e, _⟩ := atI_lt h h2
  exact ⟨x, e⟩
@[simp] theorem s_is_int {n : Int} : callM 1 m_law_is_int [oi n] = .ok (ob true) := rfl
@[simp] theorem s_is_int_non : callM 1 m_law_is_int [.lf .fz .non] = .ok (ob false) := rfl
abbrev sDip : List Nat := [100, 105, 112]
abbrev sFill : List Nat := [102, 105, 108, 108]
abbrev chOk (l : List Nat) : Prop := PySem.PyData.strOk (tS l) = true
@[simp] theorem ch_nil : PySem.PyData.strOk (tS []) = true := by rw [strOk_tS]; rfl
@[simp] theorem ch_cons {a : Nat} {l : List Nat} : PySem.PyData.strOk (tS (a :: l)) = (decide (a < 1114112) && PySem.PyData.strOk (tS l)) := by rw [strOk_tS, strOk_tS]; rfl
theorem ch_all {l : List Nat} : chOk l ↔ ∀ c ∈ l, c < 1114112 := by unfold chOk; rw [strOk_tS]; simp
theorem sig_lt : ∀ c ∈ LET ++ DIG, c < 1114112 := by decide
theorem nameOk_ch {l : List Nat} (h : nameOk l = true) : chOk l := by
  unfold nameOk at h
  simp only [Bool.and_eq_true, decide_eq_true_eq, List.all_eq_true] at h
  exact ch_all.mpr fun c hc => sig_lt c (h.2 c hc)
inductive Deed where
  | dip (c v : List Nat) (n : Int)
  | fill (v : List Nat)
def Deed.d : Deed → D
  | .dip c v n => .tup [.str (tS sDip), .str (tS c), .str (tS v), .int n]
  | .fill v => .tup [.str (tS sFill), .str (tS v)]
def Deed.o : Deed → O
  | .dip c v n => .tup [oS sDip, oS c, oS v, oi n]
  | .fill v => .tup [oS sFill, oS v]
@[simp] theorem Deed.d_dip {c v : List Nat} {n : Int} : (Deed.dip c v n).d = .tup [.str (tS sDip), .str (tS c), .str (tS v), .int n] := (rfl)
@[simp] theorem Deed.d_fill {v : List Nat} : (Deed.fill v).d = .tup [.str (tS sFill), .str (tS v)] := (rfl)
@[simp] theorem Deed.o_dip {c v : List Nat} {n : Int} : (Deed.dip c v n).o = .tup [oS sDip, oS c, oS v, oi n] := (rfl)
@[simp] theorem Deed.o_fill {v : List Nat} : (Deed.fill v).o = .tup [oS sFill, oS v] := (rfl)
def Deed.ok : Deed → Prop
  | .dip c v _ => chOk c ∧ chOk v
  | .fill v => chOk v
section
variable {d : Deed} {k : Kd} {n : Nat}
@[simp] theorem Deed.er : d.o.er = d.d := by cases d <;> rfl
@[simp] theorem Deed.imm : d.d.imm = true := by cases d <;> rfl
@[simp] theorem Deed.lfk : lfk k d.d = .lf .fz d.d := by unfold VL.lfk; rw [if_pos Deed.imm]
@[simp] theorem Deed.own : d.o.own = true := by cases d <;> rfl
@[simp] theorem Deed.nof : d.o.no notFz = true := by cases d <;> rfl
@[simp] theorem Deed.notb : d.o.no isTb = true := by cases d <;> rfl
@[simp] theorem Deed.nx : d.o.nx = true := by cases d <;> rfl
theorem Deed.pl (h : d.ok) : d.d.pl (n + 2) = true := by cases d <;> simp [Deed.ok] at h ⊢ <;> simp [h]
end
def LogOk (L : List Deed) : Prop := ∀ d ∈ L, d.ok
abbrev hD (V : List (List Nat)) (L : List Deed) : D := .obj "House" ["vats", "deeds"] [.tup (V.map fun x => D.str (tS x)), .lst (L.map Deed.d)]
abbrev hO (V : List (List Nat)) (L : List Deed) : O := .obj "House" ["vats", "deeds"] [.tup (V.map fun x => oS x), .lst (L.map Deed.o)]
@[simp] theorem fl_vats : clss.fl "House" "vats" = true := by rfl
@[simp] theorem fl_deeds : clss.fl "House" "deeds" = true := by rfl
@[simp] theorem fne_vd : (Str.ofString "vats" = Str.ofString "deeds") = False := eq_false (by decide +kernel)
@[simp] theorem fne_dv : (Str.ofString "deeds" = Str.ofString "vats") = False := eq_false (by decide +kernel)
section
variable {k : Kd} {d0 d1 : D} {o0 o1 : O}
@[simp] theorem fld_vats : gFld clss "vats" (.lf k (.obj "House" ["vats", "deeds"] [d0, d1])) = .ok (lfk k d0) := by simp [gFld]
@[simp] theorem fld_deeds : gFld clss "deeds" (.lf k (.obj "House" ["vats", "deeds"] [d0, d1])) = .ok (lfk k d1) := by simp [gFld]
theorem isObj_h {mn : String} {ds : List D} (h : (["vats", "deeds"].map Str.ofString).contains (Str.ofString mn) = false) : isObj "House" mn (.lf k (.obj "House" ["vats", "deeds"] ds)) = true := by
  show (("House" == "House") && !(["vats", "deeds"].map Str.ofString).contains (Str.ofString mn)) = true
  rw [h]; rfl
theorem isObj_hO {mn : String} {os : List O} (h : (["vats", "deeds"].map Str.ofString).contains (Str.ofString mn) = false) : isObj "House" mn (.obj "House" ["vats", "deeds"] os) = true := by
  show (("House" == "House") && !(["vats", "deeds"].map Str.ofString).contains (Str.ofString mn)) = true
  rw [h]; rfl
@[simp] theorem isObj_ahead {ds : List D} : VL.isObj "House" "ahead" (.lf k (.obj "House" ["vats", "deeds"] ds)) = true := isObj_h (by decide +kernel)
@[simp] theorem isObj_dipped {ds : List D} : VL.isObj "House" "dipped" (.lf k (.obj "House" ["vats", "deeds"] ds)) = true := isObj_h (by decide +kernel)
@[simp] theorem isObj_tally {ds : List D} : VL.isObj "House" "tally" (.lf k (.obj "House" ["vats", "deeds"] ds)) = true := isObj_h (by decide +kernel)
theorem isObj_dipO {os : List O} : VL.isObj "House" "dip" (.obj "House" ["vats", "deeds"] os) = true := isObj_hO (by decide +kernel)
theorem isObj_fillO {os : List O} : VL.isObj "House" "fill" (.obj "House" ["vats", "deeds"] os) = true := isObj_hO (by decide +kernel)
end
def stepA (v : List Nat) (a : Int) : Deed → Int
  | .dip _ w n => if w = v then a + n else a
  | .fill w => if w = v then 0 else a
def ahead (v : List Nat) (L : List Deed) : Int := L.foldl (stepA v) 0
theorem ahead_snoc {v : List Nat} {L : List Deed} {d : Deed} : ahead v (L ++ [d]) = stepA v (ahead v L) d := by unfold ahead; rw [List.foldl_append]; rfl
@[simp] theorem ahead_nil {v : List Nat} : ahead v [] = 0 := (rfl)
@[simp] theorem nx_hO {V : List (List Nat)} {L : List Deed} : (hO V L).nx = true := by
  show O.nxs [O.tup (V.map fun x => oS x), .lst (L.map Deed.o)] = true
  simp [O.nxs_eq, O.nx]
section
variable {o1 o2 o3 : O} {k k1 k2 k3 : Kd} {V : List (List Nat)} {L : List Deed} {v c : List Nat}
theorem r_ahead [KOk k] (h1 : toArg o1 = .lf k (hD V L)) (h2 : toArg o2 = .lf k2 (.str (tS v))) (hv : v ∈ V) (hL : LogOk L) (hc : chOk v) : callM 4 m_House_ahead [o1, o2] = .ok (oi (ahead v L)) := by
  refine call_ok ?_
  unfold m_House_ahead
  simp only [List.map_cons, List.map_nil, h1, h2]
  rw [wS_seq, wS_if]
  generalize hK : seqK _ _ _ = K
  simp [hv]
  subst hK
  rw [seqK_next]
  walk_at "s"
  walk_at "for"
  refine wS_forX L (fun d => setA 3 (.lf .fz d.d)) (by simp) (fun e0 pre e => ∃ z, e = (e0.set 2 (some (oi (ahead v pre)))).set 3 z) ⟨none, rfl⟩ ?_ ?_
  · rintro pre d post _ he ⟨z, rfl⟩
    refine ⟨_, rfl, ?_⟩
    have hd : d.ok := hL d (by rw [he]; simp)
    rw [ahead_snoc]
    unfold b_House_ahead_1
    rw [wS_if]
    cases d with
    | dip c w n =>
      simp [Deed.ok] at hd
      simp [hd, hc, stepA]
      by_cases q : w = v
      · simp [q]
      · simp [q, wS_if]
    | fill w =>
      simp [Deed.ok] at hd
      simp [hd, hc, stepA, wS_if]
      by_cases q : w = v
      · simp [q]
      · simp [q]
  · rintro _ ⟨z, rfl⟩
    simp
theorem r_ahead_ex [KOk k] (h1 : toArg o1 = .lf k (hD V L)) (h2 : toArg o2 = .lf k2 (.str (tS v))) (hv : v ∉ V) : callM 4 m_House_ahead [o1, o2] = .ex ⟨"UnknownName", ["name"], [oS v]⟩ := by
  refine call_raises ?_
  unfold m_House_ahead
  simp only [List.map_cons, List.map_nil, h1, h2]
  rw [wS_seq, wS_if]
  simp [hv]
theorem r_house [KOk k] (h1 : toArg o1 = .lf k (.lst (V.map fun x => D.str (tS x)))) (hn : V.Nodup) (hv : ∀ l ∈ V, nameOk l = true) (hz : V.length ≤ 1000) : makeM "House" 4 m_House___init__ [o1] = .ok (hO V []) := by
  refine make_ok ?_
  unfold m_House___init__
  simp only [List.map_cons, List.map_nil, h1]
  walk_at "s"
  walk_at "for"
  refine wS_forX V (fun l => setA 3 (oS l)) (by simp) (fun e0 pre e => ∃ z, e = (e0.set 2 (some (.lst (pre.map fun x => oS x)))).set 3 z) ⟨none, rfl⟩ ?_ ?_
  · rintro pre l post _ he ⟨z, rfl⟩
    refine ⟨_, rfl, ?_⟩
    have hm : l ∈ V := by rw [he]; simp
    have e := r_valid (o := oS l) (k := .fz) (l := l) rfl (by have := nameOk_len (hv l hm); omega)
    rw [hv l hm] at e
    have hni : l ∉ pre := by
      rw [he, List.nodup_append] at hn
      exact fun q => hn.2.2 l q l (by simp) rfl
    have hl : pre.length ≤ 1000 := by rw [he] at hz; simp at hz; omega
    unfold b_House___init___1
    rw [wS_seq, wS_if]
    generalize hK : seqK _ _ _ = K
    simp [e, hni]
    subst hK
    rw [seqK_next]
    simp
    omega
  · rintro _ ⟨z, rfl⟩
    simp only [List.set_cons_succ, List.set_cons_zero]
    rw [seqK_next, wS_seq, wS_fld0]
    generalize hK : seqK _ _ _ = K
    simp [setFO]
    subst hK
    rw [seqK_next, wS_fld0]
    simp [setFO]
theorem w_dip {u : Int} {Q : O → O → Prop} {E : Exn → O → Prop} (hc : c.length ≤ 1000) (hcv : chOk v) (hL : LogOk L) (hz : L.length ≤ 10000)
    (h : if nameOk c then if v ∈ V then if 1 ≤ u then Q (oi (ahead v L)) (hO V (L ++ [.dip c v u])) else E ⟨"BadNumber", ["number"], [oi u]⟩ (hO V L) else E ⟨"UnknownName", ["name"], [oS v]⟩ (hO V L) else E ⟨"BadName", ["name"], [oS c]⟩ (hO V L)) :
    wS (m_House_dip (startE 5 [hO V L, oS c, oS v, oi u])) (mK Q) (mX E) := by
  have e := r_valid (o := oS c) (k := .fz) (l := c) rfl (by omega)
  unfold m_House_dip
  rw [wS_seq, wS_if]
  generalize hK : seqK _ _ _ = K
  simp [e]
  subst hK
  by_cases h1 : nameOk c = true
  · simp [h1] at h ⊢
    by_cases h2 : v ∈ V
    · simp [h2] at h
      have e2 := r_ahead (o1 := .lf .tb (hD V L)) (o2 := oS v) (k := .bo) (k2 := .fz) (V := V) (L := L) (v := v) (by simp) rfl h2 hL hcv
      walk_at "s*"
      rw [wS_seq, wS_if]
      generalize hK : seqK _ _ _ = K
      simp
      subst hK
      by_cases h3 : 1 ≤ u
      · rw [if_pos h3] at h
        rw [if_neg (by omega), seqK_next, wS_seq]
        generalize hK : seqK _ _ _ = K
        simp
        rw [wX_appAt (i := 0) (p := [1]) (os := L.map Deed.o) (by simp [pFld, pName, getP, O.at, ixF]) (by rfl)]
        simp [setP, O.put, O.kid, O.setKid]
        refine ⟨by omega, ?_⟩
        subst hK
        rw [seqK_next]
        simp [hO] at h ⊢
        exact h
      · rw [if_neg h3] at h
        rw [if_pos (by omega)]
        exact h
    · simp [h2] at h
      have e2 := r_ahead_ex (o1 := .lf .tb (hD V L)) (o2 := oS v) (k := .bo) (k2 := .fz) (V := V) (L := L) (v := v) (by simp) rfl h2
      rw [wS_seq]
      generalize hK : seqK _ _ _ = K
      simp [e2]
      exact h
  · simp [h1] at h ⊢
    exact h
theorem w_fill {Q : O → O → Prop} {E : Exn → O → Prop} (hcv : chOk v) (hL : LogOk L) (hz : L.length ≤ 10000)
    (h : if v ∈ V then Q (oi (ahead v L)) (hO V (L ++ [.fill v])) else E ⟨"UnknownName", ["name"], [oS v]⟩ (hO V L)) :
    wS (m_House_fill (startE 3 [hO V L, oS v])) (mK Q) (mX E) := by
  unfold m_House_fill
  by_cases h2 : v ∈ V
  · simp [h2] at h
    have e2 := r_ahead (o1 := .lf .tb (hD V L)) (o2 := oS v) (k := .bo) (k2 := .fz) (V := V) (L := L) (v := v) (by simp) rfl h2 hL hcv
    walk_at "s*"
    rw [wS_seq]
    generalize hK : seqK _ _ _ = K
    simp
    rw [wX_appAt (i := 0) (p := [1]) (os := L.map Deed.o) (by simp [pFld, pName, getP, O.at, ixF]) (by rfl)]
    simp [setP, O.put, O.kid, O.setKid]
    refine ⟨by omega, ?_⟩
    subst hK
    rw [seqK_next]
    simp [hO] at h ⊢
    exact h
  · simp [h2] at h
    have e2 := r_ahead_ex (o1 := .lf .tb (hD V L)) (o2 := oS v) (k := .bo) (k2 := .fz) (V := V) (L := L) (v := v) (by simp) rfl h2
    rw [wS_seq]
    generalize hK : seqK _ _ _ = K
    simp [e2]
    exact h
end
section
variable {o1 o2 o3 : O} {k k1 k2 k3 : Kd} {V : List (List Nat)} {L : List Deed} {v c : List Nat}
@[simp] theorem gListL_h {d0 : D} {xs : List D} : gListL "House" "deeds" (.lf k (.obj "House" ["vats", "deeds"] [d0, .lst xs])) = gd (xs.length ≤ 16777216) (.ok (.lst (xs.map (lfk k)))) := by
  by_cases h : xs.length ≤ 16777216
  · rw [gd_pos h]; exact gListL_at (by simp) h
  · rw [gd_neg h]
    unfold gListL lstAt
    simp [h]
@[simp] theorem gLenL_h {d0 : D} {xs : List D} : gLenL "House" "deeds" (.lf k (.obj "House" ["vats", "deeds"] [d0, .lst xs])) = gd (xs.length ≤ 16777216) (.ok (oi xs.length)) := by
  by_cases h : xs.length ≤ 16777216
  · rw [gd_pos h]; exact gLenL_at (by simp) h
  · rw [gd_neg h]
    unfold gLenL lstAt
    simp [h]
theorem r_same {d : Deed} (hd : d.ok) : callM 3 m_law_same [.lf .fz d.d, .lf .fz d.d] = .ok (ob true) := by
  refine call_ok ?_
  unfold m_law_same
  simp only [List.map_cons, List.map_nil]
  have hp := Deed.pl (n := 58) hd
  have hi : ∀ n : Int, callM 1 m_law_is_int [oi n] = .ok (ob true) := fun n => s_is_int
  cases d with
  | dip c w n =>
    simp at hp ⊢
    rw [wS_seq, wS_if]
    generalize hK : seqK _ _ _ = K
    simp
    subst hK
    rw [seqK_next]
    walk_at "for"
    refine wS_forNE (fun v j e => ∃ z, e = v.set 2 z) ⟨none, rfl⟩ ?_ ?_
    · rintro j _ hj ⟨z, rfl⟩
      refine ⟨_, rfl, ?_⟩
      unfold b_law_same_1
      rw [wS_if]
      rcases (by omega : j = 0 ∨ j = 1 ∨ j = 2 ∨ j = 3) with rfl | rfl | rfl | rfl <;> simp [hi]
    · rintro _ ⟨z, rfl⟩
      simp [hp]
  | fill w =>
    simp at hp ⊢
    rw [wS_seq, wS_if]
    generalize hK : seqK _ _ _ = K
    simp
    subst hK
    rw [seqK_next]
    walk_at "for"
    refine wS_forNE (fun v j e => ∃ z, e = v.set 2 z) ⟨none, rfl⟩ ?_ ?_
    · rintro j _ hj ⟨z, rfl⟩
      refine ⟨_, rfl, ?_⟩
      unfold b_law_same_1
      rw [wS_if]
      rcases (by omega : j = 0 ∨ j = 1) with rfl | rfl <;> simp [hi]
    · rintro _ ⟨z, rfl⟩
      simp [hp]
theorem r_logged [KOk k1] [KOk k2] (h1 : toArg o1 = .lf k1 (hD V L)) (h2 : toArg o2 = .lf k2 (.lst (L.map Deed.d))) (hL : LogOk L) (hz : L.length ≤ 10000) : callM 4 m_law_logged [o1, o2] = .ok (ob true) := by
  refine call_ok ?_
  unfold m_law_logged
  simp only [List.map_cons, List.map_nil, h1, h2]
  walk_at "s"
  refine ⟨by omega, ?_⟩
  rw [wS_seq, wS_if]
  generalize hK : seqK _ _ _ = K
  simp
  subst hK
  rw [seqK_next]
  simp
  refine ⟨by omega, by omega, ?_⟩
  rw [lcF_ofM (fun _ => ob true) (fun j hj => ?_) (fun _ _ => rfl)]
  · simp
    omega
  · have hj := List.mem_range.mp hj
    rw [List.getElem?_eq_getElem hj]
    simp [r_same (hL _ (List.getElem_mem hj))]
end
def nmB (C : List Nat) (p a s : Nat) : List Nat := if 0 < p then a :: (C.take p ++ s :: C.drop p).drop 1 else C.take p ++ s :: C.drop p
theorem nmB_at {C : List Nat} {p a s : Nat} (hp : p ≤ C.length) : (nmB C p a s)[p]? = some s := by
  have e : (C.take p ++ s :: C.drop p)[p]? = some s := by
    rw [List.getElem?_append_right (by rw [List.length_take]; omega), List.length_take, Nat.min_eq_left hp, Nat.sub_self]; rfl
  unfold nmB
  split
  · rename_i h
    obtain ⟨q, rfl⟩ : ∃ q, p = q + 1 := ⟨p - 1, by omega⟩
    rw [List.getElem?_cons_succ, List.getElem?_drop, Nat.add_comm 1 q]
    exact e
  · exact e
theorem nmB_len {C : List Nat} {p a s : Nat} (hp : p ≤ C.length) : (nmB C p a s).length = C.length + 1 := by
  unfold nmB
  split <;> simp <;> omega
theorem nmB_ok {C : List Nat} {p a s : Nat} (hC : ∀ c ∈ C, c ∈ LET ++ DIG) (ha : a ∈ LET) (hs : s ∈ LET) : (∃ c r, nmB C p a s = c :: r ∧ c ∈ LET) ∧ ∀ c ∈ nmB C p a s, c ∈ LET ++ DIG := by
  have up : ∀ c ∈ LET, c ∈ LET ++ DIG := fun c h => List.mem_append_left _ h
  have all : ∀ c ∈ C.take p ++ s :: C.drop p, c ∈ LET ++ DIG := fun c h => by
    simp only [List.mem_append, List.mem_cons] at h
    rcases h with h | h | h
    · exact hC c (List.mem_of_mem_take h)
    · exact h ▸ up s hs
    · exact hC c (List.mem_of_mem_drop h)
  unfold nmB
  split
  · refine ⟨⟨_, _, rfl, ha⟩, fun c hc => ?_⟩
    rcases List.mem_cons.mp hc with h | h
    · exact h ▸ up a ha
    · exact all c (List.mem_of_mem_drop h)
  · rename_i h
    have : p = 0 := by omega
    subst this
    exact ⟨⟨_, _, rfl, hs⟩, all⟩
def nmW (C : List Nat) (p a : Nat) (w : Int) (s11 s k : Nat) : List Nat := if w = 2 then a :: C.take 6 ++ List.replicate (5 - k) s11 else if w = 1 then nmB C p a s ++ List.replicate (k % 3) 122 else nmB C p a s
theorem nameOk_of {l : List Nat} (h1 : 1 ≤ l.length) (h2 : l.length ≤ 12) (h3 : ∃ c r, l = c :: r ∧ c ∈ LET) (h4 : ∀ c ∈ l, c ∈ LET ++ DIG) : nameOk l = true := by
  obtain ⟨c, r, rfl, hc⟩ := h3
  unfold nameOk
  simp only [Bool.and_eq_true, decide_eq_true_eq, List.all_eq_true]
  exact ⟨⟨⟨h1, h2⟩, hc⟩, h4⟩
theorem nmW_ok {C : List Nat} {p a s s11 k : Nat} {w : Int} (hp : p ≤ C.length) (hl : C.length ≤ 9) (hC : ∀ c ∈ C, c ∈ LET ++ DIG) (ha : a ∈ LET) (hs : s ∈ LET) (h11 : s11 ∈ LET ++ DIG) : nameOk (nmW C p a w s11 s k) = true := by
  have hz2 : (122 : Nat) ∈ LET ++ DIG := by decide
  have hb := nmB_ok (C := C) (p := p) (a := a) (s := s) hC ha hs
  have hbl := nmB_len (C := C) (p := p) (a := a) (s := s) hp
  unfold nmW
  split
  · refine nameOk_of (by simp) (by simp; omega) ⟨_, _, rfl, ha⟩ fun c hc => ?_
    simp only [List.cons_append, List.mem_cons, List.mem_append, List.mem_replicate] at hc
    rcases hc with h | h | h
    · exact h ▸ List.mem_append_left _ ha
    · exact hC c (List.mem_of_mem_take h)
    · exact h.2 ▸ h11
  split
  · obtain ⟨⟨c, r, e, hc⟩, h⟩ := hb
    refine nameOk_of (by simp; omega) (by simp; omega) ⟨c, _, by rw [e]; rfl, hc⟩ fun c hc => ?_
    rcases List.mem_append.mp hc with q | q
    · exact h c q
    · exact (List.mem_replicate.mp q).2 ▸ hz2
  · exact nameOk_of (by omega) (by omega) hb.1 hb.2
theorem LET_at : ∀ n : Fin 26, LET[n.val]? = some (97 + n.val) := by decide
theorem LET_get {x : Int} (h : 0 ≤ x ∧ x < 26) : atI LET x = some (97 + x.toNat) := by
  obtain ⟨n, rfl⟩ : ∃ n : Nat, x = n := ⟨x.toNat, by omega⟩
  rw [atI_cast, Int.toNat_natCast]
  exact LET_at ⟨n, by omega⟩
theorem LET_mem {x : Int} (h : 0 ≤ x ∧ x < 26) : 97 + x.toNat ∈ LET := List.mem_of_getElem? (LET_at ⟨x.toNat, by omega⟩)
def sgK (r : Int) (k : Nat) : Nat := 97 + ((r + 7 * (k : Int)) % 26).toNat
theorem sgK_inj {r : Int} {i j : Nat} (hi : i < 6) (hj : j < 6) (h : sgK r i = sgK r j) : i = j := by
  unfold sgK at h
  omega
theorem nmW_inj {C : List Nat} {p a s11 i j : Nat} {w r : Int} (hp : p ≤ C.length) (hi : i < 6) (hj : j < 6) (h : nmW C p a w s11 (sgK r i) i = nmW C p a w s11 (sgK r j) j) : i = j := by
  unfold nmW at h
  by_cases h2 : w = 2
  · rw [if_pos h2, if_pos h2] at h
    have := congrArg List.length h
    simp at this
    omega
  · rw [if_neg h2, if_neg h2] at h
    refine sgK_inj (r := r) hi hj ?_
    by_cases h1 : w = 1
    · rw [if_pos h1, if_pos h1] at h
      have := congrArg (fun l => l[p]?) h
      rw [List.getElem?_append_left (by rw [nmB_len hp]; omega), List.getElem?_append_left (by rw [nmB_len hp]; omega), nmB_at hp, nmB_at hp] at this
      exact Option.some.inj this
    · rw [if_neg h1, if_neg h1] at h
      have := congrArg (fun l => l[p]?) h
      simp only [nmB_at hp] at this
      exact Option.some.inj this
def nmsW (C : List Nat) (p a : Nat) (w : Int) (s11 : Nat) (r : Int) (j : Nat) : List (List Nat) := (List.range j).map fun i => nmW C p a w s11 (sgK r i) i
theorem nmsW_nodup {C : List Nat} {p a s11 j : Nat} {w r : Int} (hp : p ≤ C.length) (hj : j ≤ 6) : (nmsW C p a w s11 r j).Nodup := by
  unfold nmsW
  rw [List.Nodup, List.pairwise_map]
  refine (List.nodup_range (n := j)).imp_of_mem fun {x y} hx hy ne e => ne ?_
  rw [List.mem_range] at hx hy
  exact nmW_inj hp (by omega) (by omega) e
def sgC (x : Int) : Nat := (LET ++ DIG)[x.toNat]?.getD 0
theorem sgC_get {x : Int} (h : 0 ≤ x ∧ x < 36) : atI (LET ++ DIG) x = some (sgC x) ∧ sgC x ∈ LET ++ DIG := by
  obtain ⟨y, hy, e1, e2⟩ := atI_lt (xs := LET ++ DIG) h.1 (by show x < 36; exact h.2)
  unfold sgC
  rw [e1, e2]
  exact ⟨rfl, hy⟩
theorem join_sg {α : Type} {f : α → Nat} : ∀ {xs : List α}, ((xs.map fun x => tS [f x]).map fun y : Str => y.length).sum = xs.length ∧ ((xs.map fun x => tS [f x]).map fun y : Str => y.cps.toList).flatten = xs.map f
  | [] => ⟨rfl, rfl⟩
  | x :: r => by
    obtain ⟨a, b⟩ := join_sg (f := f) (xs := r)
    rw [List.map_cons, List.map_cons, List.sum_cons, a, List.map_cons, List.flatten_cons, b, List.length_cons, Nat.add_comm]
    exact ⟨rfl, rfl⟩
theorem set_nodup {ns : List (List Nat)} {j : Nat} {x : List Nat} (h : ns.Nodup) (hx : x ∉ ns) : (ns.set j x).Nodup := by
  induction ns generalizing j with
  | nil => simp
  | cons a r ih =>
    rw [List.nodup_cons] at h
    rw [List.mem_cons, not_or] at hx
    cases j with
    | zero => rw [List.set_cons_zero, List.nodup_cons]; exact ⟨hx.2, h.2⟩
    | succ j =>
      rw [List.set_cons_succ, List.nodup_cons]
      refine ⟨fun q => ?_, ih h.2 hx.2⟩
      rcases List.mem_or_eq_of_mem_set q with q | q
      · exact h.1 q
      · exact hx.1 q.symm
def WORDS : List (List Nat) := [[100, 105, 112], [102, 105, 108, 108], [118, 97, 116], [99, 108, 111, 116, 104], [108, 101, 97, 115, 116], [109, 111, 115, 116], [110, 101, 97, 114], [100, 97, 114, 107, 101, 114], [102, 105, 108, 108, 105, 110, 103, 115], [97, 108, 119, 97, 121, 115], [110, 111, 110, 101], [108, 101, 118, 101, 108, 115]]
theorem WORDS_ok : ∀ l ∈ WORDS, nameOk l = true := by decide
theorem w_names {c n : Int} {Q : O → Prop} {E : Exn → Prop} (h1 : 1 ≤ n) (h6 : n ≤ 6) (k : ∀ ns : List (List Nat), ns.length = n.toNat → ns.Nodup → (∀ l ∈ ns, nameOk l = true) → Q (.lst (ns.map fun x => oS x))) : wR (callM 16 m_law_names [oi c, oi n]) Q E := by
  refine wR_mono (call_wp (P := fun o => ∃ ns : List (List Nat), ns.length = n.toNat ∧ ns.Nodup ∧ (∀ l ∈ ns, nameOk l = true) ∧ o = .lst (ns.map fun x => oS x)) ?_) (fun a ⟨F, h1, h2, h3, e⟩ => e ▸ k F h1 h2 h3)
  unfold m_law_names
  walk_at "s"
  walk_at "s"
  walk_at "s"
  walk_at "s"
  walk_at "s"
  refine w_row (by omega) (by omega) (by omega) (by decide) fun R hR hRb => ?_
  simp at hR
  have at_ : ∀ i : Nat, i < 15 → ∃ x, R[i]? = some x ∧ 0 ≤ x ∧ x < 36 := fun i h1 => by
    have e : R[i]? = some R[i] := List.getElem?_eq_getElem (by omega)
    exact ⟨_, e, hRb _ (List.mem_of_getElem? e)⟩
  obtain ⟨r0, e0, b0⟩ := at_ 0 (by omega)
  obtain ⟨r1, e1, b1⟩ := at_ 1 (by omega)
  obtain ⟨r2, e2, b2⟩ := at_ 2 (by omega)
  obtain ⟨r11, e11, b11⟩ := at_ 11 (by omega)
  obtain ⟨r12, e12, b12⟩ := at_ 12 (by omega)
  obtain ⟨r13, e13, b13⟩ := at_ 13 (by omega)
  obtain ⟨r14, e14, b14⟩ := at_ 14 (by omega)
  simp
  rw [wS_seq]
  generalize hK : seqK _ _ _ = K
  simp [e0]
  subst hK
  rw [seqK_next]
  obtain ⟨S, hS, hS0, hS9⟩ : ∃ S : Int, S = r0 % 10 ∧ 0 ≤ S ∧ S ≤ 9 := ⟨_, rfl, by omega, by omega⟩
  rw [← hS]
  rw [wS_seq]
  generalize hK : seqK _ _ _ = K
  simp [e1]
  refine ⟨by omega, ?_⟩
  obtain ⟨p, hp, hp0, hp1⟩ : ∃ p : Int, p = r1 % (S + 1) ∧ 0 ≤ p ∧ p ≤ S := ⟨_, rfl, Int.emod_nonneg _ (by omega), by have := Int.emod_lt_of_pos r1 (show 0 < S + 1 by omega); omega⟩
  rw [← hp]
  subst hK
  rw [seqK_next, wS_seq]
  generalize hK : seqK _ _ _ = K
  simp
  refine ⟨by omega, by omega, ?_⟩
  rw [lcF_ofM (fun x : Nat => oS [sgC ((R[2 + x]?).getD 0)]) (fun x hx => ?_) (fun _ _ => rfl)]
  · simp
    rw [gJoin_nil (ys := (List.range S.toNat).map fun x : Nat => tS [sgC ((R[2 + x]?).getD 0)]) (by simp)]
    rw [join_sg.1, join_sg.2]
    simp
    refine ⟨by omega, ?_⟩
    obtain ⟨C, hC, hC2, hC3⟩ : ∃ C : List Nat, C = (List.range S.toNat).map (fun x : Nat => sgC ((R[2 + x]?).getD 0)) ∧ C.length = S.toNat ∧ ∀ c ∈ C, c ∈ LET ++ DIG := by
      refine ⟨_, rfl, by simp, fun c hc => ?_⟩
      obtain ⟨x, hx, rfl⟩ := List.mem_map.mp hc
      rw [List.mem_range] at hx
      obtain ⟨y, ey, yb⟩ := at_ (2 + x) (by omega)
      rw [ey]
      exact (sgC_get yb).2
    rw [← hC]
    subst hK
    rw [seqK_next]
    have ha := LET_get (x := r2 % 26) (by omega)
    rw [wS_seq]
    generalize hK : seqK _ _ _ = K
    simp [e2, ha]
    subst hK
    rw [seqK_next, wS_seq]
    generalize hK : seqK _ _ _ = K
    simp [e13]
    subst hK
    obtain ⟨w, hw, hw0, hw3⟩ : ∃ w : Int, w = r13 % 4 ∧ 0 ≤ w ∧ w ≤ 3 := ⟨_, rfl, by omega, by omega⟩
    rw [seqK_next, ← hw]
    walk_at "s"
    walk_at "for"
    have hpC : p.toNat ≤ C.length := by omega
    refine ⟨by omega, wS_forNE (fun v j e => ∃ z z2 z3, e = (((v.set 11 (some (.lst ((nmsW C p.toNat (97 + (r2 % 26).toNat) w (sgC r11) r12 j).map fun x => oS x)))).set 12 z).set 13 z2).set 14 z3) ⟨none, none, none, rfl⟩ ?_ ?_⟩
    · rintro j _ hj ⟨z, z2, z3, rfl⟩
      refine ⟨_, rfl, ?_⟩
      have hj6 : j < 6 := by omega
      unfold b_law_names_1
      have hs := LET_get (x := (r12 + 7 * (j : Int)) % 26) (by omega)
      rw [wS_seq]
      generalize hK : seqK _ _ _ = K
      simp [e12, hs]
      subst hK
      rw [seqK_next]
      rw [wS_seq]
      generalize hK : seqK _ _ _ = K
      simp
      rw [cutA_to' hp0, cutA_from' hp0]
      have l1 : (C.take p.toNat).length ≤ 9 := by rw [List.length_take]; omega
      have l2 : (C.drop p.toNat).length ≤ 9 := by rw [List.length_drop]; omega
      refine ⟨by omega, by omega, by omega, by omega, ?_⟩
      subst hK
      rw [seqK_next]
      have hbl := nmB_len (C := C) (p := p.toNat) (a := 97 + (r2 % 26).toNat) (s := sgK r12 j) hpC
      -- the first sign
      refine wS_cut (fun e => e = [some (oi c), some (oi n), some (oS LET), some (oS (LET ++ DIG)), some (.lf .fz (.lst (WORDS.map fun x => D.str (tS x)))), some (.lf .fz (iL R)), some (oi S), some (oi p), some (oS C), some (oS [97 + (r2 % 26).toNat]), some (oi w), some (.lst ((nmsW C p.toNat (97 + (r2 % 26).toNat) w (sgC r11) r12 j).map fun x => oS x)), some (oi j), some (oS [97 + ((r12 + 7 * (j : Int)) % 26).toNat]), some (oS (nmB C p.toNat (97 + (r2 % 26).toNat) (sgK r12 j))), none]) ?_ ?_
      · rw [wS_if]
        unfold nmB sgK
        by_cases h : 0 < p
        · simp [h]
          rw [cutA_from' (by omega)]
          refine ⟨by omega, by simp; omega, ?_⟩
          have : 0 < p.toNat := by omega
          simp [this, WORDS]
        · have : ¬ 0 < p.toNat := by omega
          simp [h, this, WORDS]
      rintro _ rfl
      refine wS_cut (fun e => e = [some (oi c), some (oi n), some (oS LET), some (oS (LET ++ DIG)), some (.lf .fz (.lst (WORDS.map fun x => D.str (tS x)))), some (.lf .fz (iL R)), some (oi S), some (oi p), some (oS C), some (oS [97 + (r2 % 26).toNat]), some (oi w), some (.lst ((nmsW C p.toNat (97 + (r2 % 26).toNat) w (sgC r11) r12 j).map fun x => oS x)), some (oi j), some (oS [97 + ((r12 + 7 * (j : Int)) % 26).toNat]), some (oS (if w = 1 then nmB C p.toNat (97 + (r2 % 26).toNat) (sgK r12 j) ++ List.replicate (j % 3) 122 else nmB C p.toNat (97 + (r2 % 26).toNat) (sgK r12 j))), none]) ?_ ?_
      · rw [wS_if]
        by_cases h : w = 1
        · have e3 : (((j : Int) % 3).toNat) = j % 3 := by omega
          simp [h]
          walk_at "gs"
          rw [e3]
        · simp [h]
      rintro _ rfl
      refine wS_cut (fun e => e = [some (oi c), some (oi n), some (oS LET), some (oS (LET ++ DIG)), some (.lf .fz (.lst (WORDS.map fun x => D.str (tS x)))), some (.lf .fz (iL R)), some (oi S), some (oi p), some (oS C), some (oS [97 + (r2 % 26).toNat]), some (oi w), some (.lst ((nmsW C p.toNat (97 + (r2 % 26).toNat) w (sgC r11) r12 j).map fun x => oS x)), some (oi j), some (oS [97 + ((r12 + 7 * (j : Int)) % 26).toNat]), some (oS (nmW C p.toNat (97 + (r2 % 26).toNat) w (sgC r11) (sgK r12 j) j)), none]) ?_ ?_
      · rw [wS_if]
        unfold nmW
        by_cases h : w = 2
        · have e5 : ((5 : Int) - (j : Int)).toNat = 5 - j := by omega
          have h11 := (sgC_get b11).1
          simp [h, e11, h11]
          rw [show cutA C none (some 6) = C.take 6 from cutA_to_n]
          have l6 : (List.take 6 C).length ≤ 6 := by rw [List.length_take]; omega
          exact ⟨by omega, by omega, by omega, by omega, rfl⟩
        · simp [h]
      rintro _ rfl
      have hfin : nmsW C p.toNat (97 + (r2 % 26).toNat) w (sgC r11) r12 (j + 1) = nmsW C p.toNat (97 + (r2 % 26).toNat) w (sgC r11) r12 j ++ [nmW C p.toNat (97 + (r2 % 26).toNat) w (sgC r11) (sgK r12 j) j] := by unfold nmsW; rw [List.range_succ, List.map_append]; rfl
      have hln : (nmsW C p.toNat (97 + (r2 % 26).toNat) w (sgC r11) r12 j).length = j := by unfold nmsW; simp
      rw [hfin]
      simp [hln, WORDS]
      omega
    · rintro _ ⟨z, z2, z3, rfl⟩
      rw [seqK_next]
      simp only [List.set_cons_succ, List.set_cons_zero]
      obtain ⟨ns, hns⟩ : ∃ ns, ns = nmsW C p.toNat (97 + (r2 % 26).toNat) w (sgC r11) r12 n.toNat := ⟨_, rfl⟩
      have hnl : ns.length = n.toNat := by rw [hns]; unfold nmsW; simp
      have hnd : ns.Nodup := by rw [hns]; exact nmsW_nodup hpC (by omega)
      have hno : ∀ l ∈ ns, nameOk l = true := fun l hl => by
        rw [hns] at hl
        unfold nmsW at hl
        obtain ⟨i, hi, rfl⟩ := List.mem_map.mp hl
        exact nmW_ok hpC (by omega) hC3 (LET_mem (by omega)) (LET_mem (by omega)) (sgC_get b11).2
      rw [← hns]
      rw [wS_seq]
      generalize hK : seqK _ _ _ = K
      simp [e14]
      obtain ⟨l, hl, el, _⟩ := atI_lt (xs := WORDS) (i := r14 % 12) (by omega) (by show r14 % 12 < 12; omega)
      have e' : atI (WORDS.map fun x => D.str (tS x)) (r14 % 12) = some (.str (tS l)) := by rw [atI_map, el]; rfl
      refine ⟨_, e', ?_⟩
      subst hK
      rw [seqK_next, wS_seq, wS_if]
      by_cases h3 : w = 3 ∧ l ∉ ns
      · simp [h3.1, h3.2]
        rw [wS_setIx]
        simp [e11]
        have hj0 : 0 ≤ r11 % n ∧ r11 % n < n := ⟨Int.emod_nonneg _ (by omega), Int.emod_lt_of_pos _ (by omega)⟩
        obtain ⟨j, hj⟩ : ∃ j : Nat, (j : Int) = r11 % n := ⟨(r11 % n).toNat, by omega⟩
        rw [← hj, ixN_nat]
        have hs : (List.map (fun x => oS x) ns).set j (O.lf Kd.fz (D.str (tS l))) = (ns.set j l).map fun x => oS x := by rw [List.map_set]
        refine ⟨by omega, j, by rw [if_pos (by omega)], ?_, ns.set j l, by simp [hnl], set_nodup hnd h3.2, fun m hm => ?_, hs⟩
        · rw [hs, O.owns_eq]
          exact List.all_eq_true.mpr fun o ho => by obtain ⟨x, _, rfl⟩ := List.mem_map.mp ho; rfl
        · rcases List.mem_or_eq_of_mem_set hm with q | q
          · exact hno m q
          · rw [q]; exact WORDS_ok l hl
      · by_cases q : w = 3
        · have q2 : l ∈ ns := by
            by_cases q2 : l ∈ ns
            · exact q2
            · exact absurd ⟨q, q2⟩ h3
          simp [q, q2]
          exact ⟨ns, hnl, hnd, hno, rfl⟩
        · simp [q]
          exact ⟨ns, hnl, hnd, hno, rfl⟩
  · rw [List.mem_range] at hx
    obtain ⟨y, ey, yb⟩ := at_ (2 + x) (by omega)
    rw [show (2 + (x : Int)) = ((2 + x : Nat) : Int) by omega, atI_cast, ey]
    simp [(sgC_get yb).1]
structure Row8 (r0 r1 r2 r3 r4 r5 r6 r7 : Int) : Prop where
  b0 : 0 ≤ r0 ∧ r0 < 12
  b1 : 0 ≤ r1 ∧ r1 < 12
  b2 : 0 ≤ r2 ∧ r2 < 12
  b3 : 0 ≤ r3 ∧ r3 < 12
  b4 : 0 ≤ r4 ∧ r4 < 12
  b5 : 0 ≤ r5 ∧ r5 < 12
  b6 : 0 ≤ r6 ∧ r6 < 12
  b7 : 0 ≤ r7 ∧ r7 < 12
def RowsOk (s : Int) (Rs : List (List Int)) : Prop := ∀ R ∈ Rs, R.length = s.toNat ∧ ∀ x ∈ R, 0 ≤ x ∧ x < 12
theorem RowsOk.snoc {s : Int} {Rs : List (List Int)} {R : List Int} (h : RowsOk s Rs) (h1 : R.length = s.toNat) (h2 : ∀ x ∈ R, 0 ≤ x ∧ x < 12) : RowsOk s (Rs ++ [R]) := fun x hx => by
  rcases List.mem_append.mp hx with q | q
  · exact h x q
  · rw [List.mem_singleton.mp q]; exact ⟨h1, h2⟩
theorem w_rows {ns : List Int} {at_ s f : Int} {Q : O → Prop} {E : Exn → Prop} (ha : 0 ≤ at_ ∧ at_ ≤ 60) (hs : 1 ≤ s ∧ s ≤ 60) (hf : 0 ≤ f ∧ f ≤ 20)
    (k : ∀ Rs : List (List Int), (Rs.length : Int) ≤ f + 12 → RowsOk s Rs → Q (.lst (Rs.map fun R => ol R))) : wR (callM 8 m_law_rows [scrD ns, oi at_, oi s, oi f]) Q E := by
  refine wR_mono (call_wp (P := fun o => ∃ Rs : List (List Int), (Rs.length : Int) ≤ f + 12 ∧ RowsOk s Rs ∧ o = .lst (Rs.map fun R => ol R)) ?_) (fun a ⟨z, q1, q2, e⟩ => e ▸ k z q1 q2)
  unfold m_law_rows
  simp only [List.map_cons, List.map_nil]
  rw [wS_seq]
  generalize hK : seqK _ _ _ = K
  simp
  refine w_cell (by omega) fun c0 => ?_
  have hm : mulOk s f := mulOk_r (by omega) (by omega)
  have hsf : 0 ≤ s * f ∧ s * f ≤ 1200 := ⟨Int.mul_nonneg (by omega) hf.1, by
    have := Int.mul_le_mul hs.2 hf.2 hf.1 (by omega : (0 : Int) ≤ 60)
    omega⟩
  refine ⟨hm, ?_⟩
  refine w_row (by omega) (by omega) (by omega) (by decide) fun R hR hRb => ?_
  simp
  subst hK
  rw [seqK_next]
  walk_at "s"
  obtain ⟨r0, R', rfl⟩ : ∃ r0 r, R = r0 :: r := by
    cases R with
    | nil => simp at hR; omega
    | cons x r => exact ⟨x, r, rfl⟩
  rw [wS_seq, wS_for]
  generalize hK : seqK _ _ _ = K
  simp
  have hq : 0 ≤ (r0 + 15) % (f + 1) ∧ (r0 + 15) % (f + 1) ≤ f := ⟨Int.emod_nonneg _ (by omega), by have := Int.emod_lt_of_pos (r0 + 15) (show 0 < f + 1 by omega); omega⟩
  walk_at "gs"
  refine wS_forNE (fun v j e => ∃ z Rs, Rs.length = j ∧ RowsOk s Rs ∧ e = (v.set 5 (some (.lst (Rs.map fun R => ol R)))).set 6 z) ⟨none, [], rfl, by intro R h; simp at h, rfl⟩ ?_ ?_
  · rintro j _ hj ⟨z, Rs, hl, hRs, rfl⟩
    refine ⟨_, rfl, ?_⟩
    have hj2 : (j : Int) < f := by omega
    have hsj : 0 ≤ s * (j : Int) ∧ s * (j : Int) + s ≤ s * f := ⟨Int.mul_nonneg (by omega) (by omega), by
      have := Int.mul_le_mul_of_nonneg_left (show (j : Int) + 1 ≤ f by omega) (show (0 : Int) ≤ s by omega)
      rw [Int.mul_add, Int.mul_one] at this
      exact this⟩
    have hm2 : mulOk s (j : Int) := mulOk_r (by omega) (by omega)
    unfold b_law_rows_1
    simp [hm2]
    rw [cutA_ft' (by omega) (by omega)]
    refine ⟨by omega, some (oi (j : Int)), Rs ++ [((r0 :: R').drop (1 + s * (j : Int)).toNat).take ((1 + s * (j : Int) + s).toNat - (1 + s * (j : Int)).toNat)], by simp; exact hl, hRs.snoc ?_ ?_, by simp⟩
    · rw [List.length_take, List.length_drop, hR]
      omega
    · intro x hx
      exact hRb x (List.mem_of_mem_drop (List.mem_of_mem_take hx))
  · rintro _ ⟨z, Rs, hl, hRs, rfl⟩
    subst hK
    rw [seqK_next]
    simp only [List.set_cons_succ, List.set_cons_zero]
    rw [wS_seq, wS_for]
    generalize hK : seqK _ _ _ = K
    simp
    obtain ⟨C, hC⟩ : ∃ C : List Int, C = cutA ns (some (at_ + 1)) (some (at_ + 13)) := ⟨_, rfl⟩
    have hCl : C.length ≤ 12 := by
      rw [hC, cutA_ft' (by omega) (by omega), List.length_take]
      omega
    rw [← hC]
    refine wS_forX C (fun x => setA 7 (oi x)) (by simp) (fun v pre e => ∃ z Rs', Rs'.length = Rs.length + pre.length ∧ RowsOk s Rs' ∧ e = (v.set 5 (some (.lst (Rs'.map fun R => ol R)))).set 7 z) ⟨none, Rs, rfl, hRs, rfl⟩ ?_ ?_
    · rintro pre x post _ he ⟨z, Rs', hl', hRs', rfl⟩
      refine ⟨_, rfl, ?_⟩
      have hp : pre.length ≤ 12 := by rw [he] at hCl; simp at hCl; omega
      unfold b_law_rows_2
      simp
      refine w_row (by omega) (by omega) (by omega) (by decide) fun R1 h1 h1b => ?_
      simp
      refine ⟨by omega, some (oi x), Rs' ++ [R1], by simp; omega, hRs'.snoc h1 h1b, by simp⟩
    · rintro _ ⟨z, Rs', hl', hRs', rfl⟩
      subst hK
      rw [seqK_next]
      simp
      exact ⟨Rs', by omega, hRs', rfl⟩
theorem row8 {R : List Int} (h : R.length = 8) (hb : ∀ x ∈ R, 0 ≤ x ∧ x < 12) : ∃ r0 r1 r2 r3 r4 r5 r6 r7, R = [r0, r1, r2, r3, r4, r5, r6, r7] ∧ Row8 r0 r1 r2 r3 r4 r5 r6 r7 := by
  obtain ⟨r0, r1, r2, r3, r4, r5, r6, r7, rfl⟩ := len8 h
  exact ⟨r0, r1, r2, r3, r4, r5, r6, r7, rfl, hb r0 (by simp), hb r1 (by simp), hb r2 (by simp), hb r3 (by simp), hb r4 (by simp), hb r5 (by simp), hb r6 (by simp), hb r7 (by simp)⟩
theorem w_units {o : O} {k : Kd} [KOk k] {r0 r1 r2 r3 r4 r5 r6 r7 : Int} {Q : O → Prop} {E : Exn → Prop} (h1 : toArg o = .lf k (iL [r0, r1, r2, r3, r4, r5, r6, r7])) (hr : Row8 r0 r1 r2 r3 r4 r5 r6 r7)
    (k : ∀ u : Int, 1 ≤ u → u ≤ 40 → Q (oi u)) : wR (callM 1 m_law_units [o]) Q E := by
  refine wR_mono (call_wp (P := fun o => ∃ u : Int, 1 ≤ u ∧ u ≤ 40 ∧ o = oi u) ?_) (fun a ⟨z, q1, q2, e⟩ => e ▸ k z q1 q2)
  have b3 := hr.b3
  unfold m_law_units
  simp only [List.map_cons, List.map_nil, h1]
  rw [wS_seq, wS_if]
  generalize hK : seqK _ _ _ = K
  simp
  by_cases q : r4 % 6 = 5
  · simp [q]
    subst hK
    simp
    omega
  · simp [q]
    subst hK
    rw [seqK_next]
    simp
    omega
abbrev sName : List Nat := [110, 97, 109, 101]
section
variable {k k1 k2 k3 : Kd} {V : List (List Nat)} {L : List Deed} {v c : List Nat}
theorem x_dip {env : VEnv} {i : Nat} {u : Int} {mA : DEnv → R (List O)} {P : O → VEnv → Prop} {E : Exn → VEnv → Prop} (hi : env[i]? = some (some (hO V L))) (hA : mA (dl (env.set i none)) = .ok [oS c, oS v, oi u]) (hc : c.length ≤ 1000) (hcv : chOk v) (hL : LogOk L) (hz : L.length ≤ 10000)
    (h : if nameOk c then if v ∈ V then if 1 ≤ u then P (oi (ahead v L)) (env.set i (some (hO V (L ++ [.dip c v u])))) else E ⟨"BadNumber", ["number"], [oi u]⟩ (env.set i (some (hO V L))) else E ⟨"UnknownName", ["name"], [oS v]⟩ (env.set i (some (hO V L))) else E ⟨"BadName", ["name"], [oS c]⟩ (env.set i (some (hO V L)))) :
    wX (methW "House" "dip" i 5 m_House_dip (List.replicate 3 none) mA env) P E := by
  refine wX_meth1 (by decide) hi isObj_dipO (by simp) ?_
  rw [hA, wR_ok]
  exact ⟨rfl, w_dip hc hcv hL hz h⟩
theorem x_fill {env : VEnv} {i : Nat} {mA : DEnv → R (List O)} {P : O → VEnv → Prop} {E : Exn → VEnv → Prop} (hi : env[i]? = some (some (hO V L))) (hA : mA (dl (env.set i none)) = .ok [oS v]) (hcv : chOk v) (hL : LogOk L) (hz : L.length ≤ 10000)
    (h : if v ∈ V then P (oi (ahead v L)) (env.set i (some (hO V (L ++ [.fill v])))) else E ⟨"UnknownName", ["name"], [oS v]⟩ (env.set i (some (hO V L)))) :
    wX (methW "House" "fill" i 3 m_House_fill [none] mA env) P E := by
  refine wX_meth1 (by decide) hi isObj_fillO (by simp) ?_
  rw [hA, wR_ok]
  exact ⟨rfl, w_fill hcv hL hz h⟩
end
structure HN (V N : List (List Nat)) : Prop where
  ne : V ≠ []
  len : V.length ≤ 5
  n6 : N.length = 6
  ok : ∀ l ∈ N, nameOk l = true
  sub : ∀ l ∈ V, l ∈ N
  nd : V.Nodup
  last : ∃ z, N[5]? = some z ∧ z ∉ V ∧ nameOk z = true
theorem HN.vok {V N : List (List Nat)} (h : HN V N) : ∀ l ∈ V, nameOk l = true := fun l hl => h.ok l (h.sub l hl)
theorem HN.pos {V N : List (List Nat)} (h : HN V N) : 0 < V.length := List.length_pos_iff.mpr h.ne
@[simp] theorem lfk_comp_str {k : Kd} : (lfk k ∘ fun x : List Nat => D.str (tS x)) = fun x => oS x := (rfl)
theorem LogOk.snoc {L : List Deed} {d : Deed} (h : LogOk L) (hd : d.ok) : LogOk (L ++ [d]) := fun x hx => by
  rcases List.mem_append.mp hx with q | q
  · exact h x q
  · rw [List.mem_singleton.mp q]; exact hd
def dipF (L : List Deed) : List (List Nat) := L.foldl (fun a d => match d with
  | .dip c _ _ => if c ∈ a then a else a ++ [c]
  | .fill _ => a) []
theorem dipF_snoc {L : List Deed} {d : Deed} : dipF (L ++ [d]) = match d with
  | .dip c _ _ => if c ∈ dipF L then dipF L else dipF L ++ [c]
  | .fill _ => dipF L := by unfold dipF; rw [List.foldl_append]; rfl
theorem dipF_len {L : List Deed} : (dipF L).length ≤ L.length := by
  have : ∀ L : List Deed, (dipF L.reverse).length ≤ L.length := fun L => by
    induction L with
    | nil => simp [dipF]
    | cons d r ih =>
      rw [List.reverse_cons, dipF_snoc]
      cases d with
      | dip c v n => simp only; split <;> simp <;> omega
      | fill v => simp; omega
  have := this L.reverse
  simpa using this
theorem dipF_ch {L : List Deed} (h : LogOk L) : ∀ l ∈ dipF L, chOk l := by
  have : ∀ L : List Deed, LogOk L → ∀ l ∈ dipF L.reverse, chOk l := fun L => by
    induction L with
    | nil => intro _; simp [dipF]
    | cons d r ih =>
      intro h
      have ih := ih fun d hd => h d (by simp [hd])
      have h0 := h d (by simp)
      rw [List.reverse_cons, dipF_snoc]
      cases d with
      | dip c v n =>
        simp only
        split
        · exact ih
        · intro l hl
          rcases List.mem_append.mp hl with q | q
          · exact ih l q
          · rw [List.mem_singleton.mp q]; exact h0.1
      | fill v => exact ih
  have := this L.reverse (fun d hd => h d (by simpa using hd))
  simpa using this
section
variable {o1 o2 o3 : O} {k k1 k2 k3 : Kd} {V : List (List Nat)} {L : List Deed} {v c : List Nat}
theorem r_hdipped [KOk k1] (h1 : toArg o1 = .lf k1 (hD V L)) (hL : LogOk L) (hz : L.length ≤ 10000) : callM 3 m_House_dipped [o1] = .ok (.lst ((dipF L).map fun x => oS x)) := by
  refine call_ok ?_
  unfold m_House_dipped
  simp only [List.map_cons, List.map_nil, h1]
  walk_at "s"
  walk_at "for"
  refine wS_forX L (fun d => setA 2 (.lf .fz d.d)) (by simp) (fun e0 pre e => ∃ z, e = (e0.set 1 (some (.lst ((dipF pre).map fun x => oS x)))).set 2 z) ⟨none, rfl⟩ ?_ ?_
  · rintro pre d post _ he ⟨z, rfl⟩
    refine ⟨_, rfl, ?_⟩
    have hd : d.ok := hL d (by rw [he]; simp)
    have hl := dipF_len (L := pre)
    have hp : pre.length ≤ 10000 := by rw [he] at hz; simp at hz; omega
    rw [dipF_snoc]
    unfold b_House_dipped_1
    rw [wS_if]
    cases d with
    | dip c w n =>
      simp [Deed.ok] at hd
      simp
      by_cases q : c ∈ dipF pre
      · simp [q]
      · simp [q]; omega
    | fill w =>
      simp
  · rintro _ ⟨z, rfl⟩
    simp
end
section
variable {o1 o2 o3 o4 o5 : O} {k k1 k2 k3 k4 k5 : Kd} {V : List (List Nat)} {L : List Deed} {v c : List Nat}
theorem r_level [KOk k1] (h1 : toArg o1 = .lf k1 (.lst (L.map Deed.d))) (h2 : toArg o2 = .lf k2 (.str (tS v))) (hL : LogOk L) (hv : chOk v) : callM 4 m_law_level [o1, o2] = .ok (oi (ahead v L)) := by
  refine call_ok ?_
  unfold m_law_level
  simp only [List.map_cons, List.map_nil, h1, h2]
  walk_at "s"
  walk_at "for"
  refine wS_forX L (fun d => setA 3 (.lf .fz d.d)) (by simp) (fun e0 pre e => ∃ z, e = (e0.set 2 (some (oi (ahead v pre)))).set 3 z) ⟨none, rfl⟩ ?_ ?_
  · rintro pre d post _ he ⟨z, rfl⟩
    refine ⟨_, rfl, ?_⟩
    have hd : d.ok := hL d (by rw [he]; simp)
    rw [ahead_snoc]
    unfold b_law_level_1
    rw [wS_if]
    cases d with
    | dip c w n =>
      simp [Deed.ok] at hd
      simp [hd, hv, stepA, wS_if]
      by_cases q : w = v
      · simp [q]
      · simp [q]
    | fill w =>
      simp [Deed.ok] at hd
      simp [hd, hv, stepA, wS_if]
      by_cases q : w = v
      · simp [q]
      · simp [q]
  · rintro _ ⟨z, rfl⟩
    simp
end
theorem snocRec {α : Type} {P : List α → Prop} (h0 : P []) (h1 : ∀ L d, P L → P (L ++ [d])) (L : List α) : P L := by
  have : ∀ L : List α, P L.reverse := fun L => by
    induction L with
    | nil => exact h0
    | cons d r ih => rw [List.reverse_cons]; exact h1 _ _ ih
  have := this L.reverse
  rwa [List.reverse_reverse] at this
theorem BSG_no : ∀ c ∈ BSG, c ∉ LET ++ DIG := by decide +kernel
theorem BSG_lt : ∀ c ∈ BSG, c < 1114112 := by decide +kernel
theorem DIG_no : ∀ c ∈ DIG, c ∉ LET := by decide +kernel
theorem not_head {c : Nat} {l : List Nat} (h : c ∉ LET) : nameOk (c :: l) = false := by
  unfold nameOk
  simp [h]
theorem not_sign {l : List Nat} {c : Nat} (h : c ∈ l) (h2 : c ∉ LET ++ DIG) : nameOk l = false := by
  cases hn : nameOk l with
  | false => rfl
  | true =>
    unfold nameOk at hn
    simp only [Bool.and_eq_true, decide_eq_true_eq, List.all_eq_true] at hn
    exact absurd (hn.2 c h) h2
theorem not_long {l : List Nat} (h : 12 < l.length) : nameOk l = false := by
  cases hn : nameOk l with
  | false => rfl
  | true => have := nameOk_len hn; omega
theorem ch_mem {l : List Nat} (h : ∀ c ∈ l, c ∈ LET ++ DIG) : chOk l := ch_all.mpr fun c hc => sig_lt c (h c hc)
theorem w_no_name {o1 o2 : O} {k1 k2 : Kd} [KOk k2] {l : List Nat} {r0 r1 r2 r3 r4 r5 r6 r7 : Int} {Q : O → Prop} {E : Exn → Prop} (h1 : toArg o1 = .lf k1 (.str (tS l))) (h2 : toArg o2 = .lf k2 (iL [r0, r1, r2, r3, r4, r5, r6, r7])) (hl : nameOk l = true) (hr : Row8 r0 r1 r2 r3 r4 r5 r6 r7)
    (k : ∀ z : List Nat, chOk z → z.length ≤ 30 → nameOk z = false → Q (oS z)) : wR (callM 6 m_law_no_name [o1, o2]) Q E := by
  refine wR_mono (call_wp (P := fun o => ∃ z : List Nat, chOk z ∧ z.length ≤ 30 ∧ nameOk z = false ∧ o = oS z) ?_) (fun a ⟨z, q1, q2, q3, e⟩ => e ▸ k z q1 q2 q3)
  have b3 := hr.b3
  have b4 := hr.b4
  have b6 := hr.b6
  have b7 := hr.b7
  have hlen := nameOk_len hl
  have hch := nameOk_ch hl
  have hall : ∀ c ∈ l, c ∈ LET ++ DIG := by
    unfold nameOk at hl
    simp only [Bool.and_eq_true, decide_eq_true_eq, List.all_eq_true] at hl
    exact hl.2
  unfold m_law_no_name
  simp only [List.map_cons, List.map_nil, h1, h2]
  walk_at "s"
  rw [wS_seq]
  generalize hK : seqK _ _ _ = K
  simp
  refine ⟨by omega, ?_⟩
  obtain ⟨p, hp, hp0, hp1⟩ : ∃ p : Int, p = r3 % ((l.length : Int) + 1) ∧ 0 ≤ p ∧ p ≤ l.length := ⟨_, rfl, Int.emod_nonneg _ (by omega), by have := Int.emod_lt_of_pos r3 (show 0 < (l.length : Int) + 1 by omega); omega⟩
  rw [← hp]
  subst hK
  rw [seqK_next]
  walk_at "s"
  rw [wS_seq, wS_if]
  generalize hK : seqK _ _ _ = K
  simp
  by_cases w0 : r4 % 4 = 0 ∧ r6 % 2 = 0
  · simp [w0.1, w0.2]
    subst hK
    simp
    exact ⟨[], ch_nil, by simp, by rfl, rfl⟩
  · by_cases q0 : r4 % 4 = 0
    · have q1 : ¬ r6 % 2 = 0 := fun q => w0 ⟨q0, q⟩
      simp [q0, q1]
      subst hK
      rw [seqK_next, wS_seq, wS_if]
      generalize hK : seqK _ _ _ = K
      simp [q0]
      obtain ⟨d, hd, e1, _⟩ := atI_lt (xs := DIG) (i := r7 % 10) (by omega) (by simp; omega)
      rw [e1]
      simp
      rw [cutA_from_n]
      refine ⟨by omega, by simp; omega, ?_⟩
      subst hK
      simp
      refine ⟨d :: l.tail, ?_, by simp; omega, not_head (DIG_no d hd), rfl⟩
      refine ch_mem fun c hc => ?_
      rcases List.mem_cons.mp hc with h | h
      · exact h ▸ List.mem_append_right _ hd
      · exact hall c (List.mem_of_mem_tail h)
    · simp [q0]
      subst hK
      rw [seqK_next, wS_seq, wS_if]
      generalize hK : seqK _ _ _ = K
      simp [q0]
      subst hK
      rw [seqK_next, wS_seq, wS_if]
      generalize hK : seqK _ _ _ = K
      simp
      by_cases q1 : r4 % 4 = 1
      · simp [q1]
        walk_at "gs"
        subst hK
        simp
        refine ⟨_, ?_, ?_, not_long ?_, rfl⟩
        · refine ch_mem fun c hc => ?_
          rcases List.mem_append.mp hc with h | h
          · exact hall c h
          · rw [(List.mem_replicate.mp h).2]; decide
        · simp; omega
        · simp; omega
      · simp [q1]
        subst hK
        rw [seqK_next, wS_seq]
        generalize hK : seqK _ _ _ = K
        simp
        obtain ⟨d, hd, e1, _⟩ := atI_lt (xs := BSG) (i := (12 * r6 + r7) % 58) (by omega) (by simp; omega)
        rw [e1]
        simp
        subst hK
        simp
        rw [cutA_to' hp0, cutA_from' hp0]
        have l1 : (l.take p.toNat).length ≤ 12 := by rw [List.length_take]; omega
        have l2 : (l.drop p.toNat).length ≤ 12 := by rw [List.length_drop]; omega
        refine ⟨by omega, by omega, by omega, by omega, l.take p.toNat ++ d :: l.drop p.toNat, ?_, by simp; omega, not_sign (c := d) (by simp) (BSG_no d hd), by simp⟩
        refine ch_all.mpr fun c hc => ?_
        simp only [List.mem_append, List.mem_cons] at hc
        rcases hc with h | h | h
        · exact sig_lt c (hall c (List.mem_of_mem_take h))
        · exact h ▸ BSG_lt d hd
        · exact sig_lt c (hall c (List.mem_of_mem_drop h))
def Deed.bad (V : List (List Nat)) : Deed → Bool
  | .dip c v n => !(nameOk c && decide (v ∈ V) && decide (1 ≤ n))
  | .fill v => !decide (v ∈ V)
def Deed.ln : Deed → Prop
  | .dip c _ _ => c.length ≤ 1000
  | .fill _ => True
section
variable {k : Kd} {V : List (List Nat)} {P M : List DB} {Ds : List Deed}
end
section
theorem pys_idx {n : Nat} {x : D} {p : PyData} (hx : x.pl n = true) (ex : x.py = some p) : ∀ {ds : List D} {ps : List PyData}, D.pls n ds = true → D.pys ds = some ps → ps.findIdx? (fun z => PyData.eqv z p) = ds.findIdx? (fun d => decide (d = x))
  | [], ps, _, e => by simp only [D.pys] at e; cases e; rfl
  | d :: ds, ps, h, e => by
    simp only [D.pys] at e
    simp only [D.pls, Bool.and_eq_true] at h
    split at e
    · rename_i q qs e1 e2
      cases e
      rw [List.findIdx?_cons, List.findIdx?_cons, pl_eqv h.1 hx e1 ex, pys_idx hx ex h.2 e2]
    · cases e
theorem gIdxD_pl {o p : O} {x : D} {ds : List D} {j : Nat} (h1 : o.er = .lst ds) (h2 : p.er = x) (hx : x.pl 58 = true) (hd : D.pls 58 ds = true) (hj : ds.findIdx? (fun d => decide (d = x)) = some j) : gIdxD o p = .ok (oi j) := by
  obtain ⟨p1, e1, c1, d1⟩ := pl_py hx
  obtain ⟨ps, e2, c2, d2⟩ := pls_py hd
  have s1 : SeqAt.shaped p1 = true := by unfold SeqAt.shaped; rw [c1, Bool.true_and]; exact decide_eq_true (by omega)
  have s2 : SeqAt.shaped (.list ps) = true := by
    unfold SeqAt.shaped
    rw [show (PyData.list ps).canLay0 = PyData.canLayAll0 ps by simp [PyData.canLay0], c2, Bool.true_and]
    exact decide_eq_true (by simp [PyData.depth]; omega)
  unfold gIdxD
  rw [h1, h2]
  simp only [e2, e1, s1, s2, Bool.and_self, if_true, pys_idx hx e1 hd e2, hj]
end
def Deed.isDip : Deed → Bool
  | .dip _ _ _ => true
  | .fill _ => false
def Deed.cloth : Deed → List Nat
  | .dip c _ _ => c
  | .fill _ => []
def dcs (L : List Deed) : List (List Nat) := (L.filter Deed.isDip).map Deed.cloth
theorem dcs_snoc {L : List Deed} {d : Deed} : dcs (L ++ [d]) = match d with
  | .dip c _ _ => dcs L ++ [c]
  | .fill _ => dcs L := by
  unfold dcs
  cases d <;> simp [List.filter_cons, Deed.isDip, Deed.cloth]
theorem dipF_mem {L : List Deed} {x : List Nat} : x ∈ dipF L ↔ x ∈ dcs L := by
  induction L using snocRec with
  | h0 => simp [dipF, dcs]
  | h1 L d ih =>
    rw [dipF_snoc, dcs_snoc]
    cases d with
    | dip c v n =>
      simp only
      split
      · rename_i h
        constructor
        · intro q; exact List.mem_append_left _ (ih.mp q)
        · intro q
          rcases List.mem_append.mp q with q | q
          · exact ih.mpr q
          · rw [List.mem_singleton.mp q]; exact h
      · simp [ih]
    | fill v => exact ih
theorem idx_app {l : List (List Nat)} {x c : List Nat} (h : x ∈ l) : (l ++ [c]).idxOf x = l.idxOf x := by
  rw [List.idxOf_append, if_pos h]
theorem idx_new {l : List (List Nat)} {c : List Nat} (h : c ∉ l) : (l ++ [c]).idxOf c = l.length := by
  rw [List.idxOf_append, if_neg h]
  simp
theorem dipF_ord {L : List Deed} : (dipF L).Pairwise fun a b => (dcs L).idxOf a < (dcs L).idxOf b := by
  induction L using snocRec with
  | h0 => simp [dipF]
  | h1 L d ih =>
    rw [dipF_snoc, dcs_snoc]
    cases d with
    | dip c v n =>
      simp only
      have old : (dipF L).Pairwise fun a b => (dcs L ++ [c]).idxOf a < (dcs L ++ [c]).idxOf b := ih.imp_of_mem fun {a b} ha hb h => by
        rw [idx_app (dipF_mem.mp ha), idx_app (dipF_mem.mp hb)]
        exact h
      split
      · exact old
      · rename_i h
        rw [List.pairwise_append]
        refine ⟨old, by simp, fun a ha b hb => ?_⟩
        rw [List.mem_singleton.mp hb, idx_app (dipF_mem.mp ha), idx_new fun q => h (dipF_mem.mpr q)]
        exact List.idxOf_lt_length_of_mem (dipF_mem.mp ha)
    | fill v => exact ih
def lastI (l pre : List (List Nat)) : Int := match pre.getLast? with
  | none => -1
  | some y => (l.idxOf y : Int)
theorem lastI_lt {L : List Deed} {pre post : List (List Nat)} {x : List Nat} (h : dipF L = pre ++ x :: post) : lastI (dcs L) pre < ((dcs L).idxOf x : Int) := by
  unfold lastI
  cases e : pre.getLast? with
  | none => simp only; omega
  | some y =>
    have o := dipF_ord (L := L)
    rw [h, List.pairwise_append] at o
    have := o.2.2 y (List.mem_of_getLast? e) x (by simp)
    simp only
    omega
theorem idx_find {l : List (List Nat)} {x : List Nat} (h : x ∈ l) : (l.map fun z => D.str (tS z)).findIdx? (fun d => decide (d = .str (tS x))) = some (l.idxOf x) := by
  rw [List.findIdx?_map]
  induction l with
  | nil => cases h
  | cons a r ih =>
    rw [List.findIdx?_cons, List.idxOf_cons]
    by_cases q : a = x
    · subst q; simp
    · have n1 : ¬ (D.str (tS a) = D.str (tS x)) := fun z => q (tS_inj.mp (D.str.inj z))
      have hr : x ∈ r := by
        rcases List.mem_cons.mp h with z | z
        · exact absurd z.symm q
        · exact z
      have n2 : (a == x) = false := beq_eq_false_iff_ne.mpr q
      simp [n1, n2, ih hr]
section
variable {o1 o2 o3 o4 o5 : O} {k k1 k2 k3 k4 k5 : Kd} {V : List (List Nat)} {L : List Deed} {v c : List Nat}
theorem dcs_ch (hL : LogOk L) : ∀ l ∈ dcs L, chOk l := fun l hl => dipF_ch hL l (dipF_mem.mpr hl)
theorem r_idx {l : List (List Nat)} {x : List Nat} (hl : ∀ z ∈ l, chOk z) (h : x ∈ l) (h1 : o1.er = .lst (l.map fun z => D.str (tS z))) (h2 : o2.er = .str (tS x)) : gIdxD o1 o2 = .ok (oi (l.idxOf x)) := by
  refine gIdxD_pl h1 h2 (by simpa using hl x h) ?_ (idx_find h)
  rw [D.pls_eq]
  simpa using hl
theorem r_dipped [KOk k1] [KOk k2] (h1 : toArg o1 = .lf k1 (hD V L)) (h2 : toArg o2 = .lf k2 (.lst (L.map Deed.d))) (hL : LogOk L) (hz : L.length ≤ 10000) : callM 7 m_law_dipped [o1, o2] = .ok (ob true) := by
  refine call_ok ?_
  unfold m_law_dipped
  simp only [List.map_cons, List.map_nil, h1, h2]
  rw [wS_seq]
  generalize hK : seqK _ _ _ = K
  simp
  refine ⟨by omega, ?_⟩
  rw [lcF_of Deed.isDip (fun d => oS d.cloth) (fun d hd => ?_) (fun d hd hq => ?_) (fun _ _ _ => rfl)]
  · simp
    have e0 : O.lf Kd.fz (D.lst ((L.filter Deed.isDip).map (fun d => D.str (tS d.cloth)))) = .lf .fz (.lst ((dcs L).map fun z => D.str (tS z))) := by
      unfold dcs; rw [List.map_map]; rfl
    subst hK
    rw [seqK_next]
    have e := r_hdipped (o1 := .lf k1 (hD V L)) (k1 := k1) (V := V) (L := L) (by simp) hL hz
    walk_at "s*"
    rw [wS_seq, wS_if]
    generalize hK : seqK _ _ _ = K
    simp
    subst hK
    rw [seqK_next]
    walk_at "s"
    walk_at "for"
    refine wS_forX (dipF L) (fun l => setA 5 (oS l)) (by simp) (fun v0 pre e => ∃ z, e = (v0.set 4 (some (oi (lastI (dcs L) pre)))).set 5 z) ⟨none, rfl⟩ ?_ ?_
    · rintro pre x post _ he ⟨z, rfl⟩
      refine ⟨_, rfl, ?_⟩
      have hm : x ∈ dcs L := dipF_mem.mp (by rw [he]; simp)
      have hx := dcs_ch hL x hm
      have hlt := lastI_lt he
      have hi : ∀ o1 o2 : O, o1.er = .lst ((dcs L).map fun z => D.str (tS z)) → o2.er = .str (tS x) → gIdxD o1 o2 = .ok (oi ((dcs L).idxOf x)) := fun o1 o2 h1 h2 => r_idx (dcs_ch hL) hm h1 h2
      have hl : lastI (dcs L) (pre ++ [x]) = ((dcs L).idxOf x : Int) := by simp [lastI]
      rw [hl]
      unfold b_law_dipped_1
      rw [wS_seq, wS_if]
      generalize hK : seqK _ _ _ = K
      simp [hi, hm]
      rw [if_neg (by omega)]
      subst hK
      rw [seqK_next]
      simp [hi, hm]
    · rintro _ ⟨z, rfl⟩
      simp
      refine ⟨?_, fun x hx => dipF_mem.mpr hx⟩
      have : (dcs L).length ≤ L.length := by unfold dcs; rw [List.length_map]; exact List.length_filter_le _ _
      omega
  · cases d <;> simp [Deed.isDip]
  · cases d <;> simp [Deed.isDip] at hq
    simp [Deed.cloth]
end
structure GoodD (V : List (List Nat)) (d : Deed) : Prop where
  ok : d.ok
  ln : d.ln
  good : d.bad V = false
structure HT (V N : List (List Nat)) : Prop where
  ne : V ≠ []
  len : V.length ≤ 5
  n6 : N.length = 6
  ok : ∀ l ∈ N, nameOk l = true
  sub : ∀ l ∈ V, l ∈ N
  nd : V.Nodup
theorem HT.vok {V N : List (List Nat)} (h : HT V N) : ∀ l ∈ V, nameOk l = true := fun l hl => h.ok l (h.sub l hl)
theorem HT.pos {V N : List (List Nat)} (h : HT V N) : 0 < V.length := List.length_pos_iff.mpr h.ne
abbrev vsD (V : List (List Nat)) : D := .lst (V.map fun z => D.str (tS z))
section
variable {o1 o2 o3 o4 : O} {k1 k2 k3 k4 : Kd} {V N : List (List Nat)} {L : List Deed} {r0 r1 r2 r3 r4 r5 r6 r7 : Int}
theorem good_dip {c v : List Nat} {u : Int} (hc : nameOk c = true) (hv : nameOk v = true) (hm : v ∈ V) (h1 : 1 ≤ u) : GoodD V (.dip c v u) :=
  ⟨⟨nameOk_ch hc, nameOk_ch hv⟩, by have := nameOk_len hc; show c.length ≤ 1000; omega, by simp [Deed.bad, hc, hm, h1]⟩
theorem good_fill {v : List Nat} (hv : nameOk v = true) (hm : v ∈ V) : GoodD V (.fill v) := ⟨nameOk_ch hv, trivial, by simp [Deed.bad, hm]⟩
theorem w_deed [KOk k1] [KOk k2] [KOk k3] [KOk k4] {Q : O → Prop} {E : Exn → Prop} (h1 : toArg o1 = .lf k1 (iL [r0, r1, r2, r3, r4, r5, r6, r7])) (h2 : toArg o2 = .lf k2 (vsD N)) (h3 : toArg o3 = .lf k3 (vsD V)) (h4 : toArg o4 = .lf k4 (.lst (L.map Deed.d)))
    (hr : Row8 r0 r1 r2 r3 r4 r5 r6 r7) (hn : HT V N) (hL : LogOk L) (k : ∀ d : Deed, GoodD V d → Q d.o) : wR (callM 6 m_law_deed [o1, o2, o3, o4]) Q E := by
  refine wR_mono (call_wp (P := fun o => ∃ d : Deed, GoodD V d ∧ o = d.o) ?_) (fun a ⟨z, q1, e⟩ => e ▸ k z q1)
  have hp := hn.pos
  have hvl := hn.len
  have n6 := hn.n6
  have b1 := hr.b1
  have b0 := hr.b0
  obtain ⟨c, hc, ec, _⟩ := atI_lt (xs := N) (i := r1 % 6) (by omega) (by omega)
  obtain ⟨v, hv, ev, _⟩ := atI_lt (xs := V) (i := r2 % (V.length : Int)) (Int.emod_nonneg _ (by omega)) (Int.emod_lt_of_pos _ (by omega))
  have hcok := hn.ok c hc
  have hvok := hn.vok v hv
  have el := r_level (o1 := .lf k4 (.lst (L.map Deed.d))) (o2 := oS v) (k1 := k4) (k2 := .fz) (L := L) (v := v) (by simp) rfl hL (nameOk_ch hvok)
  unfold m_law_deed
  simp only [List.map_cons, List.map_nil, h1, h2, h3, h4]
  rw [wS_seq]
  generalize hK : seqK _ _ _ = K
  simp [ev]
  refine ⟨by omega, ?_⟩
  subst hK
  rw [seqK_next, wS_seq]
  generalize hK : seqK _ _ _ = K
  simp
  refine w_units (k := k1) (by simp) hr fun u hu1 hu40 => ?_
  simp
  subst hK
  rw [seqK_next, wS_seq, wS_if]
  generalize hK : seqK _ _ _ = K
  refine wR_of (a := decide (r0 % 4 = 2) || decide (100 < ahead v L + u)) (by
    by_cases q : r0 % 4 = 2
    · simp [q]
    · simp [q, el]) ?_
  split
  · simp
    subst hK
    simp
    exact ⟨.fill v, good_fill hvok hv, by simp⟩
  · simp
    subst hK
    rw [seqK_next]
    simp [ec]
    exact ⟨.dip c v u, good_dip hcok hvok hv hu1, by simp⟩
end
section
variable {j i n c : Nat} {m : VEnv → RS} {env : VEnv} {os as : List O} {s : O} {sp : List (Option Nat)} {mA : DEnv → R (List O)} {mp : VEnv → Option (Nat × List Nat)} {k : Nat} {P : O → VEnv → Prop} {F : Exn → VEnv → Prop}
theorem wX_callPS (hmp : mp env = some (i, [k])) (hi : env[i]? = some (some (.lst os))) (hk : os[k]? = some s) (hn : O.nos notFz os = true) (hsp : sp.all Option.isNone = true) (hA : mA (dl env) = .ok as) (hl0 : as.length = sp.length) (nt : O.nos isTb as = true)
    (H : wS (m (startE n (s :: as.map toArg))) (mK fun o s' => P o (env.set i (some (.lst (os.set k s'))))) (mX fun x s' => F x (env.set i (some (.lst (os.set k s')))))) : wX (callPS n m mp sp mA env) P F := by
  have hs : s.no notFz = true := by
    rw [O.nos_eq, List.all_eq_true] at hn
    exact hn s (List.mem_of_getElem? hk)
  obtain ⟨e0, he0⟩ : ∃ e0, env.set i none ++ [some s] = e0 := ⟨_, rfl⟩
  have hl : e0[env.length]? = some (some s) := by
    rw [← he0, List.getElem?_append_right (by rw [List.length_set]; exact Nat.le_refl _), List.length_set, Nat.sub_self]
    rfl
  have back : ∀ s', ((e0.set env.length (some s'))[env.length]? = some (some s')) ∧ ((e0.set env.length (some s')).take env.length).set i (some (.lst (os.set k s'))) = env.set i (some (.lst (os.set k s'))) := fun s' => by
    refine ⟨?_, ?_⟩
    · rw [List.getElem?_set_self]
      rw [← he0, List.length_append, List.length_set]
      simp
    · have t : ((env.set i none ++ [some s]).set env.length (some s')).take env.length = env.set i none := by
        rw [List.set_append_right _ _ (by rw [List.length_set]; exact Nat.le_refl _), List.take_append_of_le_length (by rw [List.length_set]; exact Nat.le_refl _), List.take_of_length_le (by rw [List.length_set]; exact Nat.le_refl _)]
      rw [← he0, t, List.set_set]
  have B : wX (callW n m (some env.length :: sp) (fun _ => .ok as) e0) (fun o e => ∃ s', e = e0.set env.length (some s') ∧ P o (env.set i (some (.lst (os.set k s'))))) (fun x e => ∃ s', e = e0.set env.length (some s') ∧ F x (env.set i (some (.lst (os.set k s'))))) := by
    refine wX_call1 (h := s) hsp hl hs ?_
    rw [wR_ok]
    refine ⟨hl0, wS_mono H (fun ct e q => ?_) (fun x e q => ?_)⟩
    · cases ct with
      | next => obtain ⟨h', a1, a2, a3⟩ := q; exact ⟨h', a1, a2, h', rfl, a3⟩
      | ret o => obtain ⟨h', a1, a2, a3, a4⟩ := q; exact ⟨h', a1, a2, a3, h', rfl, a4⟩
      | brk => exact q
      | cont => exact q
    · obtain ⟨h', a1, a2, a3, a4⟩ := q
      exact ⟨h', a1, a2, a3, h', rfl, a4⟩
  have B := B.out
  refine ⟨?_⟩
  unfold callPS
  simp only [hmp]
  have hlo : lentOk sp env = true := by
    unfold lentOk
    rw [List.all_eq_true] at hsp ⊢
    intro q hq
    have := hsp q hq
    cases q with
    | none => rfl
    | some _ => cases this
  rw [if_pos hlo, hA]
  show wX0 (if O.nos isTb as then lendI i k (callW n m (some env.length :: sp) fun _ => .ok as) env else .no) P F
  rw [if_pos nt]
  unfold lendI
  simp only [hi, hk, if_pos hn, he0]
  cases q : callW n m (some env.length :: sp) (fun _ => .ok as) e0 with
  | no => rw [q] at B; exact B
  | ok o e =>
    rw [q] at B
    obtain ⟨s', rfl, hP⟩ := B
    obtain ⟨b1, b2⟩ := back s'
    unfold unlR
    simp only [b1, b2]
    exact hP
  | ex x e =>
    rw [q] at B
    obtain ⟨s', rfl, hP⟩ := B
    obtain ⟨b1, b2⟩ := back s'
    unfold unlR
    simp only [b1, b2]
    exact hP
end
section
variable {o1 o2 o3 : O} {k k1 k2 k3 : Kd} {V : List (List Nat)} {L : List Deed} {d : Deed}
theorem gNe_eq {o p : O} {d : D} (h1 : o.er = d) (h2 : p.er = d) (hp : d.pl 60 = true) : gNe o p = .ok (ob false) := by
  rw [gNe_pl (by rw [h1]; exact hp) (by rw [h2]; exact hp), h1, h2]
  simp
theorem vs_pl (hV : ∀ l ∈ V, chOk l) : (vsD V).pl 60 = true := by
  show D.pls 59 _ = true
  rw [D.pls_eq]
  simpa using hV
theorem ne_vs (hV : ∀ l ∈ V, chOk l) : gNe (.lst (V.map fun x => oS x)) (.lf k (vsD V)) = .ok (ob false) :=
  gNe_eq (d := vsD V) (by simp [O.ers_eq]) rfl (vs_pl hV)
theorem r_own [KOk k1] [KOk k2] [KOk k3] (h1 : toArg o1 = .lf k1 (hD V L)) (h2 : toArg o2 = .lf k2 (vsD V)) (h3 : toArg o3 = .lf k3 (.lst (L.map Deed.d))) (hV : ∀ l ∈ V, chOk l) (hvz : V.length ≤ 1000) (hL : LogOk L) (hz : L.length ≤ 1000) :
    callM 4 m_law_own [o1, o2, o3] = .ok (ob true) := by
  refine call_ok ?_
  unfold m_law_own
  simp only [List.map_cons, List.map_nil, h1, h2, h3]
  have e1 := r_logged (o1 := .lf k1 (hD V L)) (o2 := .lf k3 (.lst (L.map Deed.d))) (k1 := k1) (k2 := k3) (V := V) (L := L) (by simp) (by simp) hL (by omega)
  have e2 := r_dipped (o1 := .lf k1 (hD V L)) (o2 := .lf k3 (.lst (L.map Deed.d))) (k1 := k1) (k2 := k3) (V := V) (L := L) (by simp) (by simp) hL (by omega)
  have e3 := r_hdipped (o1 := .lf k1 (hD V L)) (k1 := k1) (V := V) (L := L) (by simp) hL (by omega)
  have e4 := dipF_len (L := L)
  have hp := ne_vs (k := k2) hV
  rw [wS_seq, wS_if]
  generalize hK : seqK _ _ _ = K
  simp [hp]
  subst hK
  rw [seqK_next, wS_seq, wS_if]
  generalize hK : seqK _ _ _ = K
  simp [e1, e2]
  subst hK
  rw [seqK_next, wS_seq]
  generalize hK : seqK _ _ _ = K
  simp [e3]
  subst hK
  rw [seqK_next, wS_seq]
  generalize hK : seqK _ _ _ = K
  simp
  refine ⟨by omega, ?_⟩
  subst hK
  simp [e2]
end
section
variable {o1 o2 o3 : O} {k k1 k2 k3 : Kd} {V : List (List Nat)} {L : List Deed} {d : Deed}
theorem w_single {Q : O → O → Prop} {E : Exn → O → Prop} (hL : LogOk L) (hz : L.length ≤ 9000) (hd : d.ok) (hln : d.ln) (hb : d.bad V = false) (h : Q (.lf .fz .non) (hO V (L ++ [d]))) :
    wS (m_law_single (startE 2 [hO V L, .lf .fz d.d])) (mK Q) (mX E) := by
  unfold m_law_single
  rw [wS_if]
  cases d with
  | dip c v u =>
    simp only [Deed.ok] at hd
    simp only [Deed.ln] at hln
    simp only [Deed.bad, Bool.not_eq_false', Bool.and_eq_true, decide_eq_true_eq] at hb
    simp [hd]
    refine x_dip (V := V) (L := L) (i := 0) (c := c) (v := v) (u := u) (by rfl) (by simp) hln hd.2 hL (by omega) ?_
    rw [if_pos hb.1.1, if_pos hb.1.2, if_pos hb.2]
    simp
    simpa using h
  | fill v =>
    simp only [Deed.ok] at hd
    simp only [Deed.bad, Bool.not_eq_false', decide_eq_true_eq] at hb
    simp [hd]
    refine x_fill (V := V) (L := L) (i := 0) (v := v) (by rfl) (by simp) hd hL (by omega) ?_
    rw [if_pos hb]
    simp
    simpa using h
end
def rbS (s : List (List Nat) × List (List Nat)) (t : List Nat) : List (List Nat) × List (List Nat) := if nameOk t = true ∧ t ∉ s.1 then (s.1 ++ [t], s.2) else (s.1, s.2 ++ [t])
def rb (T : List (List Nat)) : List (List Nat) × List (List Nat) := T.foldl rbS ([], [])
theorem rb_snoc {T : List (List Nat)} {t : List Nat} : rb (T ++ [t]) = rbS (rb T) t := by unfold rb; rw [List.foldl_append]; rfl
theorem rb_yes {T : List (List Nat)} {t : List Nat} (h : nameOk t = true ∧ t ∉ (rb T).1) : rb (T ++ [t]) = ((rb T).1 ++ [t], (rb T).2) := by rw [rb_snoc, rbS, if_pos h]
theorem rb_no {T : List (List Nat)} {t : List Nat} (h : ¬ (nameOk t = true ∧ t ∉ (rb T).1)) : rb (T ++ [t]) = ((rb T).1, (rb T).2 ++ [t]) := by rw [rb_snoc, rbS, if_neg h]
theorem rb_app {T : List (List Nat)} (U : List (List Nat)) : ∃ r, (rb (T ++ U)).2 = (rb T).2 ++ r := by
  induction U using snocRec with
  | h0 => exact ⟨[], by simp⟩
  | h1 U u ih =>
    obtain ⟨r, e⟩ := ih
    rw [← List.append_assoc]
    by_cases q : nameOk u = true ∧ u ∉ (rb (T ++ U)).1
    · rw [rb_yes q]; exact ⟨r, e⟩
    · rw [rb_no q]; exact ⟨r ++ [u], by rw [e, List.append_assoc]⟩
theorem rb_head {pre post : List (List Nat)} {t : List Nat} (h : (rb pre).2 = []) (ht : ¬ (nameOk t = true ∧ t ∉ (rb pre).1)) : ∃ r, (rb (pre ++ t :: post)).2 = t :: r := by
  obtain ⟨r, e⟩ := rb_app (T := pre ++ [t]) post
  rw [rb_no ht, h] at e
  exact ⟨r, by rw [← List.append_cons] at e; exact e⟩
theorem rb_id {T : List (List Nat)} : (rb T).2 = [] → (rb T).1 = T := by
  induction T using snocRec with
  | h0 => intro _; rfl
  | h1 T t ih =>
    by_cases q : nameOk t = true ∧ t ∉ (rb T).1
    · rw [rb_yes q]; intro h; rw [ih h]
    · rw [rb_no q]; intro h; simp at h
theorem rb_ok (T : List (List Nat)) : (rb T).1.Nodup ∧ ∀ l ∈ (rb T).1, nameOk l = true := by
  induction T using snocRec with
  | h0 => exact ⟨List.nodup_nil, by simp [rb]⟩
  | h1 T t ih =>
    by_cases q : nameOk t = true ∧ t ∉ (rb T).1
    · rw [rb_yes q]
      refine ⟨?_, ?_⟩
      · rw [List.nodup_append]
        exact ⟨ih.1, by simp, fun a ha b hb e => q.2 (by rw [List.mem_singleton] at hb; rw [← hb, ← e]; exact ha)⟩
      · intro l hl
        rcases List.mem_append.mp hl with h | h
        · exact ih.2 l h
        · rw [List.mem_singleton.mp h]; exact q.1
    · rw [rb_no q]; exact ih
theorem rb_len (T : List (List Nat)) : (rb T).1.length ≤ T.length ∧ (rb T).2.length ≤ T.length := by
  induction T using snocRec with
  | h0 => exact ⟨by simp [rb], by simp [rb]⟩
  | h1 T t ih =>
    by_cases q : nameOk t = true ∧ t ∉ (rb T).1
    · rw [rb_yes q]; simp; omega
    · rw [rb_no q]; simp; omega
theorem rb_mem (T : List (List Nat)) : (∀ l ∈ (rb T).1, l ∈ T) ∧ ∀ l ∈ (rb T).2, l ∈ T := by
  induction T using snocRec with
  | h0 => exact ⟨by simp [rb], by simp [rb]⟩
  | h1 T t ih =>
    by_cases q : nameOk t = true ∧ t ∉ (rb T).1
    · rw [rb_yes q]
      refine ⟨fun l hl => ?_, fun l hl => by have := ih.2 l hl; simp [this]⟩
      rcases List.mem_append.mp hl with h | h
      · have := ih.1 l h; simp [this]
      · simp at h; simp [h]
    · rw [rb_no q]
      refine ⟨fun l hl => by have := ih.1 l hl; simp [this], fun l hl => ?_⟩
      rcases List.mem_append.mp hl with h | h
      · have := ih.2 l h; simp [this]
      · simp at h; simp [h]
section
variable {o1 o2 o3 : O} {k k1 k2 k3 : Kd} {V T : List (List Nat)} {t c : List Nat}
theorem house_ex [KOk k] {r : List (List Nat)} (h1 : toArg o1 = .lf k (vsD T)) (hb : (rb T).2 = c :: r) (hz : T.length ≤ 1000) (hl : ∀ l ∈ T, l.length ≤ 1000) : makeM "House" 4 m_House___init__ [o1] = .ex ⟨"BadName", ["name"], [oS c]⟩ := by
  refine make_raises ?_
  unfold m_House___init__
  simp only [List.map_cons, List.map_nil, h1]
  walk_at "s"
  walk_at "for"
  refine wS_forX T (fun l => setA 3 (oS l)) (by simp) (fun e0 pre e => (rb pre).2 = [] ∧ ∃ z, e = (e0.set 2 (some (.lst (pre.map fun x => oS x)))).set 3 z) ⟨rfl, none, rfl⟩ ?_ ?_
  · rintro pre l post _ he ⟨hp, z, rfl⟩
    refine ⟨_, rfl, ?_⟩
    have hm : l ∈ T := by rw [he]; simp
    have e := r_valid (o := oS l) (k := .fz) (l := l) rfl (by have := hl l hm; omega)
    have hpl : pre.length ≤ 1000 := by rw [he] at hz; simp at hz; omega
    have hid := rb_id hp
    unfold b_House___init___1
    rw [wS_seq, wS_if]
    generalize hK : seqK _ _ _ = K
    by_cases q : nameOk l = true ∧ l ∉ (rb pre).1
    · have q2 : l ∉ pre := hid ▸ q.2
      rw [q.1] at e
      simp [e, q2]
      subst hK
      rw [seqK_next]
      simp
      refine ⟨by omega, ?_⟩
      rw [rb_yes q]
      exact hp
    · obtain ⟨r', e'⟩ := rb_head (post := post) hp q
      rw [← he, hb] at e'
      obtain ⟨rfl, _⟩ := List.cons.inj e'
      by_cases q1 : nameOk c = true
      · rw [q1] at e
        have q2 : c ∈ pre := by
          by_cases z : c ∈ pre
          · exact z
          · exact absurd ⟨q1, hid.symm ▸ z⟩ q
        simp [e, q2]
      · rw [Bool.eq_false_iff.mpr q1] at e
        simp [e]
  · rintro _ ⟨hp, _⟩
    rw [hb] at hp
    cases hp
theorem house_ok [KOk k] (h1 : toArg o1 = .lf k (vsD T)) (hb : (rb T).2 = []) (hz : T.length ≤ 1000) : makeM "House" 4 m_House___init__ [o1] = .ok (hO T []) := by
  have e := rb_id hb
  have h := rb_ok T
  rw [e] at h
  exact r_house h1 h.1 h.2 hz
theorem nameOk_iff {l : List Nat} : nameOk l = true ↔ (1 ≤ l.length ∧ l.length ≤ 12) ∧ ∀ i (h : i < l.length), l[i] ∈ LET ∨ (i ≠ 0 ∧ l[i] ∈ DIG) := by
  constructor
  · intro h
    unfold nameOk at h
    simp only [Bool.and_eq_true, decide_eq_true_eq, List.all_eq_true] at h
    refine ⟨h.1.1, fun i hi => ?_⟩
    rcases Nat.eq_zero_or_pos i with rfl | hp
    · cases l with
      | nil => simp at hi
      | cons a r => left; simpa using h.1.2
    · rcases List.mem_append.mp (h.2 l[i] (List.getElem_mem hi)) with q | q
      · exact .inl q
      · exact .inr ⟨by omega, q⟩
  · rintro ⟨h1, h2⟩
    refine nameOk_of h1.1 h1.2 ?_ ?_
    · cases l with
      | nil => simp at h1
      | cons a r =>
        refine ⟨a, r, rfl, ?_⟩
        rcases h2 0 (by simp) with q | q
        · exact q
        · exact absurd rfl q.1
    · intro c hc
      obtain ⟨i, hi, e⟩ := List.getElem_of_mem hc
      rcases h2 i hi with q | q
      · exact List.mem_append_left _ (e ▸ q)
      · exact List.mem_append_right _ (e ▸ q.2)
theorem r_isname (h1 : toArg o1 = .lf k1 (.str (tS t))) (hz : t.length ≤ 1000) : callM 3 m_law_is_name [o1] = .ok (ob (nameOk t)) := by
  refine call_ok ?_
  unfold m_law_is_name
  simp only [List.map_cons, List.map_nil, h1]
  walk_at "s"
  walk_at "for"
  refine ⟨by omega, by omega, ?_⟩
  refine wS_forNE (fun v j e => (∀ i (h : i < t.length), i < j → t[i] ∈ LET ∨ (i ≠ 0 ∧ t[i] ∈ DIG)) ∧ ∃ z, e = v.set 2 z) ?_ ?_ ?_
  · exact ⟨fun i _ h => absurd h (by omega), none, rfl⟩
  · rintro j _ hj ⟨hI, z, rfl⟩
    refine ⟨_, rfl, ?_⟩
    have hj2 : j < t.length := by omega
    have ext : (t[j] ∈ LET ∨ (j ≠ 0 ∧ t[j] ∈ DIG)) → ∀ i (h : i < t.length), i < j + 1 → t[i] ∈ LET ∨ (i ≠ 0 ∧ t[i] ∈ DIG) := fun q i h hi => by
      rcases Nat.lt_or_ge i j with z | z
      · exact hI i h z
      · have : i = j := by omega
        subst this
        exact q
    have bad : ¬ (t[j] ∈ LET ∨ (j ≠ 0 ∧ t[j] ∈ DIG)) → nameOk t = false := fun q => by
      rw [Bool.eq_false_iff]
      exact fun h => q ((nameOk_iff.mp h).2 j hj2)
    have ea : t[j]? = some t[j] := List.getElem?_eq_getElem hj2
    unfold b_law_is_name_1
    rw [wS_if]
    simp [ea]
    refine ⟨by omega, ?_⟩
    by_cases a : t[j] ∈ LET
    · simp only [if_pos a, wR_ok, Bool.false_eq_true, if_false]
      exact ext (.inl a)
    · rw [if_neg a]
      by_cases b : j = 0
      · rw [if_pos b, wR_ok, if_pos rfl]
        exact bad fun q => q.elim a fun q => q.1 b
      · rw [if_neg b, gd_pos (by omega), wR_ok]
        by_cases c : t[j] ∈ DIG
        · simp only [c, decide_true, Bool.not_true, Bool.false_eq_true, if_false]
          exact ext (.inr ⟨b, c⟩)
        · simp only [c, decide_false, Bool.not_false, if_true]
          exact bad fun q => q.elim a fun q => c q.2
  · rintro _ ⟨hI, z, rfl⟩
    simp
    refine ⟨by omega, ?_⟩
    have hall : ∀ i (h : i < t.length), t[i] ∈ LET ∨ (i ≠ 0 ∧ t[i] ∈ DIG) := fun i h => hI i h h
    by_cases a : 1 ≤ t.length
    · rw [if_pos (by omega), wR_ok]
      refine ⟨rfl, rfl, ?_⟩
      by_cases b : t.length ≤ 12
      · rw [nameOk_iff.mpr ⟨⟨a, b⟩, hall⟩, decide_eq_true (by omega)]
      · rw [not_long (by omega), decide_eq_false (by omega)]
    · rw [if_neg (by omega), wR_ok]
      refine ⟨rfl, rfl, ?_⟩
      rw [show nameOk t = false from Bool.eq_false_iff.mpr fun h => a (nameOk_iff.mp h).1.1]
end
section
variable {o1 o2 o3 : O} {k k1 k2 k3 : Kd} {V T : List (List Nat)} {t c : List Nat}
abbrev sHouse : List Nat := [104, 111, 117, 115, 101]
theorem r_opened [KOk k1] (h1 : toArg o1 = .lf k1 (vsD T)) (hb : (rb T).2 = []) (hz : T.length ≤ 1000) : callM 3 m_law_opened [o1] = .ok (.tup [oS sHouse, hO T []]) := by
  refine call_ok ?_
  unfold m_law_opened
  simp only [List.map_cons, List.map_nil, h1]
  have e := house_ok (o1 := .lf k1 (vsD T)) (k := k1) (T := T) (by simp) hb hz
  rw [wS_seq, wS_try]
  generalize hK : seqK _ _ _ = K
  simp [e, errs, Errs.has, Errs.fl, subE]
  subst hK
  simp
theorem r_opened_no [KOk k1] {r : List (List Nat)} (h1 : toArg o1 = .lf k1 (vsD T)) (hb : (rb T).2 = c :: r) (hz : T.length ≤ 1000) (hl : ∀ l ∈ T, l.length ≤ 1000) : callM 3 m_law_opened [o1] = .ok (.tup [oS sName, oS c]) := by
  refine call_ok ?_
  unfold m_law_opened
  simp only [List.map_cons, List.map_nil, h1]
  have e := house_ex (o1 := .lf k1 (vsD T)) (k := k1) (T := T) (by simp) hb hz hl
  rw [wS_seq, wS_try]
  generalize hK : seqK _ _ _ = K
  simp [e, errs, Errs.has, Errs.fl, subE]
  subst hK
  simp
theorem r_classes_no [KOk k1] {r : List (List Nat)} (h1 : toArg o1 = .lf k1 (vsD T)) (hb : (rb T).2 = c :: r) (hz : T.length ≤ 1000) (hl : ∀ l ∈ T, l.length ≤ 1000) : callM 2 m_law_classes [o1] = .ok (.lst [ob true, ob false, ob true]) := by
  refine call_ok ?_
  unfold m_law_classes
  simp only [List.map_cons, List.map_nil, h1]
  have e := house_ex (o1 := .lf k1 (vsD T)) (k := k1) (T := T) (by simp) hb hz hl
  rw [wS_seq, wS_try]
  generalize hK : seqK _ _ _ = K
  simp [e, errs, Errs.has, Errs.fl, subE]
  subst hK
  simp
end
def WOk (T : List (List Nat)) : Prop := ∀ l ∈ T, chOk l ∧ l.length ≤ 30
theorem WOk.app {T U : List (List Nat)} (h1 : WOk T) (h2 : WOk U) : WOk (T ++ U) := fun l hl => (List.mem_append.mp hl).elim (h1 l) (h2 l)
theorem WOk.take {T : List (List Nat)} {n : Nat} (h : WOk T) : WOk (T.take n) := fun l hl => h l (List.mem_of_mem_take hl)
theorem WOk.drop {T : List (List Nat)} {n : Nat} (h : WOk T) : WOk (T.drop n) := fun l hl => h l (List.mem_of_mem_drop hl)
theorem rb_good {T : List (List Nat)} (h1 : T.Nodup) (h2 : ∀ l ∈ T, nameOk l = true) : (rb T).2 = [] := by
  revert h1 h2
  induction T using snocRec with
  | h0 => intro _ _; rfl
  | h1 T t ih =>
    intro h1 h2
    rw [List.nodup_append] at h1
    have h0 := ih h1.1 fun l hl => h2 l (by simp [hl])
    rw [rb_yes ⟨h2 t (by simp), by rw [rb_id h0]; exact fun q => h1.2.2 t q t (by simp) rfl⟩]
    exact h0
theorem gEq_eq {o p : O} {d : D} (h1 : o.er = d) (h2 : p.er = d) (hp : d.pl 60 = true) : gEq o p = .ok (ob true) := by
  rw [gEq_pl (by rw [h1]; exact hp) (by rw [h2]; exact hp), h1, h2]
  simp
section
variable {o1 o2 o3 : O} {k k1 k2 k3 : Kd} {N V T : List (List Nat)} {t c : List Nat} {r0 r1 r2 r3 r4 r5 r6 r7 s0 s1 s2 s3 s4 s5 s6 s7 : Int}
theorem r_listed [KOk k1] [KOk k2] [KOk k3] (h1 : toArg o1 = .lf k1 (vsD N)) (h2 : toArg o2 = .lf k2 (iL [r0, r1, r2, r3, r4, r5, r6, r7])) (h3 : toArg o3 = .lf k3 (iL [s0, s1, s2, s3, s4, s5, s6, s7])) (hN : N.length = 6) (hn : ∀ l ∈ N, nameOk l = true) (hr : Row8 r0 r1 r2 r3 r4 r5 r6 r7) (hs : Row8 s0 s1 s2 s3 s4 s5 s6 s7) :
    callM 12 m_law_listed [o1, o2, o3] = .ok (ob true) := by
  refine call_ok ?_
  unfold m_law_listed
  simp only [List.map_cons, List.map_nil, h1, h2, h3]
  have b0 := hr.b0
  have b1 := hr.b1
  have hNW : WOk N := fun l hl => ⟨nameOk_ch (hn l hl), by have := nameOk_len (hn l hl); omega⟩
  rw [wS_seq]
  generalize hK : seqK _ _ _ = K
  simp
  rw [cutA_from' (by omega)]
  obtain ⟨T0, hT0⟩ : ∃ T0, T0 = N.drop (2 + r0 % 5).toNat := ⟨_, rfl⟩
  rw [← hT0]
  have hT0l : T0.length ≤ 4 := by rw [hT0, List.length_drop, hN]; omega
  have hT0W : WOk T0 := hT0 ▸ hNW.drop
  clear hT0
  subst hK
  rw [seqK_next, wS_seq, wS_for]
  generalize hK : seqK _ _ _ = K
  simp
  refine ⟨by omega, ?_⟩
  refine wS_forNE (fun v j e => ∃ T z4 z5 z6, T.length ≤ 4 + j ∧ WOk T ∧ e = (((v.set 3 (some (.lf .fz (vsD T)))).set 4 z4).set 5 z5).set 6 z6) ⟨T0, none, none, none, by omega, hT0W, rfl⟩ ?_ ?_
  · rintro j _ hj ⟨T, z4, z5, z6, hTl, hTW, rfl⟩
    refine ⟨_, rfl, ?_⟩
    have hj2 : j = 0 ∨ j = 1 := by omega
    obtain ⟨ra, rb', rc, A, B, hra, hrb, hrc, ga, gb, gc, hcA, hcB, hS⟩ : ∃ ra rb' rc : Int, ∃ A B : List Int, (0 ≤ ra ∧ ra < 12) ∧ (0 ≤ rb' ∧ rb' < 12) ∧ (0 ≤ rc ∧ rc < 12) ∧ atI [D.int r0, D.int r1, D.int r2, D.int r3, D.int r4, D.int r5, D.int r6, D.int r7] (2 + 3 * (j : Int)) = some (D.int ra) ∧ atI [D.int r0, D.int r1, D.int r2, D.int r3, D.int r4, D.int r5, D.int r6, D.int r7] (3 + 3 * (j : Int)) = some (D.int rb') ∧ atI [D.int r0, D.int r1, D.int r2, D.int r3, D.int r4, D.int r5, D.int r6, D.int r7] (4 + 3 * (j : Int)) = some (D.int rc) ∧ cutA [D.int s0, D.int s1, D.int s2, D.int s3, D.int s4, D.int s5, D.int s6, D.int s7] (some (j : Int)) none = A.map D.int ∧ cutA [D.int s0, D.int s1, D.int s2, D.int s3, D.int s4, D.int s5, D.int s6, D.int s7] none (some (j : Int)) = B.map D.int ∧ ∃ a0 a1 a2 a3 a4 a5 a6 a7, A ++ B = [a0, a1, a2, a3, a4, a5, a6, a7] ∧ Row8 a0 a1 a2 a3 a4 a5 a6 a7 := by
      rcases hj2 with rfl | rfl
      · exact ⟨r2, r3, r4, [s0, s1, s2, s3, s4, s5, s6, s7], [], hr.b2, hr.b3, hr.b4, rfl, rfl, rfl, rfl, rfl, _, _, _, _, _, _, _, _, rfl, hs⟩
      · exact ⟨r5, r6, r7, [s1, s2, s3, s4, s5, s6, s7], [s0], hr.b5, hr.b6, hr.b7, rfl, rfl, rfl, rfl, rfl, _, _, _, _, _, _, _, _, rfl, ⟨hs.b1, hs.b2, hs.b3, hs.b4, hs.b5, hs.b6, hs.b7, hs.b0⟩⟩
    obtain ⟨a0, a1, a2, a3, a4, a5, a6, a7, hAB, hA⟩ := hS
    have hABl := congrArg List.length hAB
    simp at hABl
    obtain ⟨w, hw, ew, _⟩ := atI_lt (xs := N) (i := ra % 6) (by omega) (by omega)
    have hj3 : (j : Int) ≤ 1 := by omega
    unfold b_law_listed_1
    rw [wS_seq]
    generalize hK2 : seqK _ _ _ = K2
    simp [ga, ew, hcA, hcB]
    refine ⟨by omega, ?_⟩
    refine w_no_name (k1 := .fz) (k2 := .fz) (l := w) (r0 := a0) (r1 := a1) (r2 := a2) (r3 := a3) (r4 := a4) (r5 := a5) (r6 := a6) (r7 := a7) rfl ?_ (hn w hw) hA fun z hz hzl _ => ?_
    · rw [← List.map_append, hAB]
      simp
    simp
    subst hK2
    rw [seqK_next]
    have hjT : (T.length : Int) ≤ 5 := by omega
    refine wS_cut (fun e => ∃ z, chOk z ∧ z.length ≤ 30 ∧ e = [some (.lf k1 (vsD N)), some (.lf k2 (iL [r0, r1, r2, r3, r4, r5, r6, r7])), some (.lf k3 (iL [s0, s1, s2, s3, s4, s5, s6, s7])), some (.lf .fz (vsD T)), some (oi (j : Int)), some (oS z), z6, none, none, none, none, none]) ?_ ?_
    · rw [wS_if]
      simp [gb]
      by_cases q : rb' % 2 = 0
      · simp [q]
        by_cases q2 : 0 < T.length
        · obtain ⟨u, hu, eu, _⟩ := atI_lt (xs := T) (i := ra % (T.length : Int)) (Int.emod_nonneg _ (by omega)) (Int.emod_lt_of_pos _ (by omega))
          simp [q2, ga, eu]
          exact hTW u hu
        · simp [q2]
          exact ⟨hz, hzl⟩
      · simp [q]
        exact ⟨hz, hzl⟩
    rintro _ ⟨z', hz', hzl', rfl⟩
    rw [wS_seq]
    generalize hK2 : seqK _ _ _ = K2
    simp [gc]
    obtain ⟨p, hp, hp0, hp1⟩ : ∃ p : Int, p = rc % ((T.length : Int) + 1) ∧ 0 ≤ p ∧ p ≤ T.length := ⟨_, rfl, Int.emod_nonneg _ (by omega), by have := Int.emod_lt_of_pos rc (show 0 < (T.length : Int) + 1 by omega); omega⟩
    rw [← hp]
    subst hK2
    rw [seqK_next]
    simp
    rw [cutA_to' hp0, cutA_from' hp0]
    have l1 : (T.take p.toNat).length ≤ 5 := by rw [List.length_take]; omega
    have l2 : (T.drop p.toNat).length ≤ 5 := by rw [List.length_drop]; omega
    refine ⟨by omega, by omega, T.take p.toNat ++ z' :: T.drop p.toNat, ?_, ?_, by simp⟩
    · simp; omega
    · refine hTW.take.app fun l hl => ?_
      rcases List.mem_cons.mp hl with h | h
      · subst h; exact ⟨hz', hzl'⟩
      · exact hTW.drop l h
  · rintro _ ⟨T, z4, z5, z6, hTl, hTW, rfl⟩
    subst hK
    rw [seqK_next]
    walk_at "s"
    walk_at "s"
    rw [wS_seq, wS_for]
    generalize hK : seqK _ _ _ = K
    simp
    refine wS_forX T (fun l => setA 9 (oS l)) (by simp) (fun v pre e => ∃ z, e = ((v.set 7 (some (.lst ((rb pre).1.map fun x => oS x)))).set 8 (some (.lst ((rb pre).2.map fun x => oS x)))).set 9 z) ⟨none, rfl⟩ ?_ ?_
    · rintro pre l post _ he ⟨z, rfl⟩
      refine ⟨_, rfl, ?_⟩
      have hm : l ∈ T := by rw [he]; simp
      have hl := hTW l hm
      have hpl : pre.length ≤ 6 := by have := congrArg List.length he; simp at this; omega
      have hbl := rb_len pre
      have e1 := r_isname (o1 := oS l) (k1 := .fz) (t := l) rfl (by omega)
      clear he
      unfold b_law_listed_2
      rw [wS_if]
      by_cases q : nameOk l = true ∧ l ∉ (rb pre).1
      · rw [rb_yes q]
        rw [q.1] at e1
        simp [e1, q.2]
        omega
      · rw [rb_no q]
        by_cases q1 : nameOk l = true
        · rw [q1] at e1
          have q2 : l ∈ (rb pre).1 := by
            by_cases z : l ∈ (rb pre).1
            · exact z
            · exact absurd ⟨q1, z⟩ q
          simp [e1, q2]
          omega
        · rw [Bool.eq_false_iff.mpr q1] at e1
          simp [e1]
          omega
    · rintro _ ⟨z, rfl⟩
      subst hK
      simp only [List.set_cons_succ, List.set_cons_zero]
      rw [seqK_next, wS_seq]
      generalize hK : seqK _ _ _ = K
      simp
      have hTl2 : T.length ≤ 6 := by omega
      obtain ⟨R, hR⟩ : ∃ R, R = (rb T).1 := ⟨_, rfl⟩
      have hRo := rb_ok T
      have hRl := (rb_len T).1
      have hBl := (rb_len T).2
      have hBm := (rb_mem T).2
      have hid := rb_id (T := T)
      rw [← hR] at hRo hRl hid ⊢
      have hg := rb_good hRo.1 hRo.2
      have hRc : ∀ l ∈ R, chOk l := fun l hl => nameOk_ch (hRo.2 l hl)
      subst hK
      rw [seqK_next]
      refine wS_cut (fun e => ∃ B : O, e = [some (.lf k1 (vsD N)), some (.lf k2 (iL [r0, r1, r2, r3, r4, r5, r6, r7])), some (.lf k3 (iL [s0, s1, s2, s3, s4, s5, s6, s7])), some (.lf .fz (vsD T)), z4, z5, z6, some (.lst (R.map fun x => oS x)), some B, z, some (.lf .fz (vsD R)), none]) ?_ ?_
      · rw [wS_if]
        generalize hB : (rb T).2 = B at hBl hBm hid ⊢
        cases B with
        | nil =>
          have hid := hid rfl
          simp
          rw [hid]
        | cons c r =>
          have hTl3 : ∀ l ∈ T, l.length ≤ 1000 := fun l hl => by have := (hTW l hl).2; omega
          have e1 := r_opened_no (o1 := .lf .fz (vsD T)) (k1 := .fz) (T := T) (by simp) hB (by omega) hTl3
          have e2 := r_classes_no (o1 := .lf .fz (vsD T)) (k1 := .fz) (T := T) (by simp) hB (by omega) hTl3
          have hc := (hTW c (hBm c (by simp))).1
          simp at hBl
          simp
          rw [wS_seq, wS_if]
          generalize hK : seqK _ _ _ = K
          have g1 : gNe (.tup [oS sName, oS c]) (.tup [oS sName, oS c]) = .ok (ob false) := gNe_eq (d := .tup [.str (tS sName), .str (tS c)]) rfl rfl (by simp [hc])
          have g2 : gNe (.lst [ob true, ob false, ob true]) (.lst [ob true, ob false, ob true]) = .ok (ob false) := rfl
          have g3 : gNe (.lf .fz (vsD T)) (.lf .fz (vsD T)) = .ok (ob false) := gNe_eq (d := vsD T) rfl rfl (vs_pl fun l hl => (hTW l hl).1)
          simp [e1, e2, g1, g2]
          subst hK
          rw [seqK_next, wS_seq, wS_if]
          generalize hK : seqK _ _ _ = K
          simp [g3]
          subst hK
          rw [seqK_next]
          simp
      rintro _ ⟨B, rfl⟩
      have e3 := r_opened (o1 := .lf .fz (vsD R)) (k1 := .fz) (T := R) (by simp) hg (by omega)
      have g4 : gEq (.lf .fz (vsD R)) (.lf .tb (vsD R)) = .ok (ob true) := gEq_eq (d := vsD R) rfl rfl (vs_pl hRc)
      have e5 := r_own (o1 := .lf .fz (hD R [])) (o2 := .lf .tb (vsD R)) (o3 := .lst []) (k1 := .fz) (k2 := .bo) (k3 := .fz) (V := R) (L := []) (by simp) (by simp) (by simp) hRc (by omega) (by intro d hd; cases hd) (by simp)
      have e5' : callM 4 m_law_own [.lf .fz (.obj "House" ["vats", "deeds"] [.tup (R.map fun x => D.str (tS x)), .lst []]), .lf .tb (vsD R), .lst []] = .ok (ob true) := e5
      rw [wS_seq]
      generalize hK : seqK _ _ _ = K
      simp [e3]
      subst hK
      rw [seqK_next]
      simp [g4, e5']
end
section
variable {o o1 o2 o3 : O} {k k1 k2 k3 : Kd} {ma : DEnv → R O} {de : DEnv} {env : VEnv} {Q : Ct → VEnv → Prop} {E : Exn → VEnv → Prop}
theorem wS_forE (h : ma (dl env) = .ok o) (he : emE o = true) (hk : Q .next env) : wS (sForE ma env) Q E := by
  unfold sForE
  simp only [h, he, if_true]
  simpa using hk
theorem lcE_ok (h : ma de = .ok o) (he : emE o = true) : gLcE ma de = .ok (.lst []) := by
  unfold gLcE
  rw [h]
  show (if emE o = true then VL.R.ok (O.lst []) else .no) = _
  rw [if_pos he]
theorem lcR_ok (h : ma de = .ok (oi 0)) : gLcR ma de = .ok (.lst []) := by
  unfold gLcR
  rw [h]
  rfl
abbrev hE : D := .obj "House" ["vats", "deeds"] [.tup [], .lst []]
theorem listH_ok : gListH "House" "deeds" (.lf k hE) = .ok (.lst []) := by
  unfold gListH lstAt
  simp
theorem rh_hdipped [KOk k1] (h1 : toArg o1 = .lf k1 hE) : callM 3 h_House_dipped [o1] = .ok (.lst []) := by
  refine call_ok ?_
  unfold h_House_dipped
  simp only [List.map_cons, List.map_nil, h1]
  walk_at "s"
  rw [wS_seq]
  refine wS_forE (o := .lf k1 (.lst [])) (by simp) rfl ?_
  rw [seqK_next]
  simp
theorem rh_dipped [KOk k1] [KOk k2] (h1 : toArg o1 = .lf k1 hE) (h2 : toArg o2 = .lf k2 (.lst [])) : callM 7 h_law_dipped [o1, o2] = .ok (ob true) := by
  refine call_ok ?_
  unfold h_law_dipped
  simp only [List.map_cons, List.map_nil, h1, h2]
  have e := rh_hdipped (o1 := .lf k1 hE) (k1 := k1) (by simp)
  have l1 : gLcE (eVar 1) [some (.lf k1 hE), some (.lf k2 (.lst [])), none, none, none, none, none] = .ok (.lst []) := lcE_ok (o := .lf k2 (.lst [])) (by simp) rfl
  rw [wS_seq]
  generalize hK : seqK _ _ _ = K
  simp [l1]
  subst hK
  rw [seqK_next, wS_seq]
  generalize hK : seqK _ _ _ = K
  simp [e]
  subst hK
  rw [seqK_next, wS_seq, wS_if]
  generalize hK : seqK _ _ _ = K
  simp
  subst hK
  rw [seqK_next, wS_seq]
  generalize hK : seqK _ _ _ = K
  simp
  subst hK
  rw [seqK_next, wS_seq]
  refine wS_forE (o := .lf .fz (.lst [])) (by simp) rfl ?_
  rw [seqK_next]
  have l2 : ∀ a b d e f : Option O, gLcE (eVar 2) [a, b, some (.lf .fz (.lst [])), d, e, f, none] = .ok (.lst []) := fun a b d e f => lcE_ok (o := .lf .fz (.lst [])) (by simp) rfl
  simp [l2]
theorem rh_logged [KOk k1] [KOk k2] (h1 : toArg o1 = .lf k1 hE) (h2 : toArg o2 = .lf k2 (.lst [])) : callM 4 h_law_logged [o1, o2] = .ok (ob true) := by
  refine call_ok ?_
  unfold h_law_logged
  simp only [List.map_cons, List.map_nil, h1, h2]
  rw [wS_seq]
  generalize hK : seqK _ _ _ = K
  simp [listH_ok]
  subst hK
  rw [seqK_next, wS_seq, wS_if]
  generalize hK : seqK _ _ _ = K
  simp
  subst hK
  rw [seqK_next]
  have l3 : ∀ a c d : Option O, gLcR (eN (f1 gLen) (aCons (eVar 1) aNil)) [a, some (.lf k2 (.lst [])), c, d] = .ok (.lst []) := fun a c d => lcR_ok (by simp)
  simp [l3]
theorem rh_own [KOk k1] [KOk k2] [KOk k3] (h1 : toArg o1 = .lf k1 hE) (h2 : toArg o2 = .lf k2 (.lst [])) (h3 : toArg o3 = .lf k3 (.lst [])) : callM 4 h_law_own [o1, o2, o3] = .ok (ob true) := by
  refine call_ok ?_
  unfold h_law_own
  simp only [List.map_cons, List.map_nil, h1, h2, h3]
  have e1 := rh_logged (o1 := .lf k1 hE) (o2 := .lf k3 (.lst [])) (k1 := k1) (k2 := k3) (by simp) (by simp)
  have e2 := rh_dipped (o1 := .lf k1 hE) (o2 := .lf k3 (.lst [])) (k1 := k1) (k2 := k3) (by simp) (by simp)
  have e3 := rh_hdipped (o1 := .lf k1 hE) (k1 := k1) (by simp)
  have hp : gNe (.lst []) (.lf k2 (.lst [])) = .ok (ob false) := gNe_eq (d := .lst []) rfl rfl (by decide)
  rw [wS_seq, wS_if]
  generalize hK : seqK _ _ _ = K
  simp [hp]
  subst hK
  rw [seqK_next, wS_seq, wS_if]
  generalize hK : seqK _ _ _ = K
  simp [e1, e2]
  subst hK
  rw [seqK_next, wS_seq]
  generalize hK : seqK _ _ _ = K
  simp [e3]
  subst hK
  rw [seqK_next, wS_seq]
  generalize hK : seqK _ _ _ = K
  simp
  subst hK
  simp [e2]
theorem wS_sOutR {i : Nat} {r : RS} (h : wS r (fun c e => nxE (e.set i none) = true ∧ (match c with | .ret o => o.nx = true | _ => True) ∧ Q c (e.set i none)) (fun _ _ => False)) : wS (sOutR i r) Q E := by
  cases r with
  | ok c e => exact wS_sOut.mpr h
  | ex x e => exact (wS_ex.mp h).elim
  | no => exact (wS_no.mp h).elim
theorem r_none {c t : List Nat} (h1 : toArg o1 = .lf k1 (.str (tS c))) (h2 : toArg o2 = .lf k2 (.str (tS t))) (hc : nameOk c = true) (ht : nameOk t = true) : callM 4 m_law_none [o1, o2] = .ok (ob true) := by
  refine call_ok ?_
  unfold m_law_none
  simp only [List.map_cons, List.map_nil, h1, h2]
  have e0 := house_ok (o1 := .lst []) (k := .fz) (T := []) (by simp) rfl (by simp)
  have e1 := rh_own (o1 := .lf .tb hE) (o2 := .lst []) (o3 := .lst []) (k1 := .bo) (k2 := .fz) (k3 := .fz) (by simp) (by simp) (by simp)
  rw [wS_seq]
  generalize hK : seqK _ _ _ = K
  simp [e0]
  subst hK
  rw [seqK_next, wS_seq]
  generalize hK : seqK _ _ _ = K
  refine wS_tryR ?_
  rw [wS_drop]
  refine x_dip (V := []) (L := []) (i := 2) (c := c) (v := t) (u := 1) (by rfl) (by simp) (by have := nameOk_len hc; omega) (nameOk_ch ht) (by intro d hd; cases hd) (by simp) ?_
  rw [if_pos hc, if_neg (by simp)]
  refine ⟨rfl, rfl, rfl, rfl, by simp, ?_⟩
  simp only [List.set_cons_succ, List.set_cons_zero]
  refine wS_sOutR ?_
  have g := gEq_eq (o := .lf .fz (.str (tS t))) (p := .lf .fz (.str (tS t))) (d := .str (tS t)) rfl rfl (by simpa using nameOk_ch ht)
  simp [e1, g, errs, Errs.has, Errs.fl, subE]
  subst hK
  simp
end
def GoodL (V : List (List Nat)) (L : List Deed) : Prop := ∀ d ∈ L, GoodD V d
theorem GoodL.log {V : List (List Nat)} {L : List Deed} (h : GoodL V L) : LogOk L := fun d hd => (h d hd).ok
theorem GoodL.snoc {V : List (List Nat)} {L : List Deed} {d : Deed} (h : GoodL V L) (hd : GoodD V d) : GoodL V (L ++ [d]) := fun x hx => by
  rcases List.mem_append.mp hx with q | q
  · exact h x q
  · rw [List.mem_singleton.mp q]; exact hd
theorem len2 {α : Type} {l : List α} (h : l.length = 2) : ∃ a b, l = [a, b] := match l, h with
  | [a, b], _ => ⟨a, b, rfl⟩
abbrev logL (L : List Deed) : O := .lst (L.map fun d => .lf .fz d.d)
theorem frzO_d {d : Deed} : frzO d.o = some (.lf .fz d.d) := by cases d <;> simp [frzO]
def st21 (ns : List Int) (N : List (List Nat)) (F : List Int) (V W : List (List Nat)) (G : O) (L M : List Deed) (zs : VEnv) : VEnv :=
  some (scrD ns) :: some (.lf .fz (vsD N)) :: some (.lf .fz (iL F)) :: some (.lf .fz (.lst [vsD V, vsD W])) :: some G :: some (.lst [hO V L, hO W M]) :: some (.lst [logL L, logL M]) :: zs
section
variable {ns F : List Int} {N V W : List (List Nat)} {G : O} {L M : List Deed} {r0 r1 r2 r3 r4 r5 r6 r7 : Int} {z7 z8 z9 z10 z11 z12 z13 z14 : Option O}
theorem own_at (hn : HT V N) (gL : GoodL V L) (hl : L.length ≤ 1000) : callM 4 m_law_own [.lf .tb (hD V L), .lf .fz (vsD V), .lf .tb (.lst (L.map Deed.d))] = .ok (ob true) :=
  r_own (k1 := .bo) (k2 := .fz) (k3 := .bo) (by simp) (by simp) (by simp) (fun l h => nameOk_ch (hn.vok l h)) (by have := hn.len; omega) gL.log hl
theorem w_body {Q : Ct → VEnv → Prop} {E : Exn → VEnv → Prop} (hnV : HT V N) (hnW : HT W N) (gL : GoodL V L) (gM : GoodL W M) (hz : L.length + M.length ≤ 100) (hr : Row8 r0 r1 r2 r3 r4 r5 r6 r7)
    (h : ∀ L' M' y8 y9 y10 y11 y12, GoodL V L' → GoodL W M' → L'.length + M'.length = L.length + M.length + 1 → Q .next (st21 ns N F V W G L' M' [some (.lf .fz (iL [r0, r1, r2, r3, r4, r5, r6, r7])), y8, y9, y10, y11, y12, none, none])) :
    wS (b_law_2 (st21 ns N F V W G L M [some (.lf .fz (iL [r0, r1, r2, r3, r4, r5, r6, r7])), z8, z9, z10, z11, z12, none, none])) Q E := by
  have own : ∀ L' M', GoodL V L' → GoodL W M' → L'.length + M'.length = L.length + M.length + 1 → ∀ y8 y9 y10 y11 y12, wS (sFor (iR1 12 (eC (.int 2))) b_law_1 (st21 ns N F V W G L' M' [some (.lf .fz (iL [r0, r1, r2, r3, r4, r5, r6, r7])), y8, y9, y10, y11, y12, none, none])) Q E := by
    intro L' M' gL' gM' hl y8 y9 y10 y11 y12
    rw [wS_for]
    simp
    refine wS_forNE (fun v j e => ∃ z, e = st21 ns N F V W G L' M' [some (.lf .fz (iL [r0, r1, r2, r3, r4, r5, r6, r7])), y8, y9, y10, y11, z, none, none]) ⟨y12, rfl⟩ ?_ ?_
    · rintro j _ hj ⟨z, rfl⟩
      refine ⟨_, rfl, ?_⟩
      have a1 := own_at hnV gL' (by omega)
      have a2 := own_at hnW gM' (by omega)
      unfold b_law_1 st21
      rw [wS_if]
      rcases (by omega : j = 0 ∨ j = 1) with rfl | rfl
      · simp [a1]
      · simp [a2]
    · rintro _ ⟨z, rfl⟩
      exact h _ _ _ _ _ _ _ gL' gM' hl
  unfold b_law_2
  rw [wS_seq]
  generalize hK : seqK _ _ _ = K
  unfold st21
  simp
  have b5 := hr.b5
  rcases (by omega : r5 % 2 = 0 ∨ r5 % 2 = 1) with q5 | q5
  · rw [q5]
    subst hK
    rw [seqK_next, wS_seq]
    generalize hK : seqK _ _ _ = K
    simp
    refine w_deed (k1 := .fz) (k2 := .fz) (k3 := .fz) (k4 := .bo) (N := N) (V := V) (L := L) (by simp) (by simp) (by simp) (by simp) hr hnV gL.log fun d hd => ?_
    have e1 := r_hdipped (o1 := .lf .tb (hD V L)) (k1 := .bo) (V := V) (L := L) (by simp) gL.log (by omega)
    have e4 := dipF_len (L := L)
    simp [frzO_d]
    subst hK
    rw [seqK_next, wS_seq]
    generalize hK : seqK _ _ _ = K
    simp [e1]
    subst hK
    rw [seqK_next, wS_seq]
    generalize hK : seqK _ _ _ = K
    simp
    subst hK
    rw [seqK_next, wS_seq, wS_drop]
    generalize hK : seqK _ _ _ = K
    refine wX_callPS (i := 5) (k := 0) (s := hO V L) (as := [.lf .fz d.d]) (os := [hO V L, hO W M]) (by rfl) (by rfl) (by rfl) ?_ (by rfl) ?_ (by rfl) ?_ ?_
    · simp
    · simp
    · simp
    show wS (m_law_single (startE 2 [hO V L, .lf .fz d.d])) _ _
    refine w_single gL.log (by omega) hd.ok hd.ln hd.good ?_
    subst hK
    rw [seqK_next, wS_seq, wS_drop]
    generalize hK : seqK _ _ _ = K
    rw [wX_appAt (i := 6) (p := [0]) (os := L.map fun d => .lf .fz d.d) (by rfl) (by rfl)]
    simp [setP, O.put, O.kid, O.setKid]
    refine ⟨by omega, ?_⟩
    have g1 : gNe (.lf .fz (vsD (dipF L))) (.lf .fz (vsD (dipF L))) = .ok (ob false) := gNe_eq (d := vsD (dipF L)) rfl rfl (vs_pl (dipF_ch gL.log))
    subst hK
    rw [seqK_next, wS_seq, wS_if]
    generalize hK : seqK _ _ _ = K
    simp [g1]
    subst hK
    rw [seqK_next]
    have ok := own (L ++ [d]) M (gL.snoc hd) gM (by simp; omega)
    unfold st21 at ok
    simp only [logL, List.map_append, List.map_cons, List.map_nil] at ok
    exact ok _ _ _ _ _
  · rw [q5]
    subst hK
    rw [seqK_next, wS_seq]
    generalize hK : seqK _ _ _ = K
    simp
    refine w_deed (k1 := .fz) (k2 := .fz) (k3 := .fz) (k4 := .bo) (N := N) (V := W) (L := M) (by simp) (by simp) (by simp) (by simp) hr hnW gM.log fun d hd => ?_
    have e1 := r_hdipped (o1 := .lf .tb (hD W M)) (k1 := .bo) (V := W) (L := M) (by simp) gM.log (by omega)
    have e4 := dipF_len (L := M)
    simp [frzO_d]
    subst hK
    rw [seqK_next, wS_seq]
    generalize hK : seqK _ _ _ = K
    simp [e1]
    subst hK
    rw [seqK_next, wS_seq]
    generalize hK : seqK _ _ _ = K
    simp
    subst hK
    rw [seqK_next, wS_seq, wS_drop]
    generalize hK : seqK _ _ _ = K
    refine wX_callPS (i := 5) (k := 1) (s := hO W M) (as := [.lf .fz d.d]) (os := [hO V L, hO W M]) (by rfl) (by rfl) (by rfl) ?_ (by rfl) ?_ (by rfl) ?_ ?_
    · simp
    · simp
    · simp
    show wS (m_law_single (startE 2 [hO W M, .lf .fz d.d])) _ _
    refine w_single gM.log (by omega) hd.ok hd.ln hd.good ?_
    subst hK
    rw [seqK_next, wS_seq, wS_drop]
    generalize hK : seqK _ _ _ = K
    rw [wX_appAt (i := 6) (p := [1]) (os := M.map fun d => .lf .fz d.d) (by rfl) (by rfl)]
    simp [setP, O.put, O.kid, O.setKid]
    refine ⟨by omega, ?_⟩
    have g1 : gNe (.lf .fz (vsD (dipF M))) (.lf .fz (vsD (dipF M))) = .ok (ob false) := gNe_eq (d := vsD (dipF M)) rfl rfl (vs_pl (dipF_ch gM.log))
    subst hK
    rw [seqK_next, wS_seq, wS_if]
    generalize hK : seqK _ _ _ = K
    simp [g1]
    subst hK
    rw [seqK_next]
    have ok := own L (M ++ [d]) gL (gM.snoc hd) (by simp; omega)
    unfold st21 at ok
    simp only [logL, List.map_append, List.map_cons, List.map_nil] at ok
    exact ok _ _ _ _ _
end
theorem law_true : RunsTrue N_law.length m_law := by
  refine runs_of fun ns hns => ?_
  unfold m_law
  rw [wS_seq]
  generalize hK : seqK _ _ _ = K
  simp
  refine w_cell (by omega) fun c0 => ?_
  try simp
  refine w_names (by omega) (by omega) fun N hN hnd hok => ?_
  simp at hN
  simp
  subst hK
  rw [seqK_next, wS_seq]
  generalize hK : seqK _ _ _ = K
  simp
  refine w_cell (by omega) fun c1 => ?_
  try simp
  refine w_row (by omega) (by omega) (by omega) (by decide) fun F hF hFb => ?_
  simp at hF
  simp
  subst hK
  obtain ⟨f0, f1, rfl⟩ := len2 hF
  have bf : ∀ x ∈ [f0, f1], 0 ≤ x ∧ x < 12 := hFb
  simp at bf
  rw [seqK_next, wS_seq]
  generalize hK : seqK _ _ _ = K
  simp
  obtain ⟨t, ht, ht1, ht5⟩ : ∃ t : Nat, (t : Int) = 1 + f0 % 4 ∧ 1 ≤ t ∧ t ≤ 4 := ⟨(1 + f0 % 4).toNat, by omega, by omega, by omega⟩
  obtain ⟨u, hu, hu1, hu5⟩ : ∃ u : Nat, (u : Int) = 5 - f1 % 4 ∧ 2 ≤ u ∧ u ≤ 5 := ⟨(5 - f1 % 4).toNat, by omega, by omega, by omega⟩
  rw [← ht, ← hu, cutA_to, cutA_from]
  obtain ⟨V, hV⟩ : ∃ V : List (List Nat), V = N.take t := ⟨_, rfl⟩
  obtain ⟨W, hW⟩ : ∃ W : List (List Nat), W = N.drop u := ⟨_, rfl⟩
  rw [← hV, ← hW]
  have hnV : HT V N := by
    have hl : V.length = t := by rw [hV]; simp; omega
    exact ⟨fun q => by rw [q] at hl; simp at hl; omega, by omega, hN, hok, fun l hl => by rw [hV] at hl; exact List.mem_of_mem_take hl, by rw [hV]; exact (List.take_sublist _ _).nodup hnd⟩
  have hnW : HT W N := by
    have hl : W.length = 6 - u := by rw [hW]; simp; omega
    exact ⟨fun q => by rw [q] at hl; simp at hl; omega, by omega, hN, hok, fun l hl => by rw [hW] at hl; exact List.mem_of_mem_drop hl, by rw [hW]; exact (List.drop_sublist _ _).nodup hnd⟩
  clear hV hW
  subst hK
  have hpV := hnV.pos
  have hpW := hnW.pos
  have hlV := hnV.len
  have hlW := hnW.len
  rw [seqK_next, wS_seq]
  generalize hK : seqK _ _ _ = K
  simp
  subst hK
  have eV := r_house (o1 := .lf .tb (vsD V)) (k := .bo) (V := V) (by simp) hnV.nd hnV.vok (by omega)
  have eW := r_house (o1 := .lf .tb (vsD W)) (k := .bo) (V := W) (by simp) hnW.nd hnW.vok (by omega)
  rw [seqK_next, wS_seq]
  generalize hK : seqK _ _ _ = K
  simp [eV, eW]
  subst hK
  rw [seqK_next, wS_seq, wS_drop]
  generalize hK : seqK _ _ _ = K
  rw [wX_appAt (i := 4) (p := [0]) (os := V.map fun x => oS x) (by rfl) (by rfl)]
  simp [setP, O.put, O.kid, O.setKid]
  refine ⟨by omega, ?_⟩
  subst hK
  rw [seqK_next, wS_seq]
  generalize hK : seqK _ _ _ = K
  refine wS_setIxP (i := 4) (p := [1]) (os := W.map fun x => oS x) (n := 0) (k := 0) (o := .lf .fz (.str (Str.ofString "nothing"))) (oi' := oi 0) rfl (by rfl) (by rfl) rfl rfl ?_ rfl |>.mpr ?_
  · rw [List.length_map]
    obtain ⟨m, hm⟩ : ∃ m, W.length = m + 1 := ⟨W.length - 1, by omega⟩
    rw [hm]
    simp [ixN]
  simp [setP, O.put, O.kid, O.setKid]
  generalize hG : O.lst [_, _] = G
  subst hK
  rw [seqK_next]
  walk_at "s"
  rw [wS_seq, wS_for]
  generalize hK : seqK _ _ _ = K
  simp
  refine w_rows (by omega) (by omega) (by omega) fun Rs hRl hRs => ?_
  simp
  refine wS_forX Rs (fun R => setA 7 (.lf .fz (iL R))) (by simp) (fun _ pre e => ∃ L M z7 z8 z9 z10 z11 z12, GoodL V L ∧ GoodL W M ∧ L.length + M.length = pre.length ∧ e = st21 ns N [f0, f1] V W G L M [z7, z8, z9, z10, z11, z12, none, none]) ⟨[], [], none, none, none, none, none, none, by intro d h; simp at h, by intro d h; simp at h, by simp, rfl⟩ ?_ ?_
  · rintro pre R post _ he ⟨L, M, z7, z8, z9, z10, z11, z12, gL, gM, hl, rfl⟩
    refine ⟨st21 ns N [f0, f1] V W G L M [some (.lf .fz (iL R)), z8, z9, z10, z11, z12, none, none], rfl, ?_⟩
    have hRm := hRs R (by rw [he]; simp)
    have hpl : pre.length < Rs.length := by rw [he]; simp
    obtain ⟨r0, r1, r2, r3, r4, r5, r6, r7, rfl, hr⟩ := row8 (by simpa using hRm.1) hRm.2
    clear he hRm
    refine w_body hnV hnW gL gM (by omega) hr fun L' M' y8 y9 y10 y11 y12 gL' gM' hl' => ?_
    exact ⟨L', M', _, _, _, _, _, _, gL', gM', by simp; omega, rfl⟩
  · rintro _ ⟨L, M, z7, z8, z9, z10, z11, z12, gL, gM, hl, rfl⟩
    have hLM : L.length + M.length ≤ 19 := by omega
    clear hRl hRs hl
    have a1 := own_at hnV gL (by omega)
    have a2 := own_at hnW gM (by omega)
    subst hK
    rw [seqK_next]
    unfold st21
    rw [wS_seq, wS_if]
    generalize hK : seqK _ _ _ = K
    simp [a1, a2]
    subst hK
    rw [seqK_next, wS_seq]
    generalize hK : seqK _ _ _ = K
    simp
    refine w_cell (by omega) fun c2 => ?_
    try simp
    refine w_row (by omega) (by omega) (by omega) (by decide) fun R hR hRb => ?_
    simp at hR
    simp
    subst hK
    obtain ⟨r0, r1, r2, r3, r4, r5, r6, r7, rfl, hr⟩ := row8 hR hRb
    rw [seqK_next, wS_seq]
    generalize hK : seqK _ _ _ = K
    simp
    refine w_cell (by omega) fun c3 => ?_
    try simp
    refine w_row (by omega) (by omega) (by omega) (by decide) fun S hS hSb => ?_
    simp at hS
    simp
    subst hK
    obtain ⟨s0, s1, s2, s3, s4, s5, s6, s7, rfl, hs⟩ := row8 hS hSb
    rw [seqK_next, wS_seq, wS_for]
    generalize hK : seqK _ _ _ = K
    simp
    refine wS_forNE (fun v j e => ∃ z, e = v.set 12 z) ⟨z12, rfl⟩ ?_ ?_
    · rintro j _ hj ⟨z, rfl⟩
      refine ⟨_, rfl, ?_⟩
      obtain ⟨A, B, C, D', hcA, hcB, hcC, hcD, a0, a1, a2, a3, a4, a5, a6, a7, hAB, hrA, b0, b1, b2, b3, b4, b5, b6, b7, hCD, hrC⟩ : ∃ A B C D' : List Int, cutA [D.int r0, D.int r1, D.int r2, D.int r3, D.int r4, D.int r5, D.int r6, D.int r7] (some (2 * (j : Int))) none = A.map D.int ∧ cutA [D.int r0, D.int r1, D.int r2, D.int r3, D.int r4, D.int r5, D.int r6, D.int r7] none (some (2 * (j : Int))) = B.map D.int ∧ cutA [D.int s0, D.int s1, D.int s2, D.int s3, D.int s4, D.int s5, D.int s6, D.int s7] (some (j : Int)) none = C.map D.int ∧ cutA [D.int s0, D.int s1, D.int s2, D.int s3, D.int s4, D.int s5, D.int s6, D.int s7] none (some (j : Int)) = D'.map D.int ∧ ∃ a0 a1 a2 a3 a4 a5 a6 a7, A ++ B = [a0, a1, a2, a3, a4, a5, a6, a7] ∧ Row8 a0 a1 a2 a3 a4 a5 a6 a7 ∧ ∃ b0 b1 b2 b3 b4 b5 b6 b7, C ++ D' = [b0, b1, b2, b3, b4, b5, b6, b7] ∧ Row8 b0 b1 b2 b3 b4 b5 b6 b7 := by
        clear hK
        rcases (by omega : j = 0 ∨ j = 1 ∨ j = 2 ∨ j = 3) with rfl | rfl | rfl | rfl
        · exact ⟨[r0, r1, r2, r3, r4, r5, r6, r7], [], [s0, s1, s2, s3, s4, s5, s6, s7], [], rfl, rfl, rfl, rfl, _, _, _, _, _, _, _, _, rfl, ⟨hr.b0, hr.b1, hr.b2, hr.b3, hr.b4, hr.b5, hr.b6, hr.b7⟩, _, _, _, _, _, _, _, _, rfl, ⟨hs.b0, hs.b1, hs.b2, hs.b3, hs.b4, hs.b5, hs.b6, hs.b7⟩⟩
        · exact ⟨[r2, r3, r4, r5, r6, r7], [r0, r1], [s1, s2, s3, s4, s5, s6, s7], [s0], rfl, rfl, rfl, rfl, _, _, _, _, _, _, _, _, rfl, ⟨hr.b2, hr.b3, hr.b4, hr.b5, hr.b6, hr.b7, hr.b0, hr.b1⟩, _, _, _, _, _, _, _, _, rfl, ⟨hs.b1, hs.b2, hs.b3, hs.b4, hs.b5, hs.b6, hs.b7, hs.b0⟩⟩
        · exact ⟨[r4, r5, r6, r7], [r0, r1, r2, r3], [s2, s3, s4, s5, s6, s7], [s0, s1], rfl, rfl, rfl, rfl, _, _, _, _, _, _, _, _, rfl, ⟨hr.b4, hr.b5, hr.b6, hr.b7, hr.b0, hr.b1, hr.b2, hr.b3⟩, _, _, _, _, _, _, _, _, rfl, ⟨hs.b2, hs.b3, hs.b4, hs.b5, hs.b6, hs.b7, hs.b0, hs.b1⟩⟩
        · exact ⟨[r6, r7], [r0, r1, r2, r3, r4, r5], [s3, s4, s5, s6, s7], [s0, s1, s2], rfl, rfl, rfl, rfl, _, _, _, _, _, _, _, _, rfl, ⟨hr.b6, hr.b7, hr.b0, hr.b1, hr.b2, hr.b3, hr.b4, hr.b5⟩, _, _, _, _, _, _, _, _, rfl, ⟨hs.b3, hs.b4, hs.b5, hs.b6, hs.b7, hs.b0, hs.b1, hs.b2⟩⟩
      have l1 := congrArg List.length hAB
      have l2 := congrArg List.length hCD
      simp at l1 l2
      have el := r_listed (o1 := .lf .fz (vsD N)) (o2 := .lst (A.map oi ++ B.map oi)) (o3 := .lst (C.map oi ++ D'.map oi)) (k1 := .fz) (k2 := .fz) (k3 := .fz) (N := N) (by simp) (by rw [← List.map_append, hAB]; simp) (by rw [← List.map_append, hCD]; simp) hN hok hrA hrC
      unfold b_law_3
      rw [wS_if]
      simp [hcA, hcB, hcC, hcD, el]
      omega
    · rintro _ ⟨z, rfl⟩
      subst hK
      rw [seqK_next, wS_seq]
      generalize hK : seqK _ _ _ = K
      simp
      subst hK
      rw [seqK_next]
      have e7 : makeM "House" 4 m_House___init__ [.lst [oS [97], oS [98], oS [99], oS [100], oS [101], oS [102], oS [103]]] = .ok (hO [[97], [98], [99], [100], [101], [102], [103]] []) := house_ok (k := .fz) (T := [[97], [98], [99], [100], [101], [102], [103]]) rfl (by decide) (by decide)
      have e8 : callM 4 m_law_own [hO [[97], [98], [99], [100], [101], [102], [103]] [], .lf .fz (.lst [D.str (tS [97]), D.str (tS [98]), D.str (tS [99]), D.str (tS [100]), D.str (tS [101]), D.str (tS [102]), D.str (tS [103])]), .lst []] = .ok (ob true) := r_own (k1 := .fz) (k2 := .fz) (k3 := .fz) (V := [[97], [98], [99], [100], [101], [102], [103]]) (L := []) (by simp) rfl rfl (by intro l hl; exact nameOk_ch ((show ∀ l ∈ [[97], [98], [99], [100], [101], [102], [103]], nameOk l = true by decide) l hl)) (by decide) (by intro d hd; cases hd) (by decide)
      have g0 : N[0]? = some (N[0]'(by omega)) := List.getElem?_eq_getElem (by omega)
      have g1 : N[1]? = some (N[1]'(by omega)) := List.getElem?_eq_getElem (by omega)
      have e9 := r_none (o1 := oS (N[0]'(by omega))) (o2 := oS (N[1]'(by omega))) (k1 := .fz) (k2 := .fz) rfl rfl (hok _ (List.getElem_mem _)) (hok _ (List.getElem_mem _))
      simp [e7, e8, g0, g1, e9]
end Kw
open PySem PySem.W PyProof.Rows
set_option maxRecDepth 100000 in
set_option maxHeartbeats 20000000 in
theorem PySem.Challenge.cw_dyevats_k21_two_houses_holds : PySem.Challenge.rw_dyevats_k21_two_houses.Holds := by
  w_on; o_law; k_head; (case hw => w_witness2)
  k_fill
  refine VL.walk_lawT (l := PySem.Challenge.rw_dyevats_k21_two_houses) (k := 8) rfl rfl ⟨rfl, by decide, by decide⟩ (fun w h Y => by first | exact PySem.W.kIn_of Y | exact PySem.W.km_in_of Y) ?F
  case F =>
    intro w mg fa h Y KX G hmg
    refine' Kw.all_mk KX G hmg ?n0 ?n1 ?n2 ?n3 ?hE ?hblt ?hnbd ?hnbl ?x1 ?bm_1 ?y1 ?m1 ?ce1 ?hc1 ?e1 ?x3 ?bm_3 ?y3 ?m3 ?ce3 ?hc3 ?e3 ?x2 ?bm_2 ?y2 ?m2 ?ce2 ?hc2 ?e2 ?nc0 ?hcl ?gs_DIGITS ?gs_LETTERS ?a__law_row ?l__law_row ?c__law_row ?k__law_row ?a__law_names ?l__law_names ?c__law_names ?k__law_names ?a__law_cell ?l__law_cell ?c__law_cell ?k__law_cell ?a__law_rows ?l__law_rows ?c__law_rows ?k__law_rows ?a__valid_name ?l__valid_name ?c__valid_name ?k__valid_name ?a__House___init__ ?l__House___init__ ?c__House___init__ ?me__House___init__ ?a__law_units ?l__law_units ?c__law_units ?k__law_units ?a__law_level ?l__law_level ?c__law_level ?k__law_level ?a__law_deed ?l__law_deed ?c__law_deed ?k__law_deed ?a__House_dipped ?l__House_dipped ?c__House_dipped ?me__House_dipped ?a__House_ahead ?l__House_ahead ?c__House_ahead ?me__House_ahead ?a__House_fill ?l__House_fill ?c__House_fill ?me__House_fill ?a__House_dip ?l__House_dip ?c__House_dip ?me__House_dip ?q__House_dip ?a__law_single ?l__law_single ?c__law_single ?k__law_single ?a__law_dipped ?l__law_dipped ?c__law_dipped ?k__law_dipped ?a__House___len__ ?l__House___len__ ?c__House___len__ ?a__House___iter__ ?l__House___iter__ ?c__House___iter__ ?me__House___iter__ ?a__law_is_int ?l__law_is_int ?c__law_is_int ?k__law_is_int ?a__law_same ?l__law_same ?c__law_same ?k__law_same ?a__law_logged ?l__law_logged ?c__law_logged ?k__law_logged ?a__law_own ?l__law_own ?c__law_own ?k__law_own ?a__law_none ?l__law_none ?c__law_none ?k__law_none ?a__law_opened ?l__law_opened ?c__law_opened ?k__law_opened ?a__law_no_name ?l__law_no_name ?c__law_no_name ?k__law_no_name ?a__law_is_name ?l__law_is_name ?c__law_is_name ?k__law_is_name ?a__law_classes ?l__law_classes ?c__law_classes ?k__law_classes ?a__law_listed ?l__law_listed ?c__law_listed ?k__law_listed ?a__law ?l__law ?c__law ?k__law ?nm_mk Kw.law_true
    case n0 => k_is
    case n1 => k_is
    case n2 => k_is
    case n3 => k_is
    case hE => kernel_rfl
    case hblt => kernel_rfl
    case hnbd => k_is
    case hnbl => k_is
    case x1 => k_is
    case bm_1 => kernel_rfl
    case y1 => k_is
    case m1 => k_is
    case ce1 => k_is
    case hc1 => kernel_rfl
    case e1 => kernel_rfl
    case x3 => k_is
    case bm_3 => kernel_rfl
    case y3 => k_is
    case m3 => k_is
    case ce3 => k_is
    case hc3 => kernel_rfl
    case e3 => kernel_rfl
    case x2 => k_is
    case bm_2 => kernel_rfl
    case y2 => k_is
    case m2 => k_is
    case ce2 => k_is
    case hc2 => kernel_rfl
    case e2 => kernel_rfl
    case nc0 => k_is
    case hcl => kernel_rfl
    case gs_DIGITS => k_is
    case gs_LETTERS => k_is
    case a__law_row => k_is
    case l__law_row => k_is
    case c__law_row => k_is
    case k__law_row => k_is
    case a__law_names => k_is
    case l__law_names => k_is
    case c__law_names => k_is
    case k__law_names => k_is
    case a__law_cell => k_is
    case l__law_cell => k_is
    case c__law_cell => k_is
    case k__law_cell => k_is
    case a__law_rows => k_is
    case l__law_rows => k_is
    case c__law_rows => k_is
    case k__law_rows => k_is
    case a__valid_name => k_is
    case l__valid_name => k_is
    case c__valid_name => k_is
    case k__valid_name => k_is
    case a__House___init__ => k_is
    case l__House___init__ => k_is
    case c__House___init__ => k_is
    case me__House___init__ => kernel_rfl
    case a__law_units => k_is
    case l__law_units => k_is
    case c__law_units => k_is
    case k__law_units => k_is
    case a__law_level => k_is
    case l__law_level => k_is
    case c__law_level => k_is
    case k__law_level => k_is
    case a__law_deed => k_is
    case l__law_deed => k_is
    case c__law_deed => k_is
    case k__law_deed => k_is
    case a__House_dipped => k_is
    case l__House_dipped => k_is
    case c__House_dipped => k_is
    case me__House_dipped => kernel_rfl
    case a__House_ahead => k_is
    case l__House_ahead => k_is
    case c__House_ahead => k_is
    case me__House_ahead => kernel_rfl
    case a__House_fill => k_is
    case l__House_fill => k_is
    case c__House_fill => k_is
    case me__House_fill => kernel_rfl
    case a__House_dip => k_is
    case l__House_dip => k_is
    case c__House_dip => k_is
    case me__House_dip => kernel_rfl
    case q__House_dip => k_is
    case a__law_single => k_is
    case l__law_single => k_is
    case c__law_single => k_is
    case k__law_single => k_is
    case a__law_dipped => k_is
    case l__law_dipped => k_is
    case c__law_dipped => k_is
    case k__law_dipped => k_is
    case a__House___len__ => k_is
    case l__House___len__ => k_is
    case c__House___len__ => k_is
    case a__House___iter__ => k_is
    case l__House___iter__ => k_is
    case c__House___iter__ => k_is
    case me__House___iter__ => kernel_rfl
    case a__law_is_int => k_is
    case l__law_is_int => k_is
    case c__law_is_int => k_is
    case k__law_is_int => k_is
    case a__law_same => k_is
    case l__law_same => k_is
    case c__law_same => k_is
    case k__law_same => k_is
    case a__law_logged => k_is
    case l__law_logged => k_is
    case c__law_logged => k_is
    case k__law_logged => k_is
    case a__law_own => k_is
    case l__law_own => k_is
    case c__law_own => k_is
    case k__law_own => k_is
    case a__law_none => k_is
    case l__law_none => k_is
    case c__law_none => k_is
    case k__law_none => k_is
    case a__law_opened => k_is
    case l__law_opened => k_is
    case c__law_opened => k_is
    case k__law_opened => k_is
    case a__law_no_name => k_is
    case l__law_no_name => k_is
    case c__law_no_name => k_is
    case k__law_no_name => k_is
    case a__law_is_name => k_is
    case l__law_is_name => k_is
    case c__law_is_name => k_is
    case k__law_is_name => k_is
    case a__law_classes => k_is
    case l__law_classes => k_is
    case c__law_classes => k_is
    case k__law_classes => k_is
    case a__law_listed => k_is
    case l__law_listed => k_is
    case c__law_listed => k_is
    case k__law_listed => k_is
    case a__law => k_is
    case l__law => k_is
    case c__law => k_is
    case k__law => k_is
    case nm_mk => k_is
