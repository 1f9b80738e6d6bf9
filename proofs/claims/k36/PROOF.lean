import PyProof.Rows.All
import Wide.All
import OpenK.AllK
import Wide.FinOn
import KE.KOpsOwn
import HandS.ForMost
import HandS.OwnEq
import HandS.Defaults
import HandS.IsInst
import HandS.TupAny
import HandS.Zip
import PyProof.InstNe
import KE.GoesEnum
import HandS.Head0
import HandS.Head1
import HandS.Head2
import HandS.Head3
import HandS.HeadEnd
import HandS.HeadHook1
import HandS.HeadHook2
import HandS.HeadHook3
import HandS.HeadHook4
import PySem.Challenge.RW_similarforms_k36_whole_double_commutants
set_option Elab.async false
set_option linter.all false
set_option maxRecDepth 100000
/-! The commutant of a matrix over a small field: the law, walked over data; the plain law by the kernel over every small matrix. By an AI agent; no person has reviewed it. -/
-- part DKa
set_option maxHeartbeats 4000000
/-! # Data without a heap: what a value stands for (D), what of the heap is known (Gh), how both grow. -/
namespace DK
open PySem PySem.Spec PyProof.Rows L2

/-- the program's classes that are made -/
inductive Cl where
  | res | gr | pol | mat
  deriving DecidableEq

/-- lists of which only the form is told, they may change: the law's drawn numbers; n ints; n such rows -/
inductive IK where
  | nums | irow (n : Nat) | imat (n : Nat)
/-- data: a value with all that hangs on it; adr: an address of which nothing is told; inv: a list of which only the form is told; frl: a frozen list of ints -/
inductive D where
  | non | bl (b : Bool) | int (i : Int) | adr (a : Addr) | inv (k : IK) | frl (xs : List Int)
  | lst (xs : List D) | tup (xs : List D) | ins (c : Cl) (xs : List D)

def flds : Cl → List Str
  | .res => ["p", "n"]
  | .gr => ["p"]
  | .pol => ["ground", "row"]
  | .mat => ["ground", "rows", "width"]

/-- what is known to stand at an address: this object for good, or a list of drawn numbers -/
inductive GO where
  | fix (o : HO) | inv (k : IK)
abbrev Gh := Addr → Option GO

def numsOk (ns : List Int) : Prop := ∀ n ∈ ns, 0 ≤ n ∧ n < 1009
def IOk (G : Gh) : IK → List V → Prop
  | .nums, vs => ∃ ns : List Int, vs = ns.map V.int ∧ numsOk ns
  | .irow n, vs => vs.length = n ∧ ∀ v ∈ vs, ∃ i : Int, v = .int i ∧ -100 ≤ i ∧ i ≤ 100
  | .imat n, vs => vs.length = n ∧ ∀ v ∈ vs, ∃ b : Addr, v = .ref b ∧ G b = some (.inv (.irow n))
/-- what is known holds -/
def Mt (G : Gh) (H : Hp) : Prop := ∀ a g, G a = some g → match g with
  | .fix o => H a = some o
  | .inv k => ∃ vs, H a = some (.lst vs) ∧ IOk G k vs
def Ex (G G' : Gh) : Prop := ∀ a g, G a = some g → G' a = some g
theorem IOk.mono {G G' : Gh} (e : Ex G G') {k : IK} {vs : List V} (h : IOk G k vs) : IOk G' k vs := by
  cases k with
  | nums => exact h
  | irow n => exact h
  | imat n => exact ⟨h.1, fun v hv => by obtain ⟨b, e1, e2⟩ := h.2 v hv; exact ⟨b, e1, e _ _ e2⟩⟩
theorem Ex.rfl' {G : Gh} : Ex G G := fun _ _ h => h
theorem Ex.trans {G G1 G2 : Gh} (a : Ex G G1) (b : Ex G1 G2) : Ex G G2 := fun c o h => b c o (a c o h)

/-- from (G, H) to (G', H'): more is known, what is not known stands as it was -/
structure Gr (G : Gh) (H : Hp) (G' : Gh) (H' : Hp) : Prop where
  ex : Ex G G'
  mt : Mt G' H'
  old : ∀ a o, H a = some o → G a = none → G' a = none ∧ H' a = some o
theorem Gr.rfl' {G : Gh} {H : Hp} (m : Mt G H) : Gr G H G H := ⟨Ex.rfl', m, fun _ _ h g => ⟨g, h⟩⟩
theorem Gr.trans {G G1 G2 : Gh} {H H1 H2 : Hp} (a : Gr G H G1 H1) (b : Gr G1 H1 G2 H2) : Gr G H G2 H2 :=
  ⟨a.ex.trans b.ex, b.mt, fun c o h g => b.old c o (a.old c o h g).2 (a.old c o h g).1⟩
theorem Mt.there {G : Gh} {H : Hp} (m : Mt G H) {a : Addr} {g : GO} (h : G a = some g) : ∃ o, H a = some o := by
  have q := m a g h
  cases g with
  | fix o => exact ⟨o, q⟩
  | inv k => obtain ⟨ns, e, _⟩ := q; exact ⟨_, e⟩
theorem Mt.free {G : Gh} {H : Hp} (m : Mt G H) {a : Addr} (h : H a = none) : G a = none := by
  cases e : G a with
  | none => rfl
  | some g =>
    obtain ⟨o, q⟩ := m.there e
    rw [h] at q
    cases q
/-- free behind is free ahead -/
theorem Gr.free {G G' : Gh} {H H' : Hp} (r : Gr G H G' H') {a : Addr} (h : H' a = none) : H a = none := by
  cases e : H a with
  | none => rfl
  | some o =>
    cases g : G a with
    | none =>
      have q := (r.old a o e g).2
      rw [h] at q
      cases q
    | some x =>
      obtain ⟨o', q⟩ := r.mt.there (r.ex a x g)
      rw [h] at q
      cases q
def gput (G : Gh) (a : Addr) (g : GO) : Gh := fun b => if b = a then some g else G b
theorem gput_same {G : Gh} {a : Addr} {g : GO} : gput G a g a = some g := by unfold gput; rw [if_pos rfl]
theorem gput_ne {G : Gh} {a b : Addr} {g : GO} (h : b ≠ a) : gput G a g b = G b := by unfold gput; rw [if_neg h]
theorem ne_gnone {G : Gh} {a b : Addr} {g : GO} (h : G a = some g) (h' : G b = none) : a ≠ b := by
  intro e; subst e; rw [h] at h'; cases h'
theorem ex_gput {G : Gh} {a : Addr} {g : GO} (h : G a = none) : Ex G (gput G a g) := fun b x e => by
  rw [gput_ne (ne_gnone e h)]; exact e
/-- what is not known may change -/
theorem Mt.upd {G : Gh} {H : Hp} (m : Mt G H) {a : Addr} {o : HO} (h : G a = none) : Mt G (upd H a o) := fun b g e => by
  have q := m b g e
  have n := ne_gnone e h
  cases g with
  | fix u =>
    show L2.upd H a o b = _
    rw [upd_ne n]; exact q
  | inv k =>
    obtain ⟨ns, e1, e2⟩ := q
    exact ⟨ns, by rw [upd_ne n]; exact e1, e2⟩
/-- an object that stands is made known -/
theorem Mt.pub {G : Gh} {H : Hp} (m : Mt G H) {a : Addr} {o : HO} (hg : G a = none) (h : H a = some o) : Mt (gput G a (.fix o)) H := fun b g e => by
  by_cases n : b = a
  · subst n
    rw [gput_same] at e
    cases e
    exact h
  · rw [gput_ne n] at e
    have q := m b g e
    cases g with
    | fix u => exact q
    | inv k => obtain ⟨vs, e1, e2⟩ := q; exact ⟨vs, e1, e2.mono (ex_gput hg)⟩
theorem Gr.upd {G0 G : Gh} {H0 H : Hp} (r : Gr G0 H0 G H) {a : Addr} {o : HO} (h0 : H0 a = none) (h : G a = none) : Gr G0 H0 G (upd H a o) :=
  ⟨r.ex, r.mt.upd h, fun b u e g => ⟨(r.old b u e g).1, by rw [upd_ne (ne_of_none e h0)]; exact (r.old b u e g).2⟩⟩
theorem Gr.pub {G0 G : Gh} {H0 H : Hp} (r : Gr G0 H0 G H) {a : Addr} {o : HO} (h0 : H0 a = none) (h : G a = none) (e : H a = some o) : Gr G0 H0 (gput G a (.fix o)) H :=
  ⟨r.ex.trans (ex_gput h), r.mt.pub h e, fun b u e1 g => ⟨by rw [gput_ne (ne_of_none e1 h0)]; exact (r.old b u e1 g).1, (r.old b u e1 g).2⟩⟩
/-- a new object, not known; known -/
theorem Gr.new {G0 G : Gh} {H0 H : Hp} (r : Gr G0 H0 G H) {a : Addr} {o : HO} (h : H a = none) : Gr G0 H0 G (L2.upd H a o) := r.upd (r.free h) (r.mt.free h)
theorem Gr.newFix {G0 G : Gh} {H0 H : Hp} (r : Gr G0 H0 G H) {a : Addr} {o : HO} (h : H a = none) : Gr G0 H0 (gput G a (.fix o)) (L2.upd H a o) :=
  (r.new (o := o) h).pub (r.free h) (r.mt.free h) upd_same

/-! ### a value stands for data -/
mutual
inductive Rep (cA : Cl → Addr) (G : Gh) : V → D → Prop where
  | non : Rep cA G .non .non
  | bl (b : Bool) : Rep cA G (.bl b) (.bl b)
  | int (i : Int) : Rep cA G (.int i) (.int i)
  | adr (a : Addr) : Rep cA G (.ref a) (.adr a)
  | inv {a : Addr} {k : IK} : G a = some (.inv k) → Rep cA G (.ref a) (.inv k)
  | frl {a : Addr} {o : Obj} {xs : List Int} : G a = some (.fix (.frz o (.lst (xs.map V.int)))) → Rep cA G (.ref a) (.frl xs)
  | lst {a : Addr} {vs : List V} {ds : List D} : G a = some (.fix (.lst vs)) → RepL cA G vs ds → Rep cA G (.ref a) (.lst ds)
  | tup {a : Addr} {vs : List V} {ds : List D} : G a = some (.fix (.tup vs)) → RepL cA G vs ds → Rep cA G (.ref a) (.tup ds)
  | ins {a dx : Addr} {c : Cl} {vs : List V} {ds : List D} : G a = some (.fix (.ins (cA c) dx ((flds c).zip vs))) → vs.length = (flds c).length → RepL cA G vs ds → Rep cA G (.ref a) (.ins c ds)
inductive RepL (cA : Cl → Addr) (G : Gh) : List V → List D → Prop where
  | nil : RepL cA G [] []
  | cons {v : V} {vs : List V} {d : D} {ds : List D} : Rep cA G v d → RepL cA G vs ds → RepL cA G (v :: vs) (d :: ds)
end
mutual
theorem Rep.mono {cA : Cl → Addr} {G G' : Gh} (e : Ex G G') : ∀ {v : V} {d : D}, Rep cA G v d → Rep cA G' v d
  | _, _, .non => .non
  | _, _, .bl b => .bl b
  | _, _, .int i => .int i
  | _, _, .adr a => .adr a
  | _, _, .inv h => .inv (e _ _ h)
  | _, _, .frl h => .frl (e _ _ h)
  | _, _, .lst h r => .lst (e _ _ h) (RepL.mono e r)
  | _, _, .tup h r => .tup (e _ _ h) (RepL.mono e r)
  | _, _, .ins h l r => .ins (e _ _ h) l (RepL.mono e r)
theorem RepL.mono {cA : Cl → Addr} {G G' : Gh} (e : Ex G G') : ∀ {vs : List V} {ds : List D}, RepL cA G vs ds → RepL cA G' vs ds
  | _, _, .nil => .nil
  | _, _, .cons r t => .cons (Rep.mono e r) (RepL.mono e t)
end
section
variable {cA : Cl → Addr} {G : Gh}
theorem RepL.length : ∀ {vs : List V} {ds : List D}, RepL cA G vs ds → vs.length = ds.length
  | _, _, .nil => rfl
  | _, _, .cons _ t => by rw [List.length_cons, List.length_cons, RepL.length t]
theorem RepL.get : ∀ {vs : List V} {ds : List D} {i : Nat} {v : V}, RepL cA G vs ds → vs[i]? = some v → ∃ d, ds[i]? = some d ∧ Rep cA G v d
  | _, _, _, _, .nil, e => by simp at e
  | _, _, 0, _, .cons r _, e => by simp at e; subst e; exact ⟨_, rfl, r⟩
  | _, _, i + 1, v, .cons _ t, e => by
    obtain ⟨u, h1, h2⟩ := RepL.get (i := i) (v := v) t (by simpa using e)
    exact ⟨u, by simpa using h1, h2⟩
theorem RepL.getD : ∀ {vs : List V} {ds : List D} {i : Nat} {d : D}, RepL cA G vs ds → ds[i]? = some d → ∃ v, vs[i]? = some v ∧ Rep cA G v d
  | _, _, _, _, .nil, e => by simp at e
  | _, _, 0, _, .cons r _, e => by simp at e; subst e; exact ⟨_, rfl, r⟩
  | _, _, i + 1, d, .cons _ t, e => by
    obtain ⟨u, h1, h2⟩ := RepL.getD (i := i) (d := d) t (by simpa using e)
    exact ⟨u, by simpa using h1, h2⟩
theorem RepL.append : ∀ {vs ws : List V} {ds es : List D}, RepL cA G vs ds → RepL cA G ws es → RepL cA G (vs ++ ws) (ds ++ es)
  | _, _, _, _, .nil, s => s
  | _, _, _, _, .cons r t, s => .cons r (RepL.append t s)
theorem RepL.one {v : V} {d : D} (r : Rep cA G v d) : RepL cA G [v] [d] := .cons r .nil
theorem RepL.take : ∀ {vs : List V} {ds : List D} (n : Nat), RepL cA G vs ds → RepL cA G (vs.take n) (ds.take n)
  | _, _, 0, _ => .nil
  | _, _, _ + 1, .nil => .nil
  | _, _, n + 1, .cons r t => .cons r (RepL.take n t)
theorem RepL.drop : ∀ {vs : List V} {ds : List D} (n : Nat), RepL cA G vs ds → RepL cA G (vs.drop n) (ds.drop n)
  | _, _, 0, r => r
  | _, _, _ + 1, .nil => .nil
  | _, _, n + 1, .cons _ t => RepL.drop n t
theorem RepL.set {v : V} {d : D} (r : Rep cA G v d) : ∀ {vs : List V} {ds : List D} (i : Nat), RepL cA G vs ds → RepL cA G (vs.set i v) (ds.set i d)
  | _, _, _, .nil => .nil
  | _, _, 0, .cons _ t => .cons r t
  | _, _, i + 1, .cons q t => .cons q (RepL.set r i t)
theorem RepL.rep {vs : List V} {ds : List D} (r : RepL cA G vs ds) : ∀ k : Nat, RepL cA G (List.replicate k vs).flatten (List.replicate k ds).flatten
  | 0 => .nil
  | k + 1 => by
    rw [List.replicate_succ, List.replicate_succ, List.flatten_cons, List.flatten_cons]
    exact r.append (RepL.rep r k)
/-- plain data give their value -/
theorem RepL.ints : ∀ {ns : List Int} {vs : List V}, RepL cA G vs (ns.map D.int) → vs = ns.map V.int
  | [], _, .nil => rfl
  | n :: r, _, .cons h t => by
    cases h
    rw [RepL.ints t]; rfl
theorem RepL.bls : ∀ {ns : List Bool} {vs : List V}, RepL cA G vs (ns.map D.bl) → vs = ns.map V.bl
  | [], _, .nil => rfl
  | n :: r, _, .cons h t => by
    cases h
    rw [RepL.bls t]; rfl
theorem RepL.of_ints : ∀ (ns : List Int), RepL cA G (ns.map V.int) (ns.map D.int)
  | [] => .nil
  | _ :: r => .cons (.int _) (RepL.of_ints r)
end
end DK

-- part DKb
set_option maxHeartbeats 4000000
/-! # Judgements over data: an expression, a test, a statement of the text, by what its names stand for. -/
namespace DK
open PySem PySem.Spec PyProof.Rows L2

/-! ### the universal readings -/
def U (X : Cx) (e : Expr) : TE := fun σ H Q => ∀ (pins : List (Addr × Obj)) (s : Shared), Inv X pins σ H s → wpAny (model X.prog X.w) X.A (eval e X.env) (EP X pins σ Q) X.xe s
def UT (X : Cx) (e : Expr) : TT := fun σ H Q => ∀ (pins : List (Addr × Obj)) (s : Shared), Inv X pins σ H s → wpAny (model X.prog X.w) X.A (isTrue e X.env (eval e X.env)) (TP X pins σ Q) X.xe s
def UW (X : Cx) (e : Expr) : TT := fun σ H Q => ∀ (whole : Sem Value) (pins : List (Addr × Obj)) (s : Shared), Inv X pins σ H s → wpAny (model X.prog X.w) X.A (isTrue e X.env whole) (TP X pins σ Q) X.xe s
def UA (X : Cx) (es : List Expr) : TA := fun σ H Q => ∀ (pos : Pos) (pins : List (Addr × Obj)) (s : Shared), Inv X pins σ H s → wpAny (model X.prog X.w) X.A (spliced (backTo pos (starEach es X.env))) (AP X pins σ Q) X.xe s
def US (X : Cx) (st : Stmt) : TS := fun D σ H => ∀ (pins : List (Addr × Obj)) (s : Shared), Inv X pins σ H s → wpAny (model X.prog X.w) X.A (exec st X.env) (SP X pins D) X.xe s
def USs (X : Cx) (st : List Stmt) : TS := fun D σ H => ∀ (pins : List (Addr × Obj)) (s : Shared), Inv X pins σ H s → wpAny (model X.prog X.w) X.A (execs st X.env) (SP X pins D) X.xe s
def UPs (X : Cx) (ifs : List Expr) : TT := fun σ H Q => ∀ (pins : List (Addr × Obj)) (s : Shared), Inv X pins σ H s →
    wpAny (model X.prog X.w) X.A (forIn ifs true fun c r => if r = true then do let ok ← isTrue c X.env (eval c X.env); pure (ForInStep.yield ok) else pure (ForInStep.yield r)) (TP X pins σ Q) X.xe s
/-- operations on values -/
def RU (X : Cx) (f : Value → Value → Sem Value) : R2 := fun x y H Q => ∀ (pins : List (Addr × Obj)) (s : Shared) (σ : L2.St) (v u : Value), Inv X pins σ H s → RelV x v → RelV y u → wpAny (model X.prog X.w) X.A (f v u) (EP X pins σ Q) X.xe s
def RU1 (X : Cx) (f : Value → Sem Value) : V → Hp → VK → Prop := fun x H Q => ∀ (pins : List (Addr × Obj)) (s : Shared) (σ : L2.St) (v : Value), Inv X pins σ H s → RelV x v → wpAny (model X.prog X.w) X.A (f v) (EP X pins σ Q) X.xe s
section
variable {X : Cx} {e : Expr} {es : List Expr} {st : Stmt} {sts : List Stmt}
theorem pe_U : PE X e (U X e) := ⟨fun pins s _ _ _ I h => h pins s I⟩
theorem pt_U : PT X e (UT X e) := ⟨fun pins s _ _ _ I h => h pins s I⟩
theorem pw_U : PW X e (UW X e) := ⟨fun w pins s _ _ _ I h => h w pins s I⟩
theorem pa_U : PA X es (UA X es) := ⟨fun pos pins s _ _ _ I h => h pos pins s I⟩
theorem ps_U : PS X st (US X st) := ⟨fun pins s _ _ _ I h => h pins s I⟩
theorem pss_U : PSs X sts (USs X sts) := ⟨fun pins s _ _ _ I h => h pins s I⟩
theorem pts_U : PTs X es (UPs X es) := ⟨fun pins s _ _ _ I h => h pins s I⟩
theorem op_U {f : Value → Value → Sem Value} : OpR X f (RU X f) := fun pins s σ _ _ _ v u _ I rx ry h => h pins s σ v u I rx ry
theorem un_U {f : Value → Sem Value} : UnR X f (RU1 X f) := fun pins s σ _ _ v _ I rx h => h pins s σ v I rx
theorem U.of {t : TE} {σ : L2.St} {H : Hp} {Q : VK} (h : PE X e t) (q : t σ H Q) : U X e σ H Q := fun pins s I => h.run pins s σ H Q I q
theorem UT.of {t : TT} {σ : L2.St} {H : Hp} {Q : Bool → Hp → Prop} (h : PT X e t) (q : t σ H Q) : UT X e σ H Q := fun pins s I => h.run pins s σ H Q I q
theorem UW.of {t : TT} {σ : L2.St} {H : Hp} {Q : Bool → Hp → Prop} (h : PW X e t) (q : t σ H Q) : UW X e σ H Q := fun w pins s I => h.run w pins s σ H Q I q
theorem UA.of {t : TA} {σ : L2.St} {H : Hp} {Q : List V → Hp → Prop} (h : PA X es t) (q : t σ H Q) : UA X es σ H Q := fun pos pins s I => h.run pos pins s σ H Q I q
theorem US.of {t : TS} {σ : L2.St} {H : Hp} {D : Ends} (h : PS X st t) (q : t D σ H) : US X st D σ H := fun pins s I => h.run pins s σ H D I q
theorem USs.of {t : TS} {σ : L2.St} {H : Hp} {D : Ends} (h : PSs X sts t) (q : t D σ H) : USs X sts D σ H := fun pins s I => h.run pins s σ H D I q
theorem UPs.of {t : TT} {σ : L2.St} {H : Hp} {Q : Bool → Hp → Prop} (h : PTs X es t) (q : t σ H Q) : UPs X es σ H Q := fun pins s I => h.run pins s σ H Q I q
theorem RU.of {f : Value → Value → Sem Value} {r : R2} {x y : V} {H : Hp} {Q : VK} (h : OpR X f r) (q : r x y H Q) : RU X f x y H Q := fun pins s σ v u I rx ry => h pins s σ H x y v u Q I rx ry q
theorem RU1.of {f : Value → Sem Value} {r : V → Hp → VK → Prop} {x : V} {H : Hp} {Q : VK} (h : UnR X f r) (q : r x H Q) : RU1 X f x H Q := fun pins s σ v I rx => h pins s σ H x v Q I rx q
end

/-! ### where one stands -/
/-- the module: program, world, written part, names; the classes' addresses -/
structure Md where
  P : Program
  w : World
  K : PySem.W.Frag
  mg : Str → Option Value
  base : Heap
  cA : Cl → Addr
def locB (sc : Scope) (x : Str) : Bool := match sc.names.lookup x with
  | some .local => true
  | some .cell => true
  | _ => false
/-- a body or a comprehension's block: N the slots' names, sc the scope as it runs, own the scope as it is written, k the room -/
structure Ctx extends Md where
  N : List Str
  sc : Scope
  own : Scope
  k : Nat
structure Fits (C : Ctx) (X : Cx) : Prop where
  hP : X.prog = C.P
  hw : X.w = C.w
  hK : X.K = C.K
  hm : X.mg = C.mg
  hb : X.base = C.base
  hN : X.N = C.N
  hs : X.env.scope = C.sc
  hc : X.calm = true
  hr : Room C.k X.A
  hx : X.xe = fun _ _ => False
  nd : C.N.Nodup
  sto : ∀ x, locB C.own x = true → X.fn x = true ∨ X.env.scope.names.lookup x = some .local
abbrev Ctx.blk (C : Ctx) (scope : Scope) : Ctx := { C with sc := relS scope C.sc, own := scope }

/-- what a slot holds: data; a list that is one's own (still to be changed); an object in the making -/
inductive Ent where
  | dat (d : D) | grw (ds : List D) | obj (p : Addr) (c : Cl) (ds : List D)
abbrev Sl := List (Option Ent)
def EntOk (cA : Cl → Addr) (H0 : Hp) (G : Gh) (H : Hp) (sv : Option (Option V)) : Ent → Prop
  | .dat d => ∃ v, sv = some (some v) ∧ Rep cA G v d
  | .grw ds => ∃ a vs, sv = some (some (.ref a)) ∧ H0 a = none ∧ G a = none ∧ H a = some (.lst vs) ∧ RepL cA G vs ds
  | .obj a c ds => ∃ dx vs, sv = some (some (.ref a)) ∧ H0 a = none ∧ G a = none ∧ H a = some (.ins (cA c) dx (((flds c).take vs.length).zip vs)) ∧ RepL cA G vs ds
def Ent.own : Ent → Bool
  | .dat _ => false
  | _ => true
def isOwn (Γ : Sl) (i : Nat) : Prop := ∃ e, Γ[i]? = some (some e) ∧ e.own = true
/-- where one began: gx is known still, (g0, h0) the def's entry -/
structure Ba where
  gx : Gh
  g0 : Gh
  h0 : Hp
structure EO (cA : Cl → Addr) (B : Ba) (G : Gh) (H : Hp) (σ : L2.St) (Γ : Sl) : Prop where
  kx : Ex B.gx G
  gr : Gr B.g0 B.h0 G H
  len : σ.length = Γ.length
  at_ : ∀ (i : Nat) (e : Ent), Γ[i]? = some (some e) → EntOk cA B.h0 G H σ[i]? e
  apart : ∀ (i j : Nat) (a : Addr), i ≠ j → isOwn Γ i → isOwn Γ j → σ[i]? = some (some (.ref a)) → σ[j]? ≠ some (some (.ref a))
section
variable {cA : Cl → Addr} {B : Ba} {G G' : Gh} {H H' H0 : Hp} {σ : L2.St} {Γ : Sl}
theorem EntOk.grow {sv : Option (Option V)} {e : Ent} (h : EntOk cA H0 G H sv e) (r : Gr G H G' H') : EntOk cA H0 G' H' sv e := by
  cases e with
  | dat d => obtain ⟨v, e1, e2⟩ := h; exact ⟨v, e1, e2.mono r.ex⟩
  | grw ds =>
    obtain ⟨a, vs, e1, e0, e2, e3, e4⟩ := h
    exact ⟨a, vs, e1, e0, (r.old a _ e3 e2).1, (r.old a _ e3 e2).2, e4.mono r.ex⟩
  | obj a c ds =>
    obtain ⟨dx, vs, e1, e0, e2, e3, e4⟩ := h
    exact ⟨dx, vs, e1, e0, (r.old a _ e3 e2).1, (r.old a _ e3 e2).2, e4.mono r.ex⟩
theorem EO.grow (h : EO cA B G H σ Γ) (r : Gr G H G' H') : EO cA B G' H' σ Γ :=
  ⟨h.kx.trans r.ex, h.gr.trans r, h.len, fun i e q => (h.at_ i e q).grow r, h.apart⟩
theorem EO.dat (h : EO cA B G H σ Γ) {i : Nat} {d : D} (e : Γ[i]? = some (some (.dat d))) : ∃ v, σ[i]? = some (some v) ∧ Rep cA G v d := h.at_ i _ e
/-- a slot gets data -/
theorem EO.set (h : EO cA B G H σ Γ) {i : Nat} {v : V} {d : D} (r : Rep cA G v d) : EO cA B G H (σ.set i (some v)) (Γ.set i (some (.dat d))) := by
  have own : ∀ j, isOwn (Γ.set i (some (.dat d))) j → j ≠ i ∧ isOwn Γ j := fun j ⟨e, q, o⟩ => by
    by_cases hj : i = j
    · subst hj
      rw [List.getElem?_set] at q
      split at q
      · split at q
        · cases q; cases o
        · cases q
      · contradiction
    · rw [List.getElem?_set_ne hj] at q
      exact ⟨fun z => hj z.symm, e, q, o⟩
  refine ⟨h.kx, h.gr, by rw [List.length_set, List.length_set, h.len], fun j e q => ?_, fun j l a hjl oj ol e1 e2 => ?_⟩
  · by_cases hj : i = j
    · subst hj
      rw [List.getElem?_set] at q
      split at q
      · split at q
        · cases q
          rename_i hl
          refine ⟨v, ?_, r⟩
          rw [List.getElem?_set_self (by rw [h.len]; exact hl)]
        · cases q
      · contradiction
    · rw [List.getElem?_set_ne hj] at q ⊢
      exact h.at_ j e q
  · obtain ⟨n1, o1⟩ := own j oj
    obtain ⟨n2, o2⟩ := own l ol
    rw [List.getElem?_set_ne (Ne.symm n1)] at e1
    rw [List.getElem?_set_ne (Ne.symm n2)] at e2
    exact h.apart j l a hjl o1 o2 e1 e2
/-- a slot is forgotten -/
theorem EO.drop (h : EO cA B G H σ Γ) {i : Nat} {o : Option V} : EO cA B G H (σ.set i o) (Γ.set i none) := by
  have own : ∀ j, isOwn (Γ.set i none) j → j ≠ i ∧ isOwn Γ j := fun j ⟨e, q, o⟩ => by
    by_cases hj : i = j
    · subst hj
      rw [List.getElem?_set] at q
      split at q
      · split at q <;> cases q
      · contradiction
    · rw [List.getElem?_set_ne hj] at q
      exact ⟨fun z => hj z.symm, e, q, o⟩
  refine ⟨h.kx, h.gr, by rw [List.length_set, List.length_set, h.len], fun j e q => ?_, fun j l a hjl oj ol e1 e2 => ?_⟩
  · by_cases hj : i = j
    · subst hj
      rw [List.getElem?_set] at q
      split at q
      · split at q <;> cases q
      · contradiction
    · rw [List.getElem?_set_ne hj] at q ⊢
      exact h.at_ j e q
  · obtain ⟨n1, o1⟩ := own j oj
    obtain ⟨n2, o2⟩ := own l ol
    rw [List.getElem?_set_ne (Ne.symm n1)] at e1
    rw [List.getElem?_set_ne (Ne.symm n2)] at e2
    exact h.apart j l a hjl o1 o2 e1 e2
/-- a slot gets a list of one's own: new, not known -/
theorem EO.setMut (h : EO cA B G H σ Γ) {i : Nat} {a : Addr} {vs : List V} {ds : List D} (n : ∀ j : Nat, isOwn Γ j → σ[j]? ≠ some (some (.ref a))) (h0 : B.h0 a = none) (hg : G a = none) (ha : H a = some (.lst vs)) (r : RepL cA G vs ds) :
    EO cA B G H (σ.set i (some (.ref a))) (Γ.set i (some (.grw ds))) := by
  have own : ∀ j, isOwn (Γ.set i (some (.grw ds))) j → j = i ∨ (j ≠ i ∧ isOwn Γ j) := fun j ⟨e, q, o⟩ => by
    by_cases hj : i = j
    · exact .inl hj.symm
    · rw [List.getElem?_set_ne hj] at q
      exact .inr ⟨fun z => hj z.symm, e, q, o⟩
  refine ⟨h.kx, h.gr, by rw [List.length_set, List.length_set, h.len], fun j e q => ?_, fun j l b hjl oj ol e1 e2 => ?_⟩
  · by_cases hj : i = j
    · subst hj
      rw [List.getElem?_set] at q
      split at q
      · split at q
        · cases q
          rename_i hl
          refine ⟨a, vs, ?_, h0, hg, ha, r⟩
          rw [List.getElem?_set_self (by rw [h.len]; exact hl)]
        · cases q
      · contradiction
    · rw [List.getElem?_set_ne hj] at q ⊢
      exact h.at_ j e q
  · rcases own j oj with rfl | ⟨n1, o1⟩
    · rcases own l ol with rfl | ⟨n2, o2⟩
      · exact hjl rfl
      · rw [List.getElem?_set_ne (Ne.symm n2)] at e2
        rw [List.getElem?_set] at e1
        rw [if_pos rfl] at e1
        split at e1
        · cases e1
          exact n l o2 e2
        · cases e1
    · rw [List.getElem?_set_ne (Ne.symm n1)] at e1
      rcases own l ol with rfl | ⟨n2, o2⟩
      · rw [List.getElem?_set, if_pos rfl] at e2
        split at e2
        · cases e2
          exact n j o1 e1
        · cases e2
      · rw [List.getElem?_set_ne (Ne.symm n2)] at e2
        exact h.apart j l b hjl o1 o2 e1 e2
/-- what one owns stands in the heap -/
theorem EO.owned (h : EO cA B G H σ Γ) {j : Nat} (o : isOwn Γ j) {a : Addr} (e : σ[j]? = some (some (.ref a))) : ∃ u, H a = some u := by
  obtain ⟨e1, q, k⟩ := o
  have z := h.at_ j e1 q
  cases e1 with
  | dat d => cases k
  | grw ds => obtain ⟨b, vs, e2, _, _, e3, _⟩ := z; rw [e] at e2; cases e2; exact ⟨_, e3⟩
  | obj b c ds => obtain ⟨dx, vs, e2, _, _, e3, _⟩ := z; rw [e] at e2; cases e2; exact ⟨_, e3⟩
/-- a list of one's own is changed -/
theorem EO.write (h : EO cA B G H σ Γ) {i : Nat} {a : Addr} {ds ds' : List D} {vs' : List V} (e : Γ[i]? = some (some (.grw ds))) (ea : σ[i]? = some (some (.ref a))) (r : RepL cA G vs' ds') :
    EO cA B G (upd H a (.lst vs')) σ (Γ.set i (some (.grw ds'))) := by
  obtain ⟨a', vs, e1, h0, hg, ha, _⟩ : ∃ a vs, σ[i]? = some (some (V.ref a)) ∧ B.h0 a = none ∧ G a = none ∧ H a = some (.lst vs) ∧ RepL cA G vs ds := h.at_ i _ e
  rw [ea] at e1; cases e1
  have hil : i < Γ.length := (List.getElem?_eq_some_iff.mp e).1
  have oi : isOwn Γ i := ⟨_, e, rfl⟩
  have own : ∀ j, isOwn (Γ.set i (some (.grw ds'))) j → isOwn Γ j := fun j ⟨e', q, o⟩ => by
    by_cases hj : i = j
    · subst hj; exact oi
    · rw [List.getElem?_set_ne hj] at q
      exact ⟨e', q, o⟩
  refine ⟨h.kx, h.gr.upd h0 hg, by rw [List.length_set, h.len], fun j e' q => ?_, fun j l b hjl oj ol => h.apart j l b hjl (own j oj) (own l ol)⟩
  by_cases hj : i = j
  · subst hj
    rw [List.getElem?_set_self hil] at q
    cases q
    exact ⟨a, vs', ea, h0, hg, upd_same, r⟩
  · rw [List.getElem?_set_ne hj] at q
    have z := h.at_ j e' q
    cases e' with
    | dat d => exact z
    | grw es =>
      obtain ⟨b, ws, e1, e0, e2, e3, e4⟩ := z
      have hb : b ≠ a := fun z => h.apart j i b (Ne.symm hj) ⟨_, q, rfl⟩ oi e1 (by rw [z]; exact ea)
      exact ⟨b, ws, e1, e0, e2, by rw [upd_ne hb]; exact e3, e4⟩
    | obj b c es =>
      obtain ⟨dx, ws, e1, e0, e2, e3, e4⟩ := z
      have hb : b ≠ a := fun z => h.apart j i b (Ne.symm hj) ⟨_, q, rfl⟩ oi e1 (by rw [z]; exact ea)
      exact ⟨dx, ws, e1, e0, e2, by rw [upd_ne hb]; exact e3, e4⟩
theorem EO.writeObj (h : EO cA B G H σ Γ) {i : Nat} {a dx : Addr} {c : Cl} {ds ds' : List D} {vs' : List V} (e : Γ[i]? = some (some (.obj a c ds))) (r : RepL cA G vs' ds') :
    EO cA B G (upd H a (.ins (cA c) dx (((flds c).take vs'.length).zip vs'))) σ (Γ.set i (some (.obj a c ds'))) := by
  obtain ⟨dx', vs, ea, h0, hg, ha, _⟩ : ∃ dx vs, σ[i]? = some (some (V.ref a)) ∧ B.h0 a = none ∧ G a = none ∧ H a = some (.ins (cA c) dx (((flds c).take vs.length).zip vs)) ∧ RepL cA G vs ds := h.at_ i _ e
  have hil : i < Γ.length := (List.getElem?_eq_some_iff.mp e).1
  have oi : isOwn Γ i := ⟨_, e, rfl⟩
  have own : ∀ j, isOwn (Γ.set i (some (.obj a c ds'))) j → isOwn Γ j := fun j ⟨e', q, o⟩ => by
    by_cases hj : i = j
    · subst hj; exact oi
    · rw [List.getElem?_set_ne hj] at q
      exact ⟨e', q, o⟩
  refine ⟨h.kx, h.gr.upd h0 hg, by rw [List.length_set, h.len], fun j e' q => ?_, fun j l b hjl oj ol => h.apart j l b hjl (own j oj) (own l ol)⟩
  by_cases hj : i = j
  · subst hj
    rw [List.getElem?_set_self hil] at q
    cases q
    exact ⟨dx, vs', ea, h0, hg, upd_same, r⟩
  · rw [List.getElem?_set_ne hj] at q
    have z := h.at_ j e' q
    cases e' with
    | dat d => exact z
    | grw es =>
      obtain ⟨b, ws, e1, e0, e2, e3, e4⟩ := z
      have hb : b ≠ a := fun z => h.apart j i b (Ne.symm hj) ⟨_, q, rfl⟩ oi e1 (by rw [z]; exact ea)
      exact ⟨b, ws, e1, e0, e2, by rw [upd_ne hb]; exact e3, e4⟩
    | obj b c es =>
      obtain ⟨dx, ws, e1, e0, e2, e3, e4⟩ := z
      have hb : b ≠ a := fun z => h.apart j i b (Ne.symm hj) ⟨_, q, rfl⟩ oi e1 (by rw [z]; exact ea)
      exact ⟨dx, ws, e1, e0, e2, by rw [upd_ne hb]; exact e3, e4⟩
/-- a list of one's own is done: from here on it is data -/
theorem EO.freeze (h : EO cA B G H σ Γ) {i : Nat} {ds : List D} (e : Γ[i]? = some (some (.grw ds))) : ∃ G', Ex G G' ∧ EO cA B G' H σ (Γ.set i (some (.dat (.lst ds)))) := by
  obtain ⟨a, vs, ea, h0, hg, ha, r⟩ : ∃ a vs, σ[i]? = some (some (V.ref a)) ∧ B.h0 a = none ∧ G a = none ∧ H a = some (.lst vs) ∧ RepL cA G vs ds := h.at_ i _ e
  have hil : i < Γ.length := (List.getElem?_eq_some_iff.mp e).1
  have oi : isOwn Γ i := ⟨_, e, rfl⟩
  have own : ∀ j, isOwn (Γ.set i (some (.dat (.lst ds)))) j → j ≠ i ∧ isOwn Γ j := fun j ⟨e', q, o⟩ => by
    by_cases hj : i = j
    · subst hj
      rw [List.getElem?_set_self hil] at q
      cases q; cases o
    · rw [List.getElem?_set_ne hj] at q
      exact ⟨fun z => hj z.symm, e', q, o⟩
  have ex := ex_gput (g := .fix (.lst vs)) hg
  refine ⟨gput G a (.fix (.lst vs)), ex, h.kx.trans ex, h.gr.pub h0 hg ha, by rw [List.length_set, h.len], fun j e' q => ?_, fun j l b hjl oj ol => h.apart j l b hjl (own j oj).2 (own l ol).2⟩
  by_cases hj : i = j
  · subst hj
    rw [List.getElem?_set_self hil] at q
    cases q
    exact ⟨.ref a, ea, .lst gput_same (r.mono ex)⟩
  · rw [List.getElem?_set_ne hj] at q
    have z := h.at_ j e' q
    cases e' with
    | dat d => obtain ⟨v, e1, e2⟩ := z; exact ⟨v, e1, e2.mono ex⟩
    | grw es =>
      obtain ⟨b, ws, e1, e0, e2, e3, e4⟩ := z
      have hb : b ≠ a := fun z => h.apart j i b (Ne.symm hj) ⟨_, q, rfl⟩ oi e1 (by rw [z]; exact ea)
      exact ⟨b, ws, e1, e0, by rw [gput_ne hb]; exact e2, e3, e4.mono ex⟩
    | obj b c es =>
      obtain ⟨dx, ws, e1, e0, e2, e3, e4⟩ := z
      have hb : b ≠ a := fun z => h.apart j i b (Ne.symm hj) ⟨_, q, rfl⟩ oi e1 (by rw [z]; exact ea)
      exact ⟨dx, ws, e1, e0, by rw [gput_ne hb]; exact e2, e3, e4.mono ex⟩
end
/-- forgetting a block's own names -/
def wipeS (Γ : Sl) : List Nat → Sl
  | [] => Γ
  | v :: vs => (wipeS Γ vs).set v none
theorem EO.wipe {cA : Cl → Addr} {B : Ba} {G : Gh} {H : Hp} {σ : L2.St} {Γ : Sl} (h : EO cA B G H σ Γ) : ∀ vs : List Nat, EO cA B G H (L2.wipe σ vs) (wipeS Γ vs)
  | [] => h
  | _ :: vs => (EO.wipe h vs).drop

/-! ### the judgements -/
structure DE (C : Ctx) (e : Expr) (Γ : Sl) (P : D → Prop) : Prop where
  run : ∀ X, Fits C X → ∀ B G H σ, EO C.cA B G H σ Γ → ∀ Q : VK, (∀ v d G' H', Gr G H G' H' → Rep C.cA G' v d → P d → Q v H') → U X e σ H Q
/-- a list that is new -/
structure DF (C : Ctx) (e : Expr) (Γ : Sl) (P : List D → Prop) : Prop where
  run : ∀ X, Fits C X → ∀ B G H σ, EO C.cA B G H σ Γ → ∀ Q : VK, (∀ a vs ds G' H', Gr G H G' H' → H a = none → G' a = none → H' a = some (.lst vs) → RepL C.cA G' vs ds → P ds → Q (.ref a) H') → U X e σ H Q
structure DT (C : Ctx) (e : Expr) (Γ : Sl) (P : Bool → Prop) : Prop where
  run : ∀ X, Fits C X → ∀ B G H σ, EO C.cA B G H σ Γ → ∀ Q : Bool → Hp → Prop, (∀ b G' H', Gr G H G' H' → P b → Q b H') → UT X e σ H Q
structure DW (C : Ctx) (e : Expr) (Γ : Sl) (P : Bool → Prop) : Prop where
  run : ∀ X, Fits C X → ∀ B G H σ, EO C.cA B G H σ Γ → ∀ Q : Bool → Hp → Prop, (∀ b G' H', Gr G H G' H' → P b → Q b H') → UW X e σ H Q
structure DPs (C : Ctx) (es : List Expr) (Γ : Sl) (P : Bool → Prop) : Prop where
  run : ∀ X, Fits C X → ∀ B G H σ, EO C.cA B G H σ Γ → ∀ Q : Bool → Hp → Prop, (∀ b G' H', Gr G H G' H' → P b → Q b H') → UPs X es σ H Q
structure DA (C : Ctx) (es : List Expr) (Γ : Sl) (P : List D → Prop) : Prop where
  run : ∀ X, Fits C X → ∀ B G H σ, EO C.cA B G H σ Γ → ∀ Q : List V → Hp → Prop, (∀ vs ds G' H', Gr G H G' H' → RepL C.cA G' vs ds → P ds → Q vs H') → UA X es σ H Q
/-- operations on values -/
structure OpD (C : Ctx) (f : Value → Value → Sem Value) (x y : D) (P : D → Prop) : Prop where
  run : ∀ X, Fits C X → ∀ G H vx vy, Mt G H → Rep C.cA G vx x → Rep C.cA G vy y → ∀ Q : VK, (∀ v d G' H', Gr G H G' H' → Rep C.cA G' v d → P d → Q v H') → RU X f vx vy H Q
structure UnD (C : Ctx) (f : Value → Sem Value) (x : D) (P : D → Prop) : Prop where
  run : ∀ X, Fits C X → ∀ G H vx, Mt G H → Rep C.cA G vx x → ∀ Q : VK, (∀ v d G' H', Gr G H G' H' → Rep C.cA G' v d → P d → Q v H') → RU1 X f vx H Q
def isB (P : Bool → Prop) (d : D) : Prop := ∃ b, d = .bl b ∧ P b
/-- what is wanted behind a statement -/
structure En where
  nx : Sl → Prop
  rt : D → Prop
  bk : Sl → Prop := fun _ => False
  ct : Sl → Prop := fun _ => False
structure Wants (cA : Cl → Addr) (B : Ba) (E : En) (D : Ends) : Prop where
  nx : ∀ σ G H Γ, EO cA B G H σ Γ → E.nx Γ → D.nx σ H
  bk : ∀ σ G H Γ, EO cA B G H σ Γ → E.bk Γ → D.bk σ H
  ct : ∀ σ G H Γ, EO cA B G H σ Γ → E.ct Γ → D.ct σ H
  rt : ∀ v d G H, Gr B.g0 B.h0 G H → Rep cA G v d → E.rt d → D.rt v H
structure DS (C : Ctx) (st : Stmt) (Γ : Sl) (E : En) : Prop where
  run : ∀ X, Fits C X → ∀ B G H σ, EO C.cA B G H σ Γ → ∀ D, Wants C.cA B E D → US X st D σ H
structure DSs (C : Ctx) (sts : List Stmt) (Γ : Sl) (E : En) : Prop where
  run : ∀ X, Fits C X → ∀ B G H σ, EO C.cA B G H σ Γ → ∀ D, Wants C.cA B E D → USs X sts D σ H
end DK

-- part DKc
set_option maxHeartbeats 4000000
/-! # The rules: expressions. -/
namespace DK
open PySem PySem.Spec PyProof.Rows L2

def visB (sc : Scope) (x : Str) : Bool := match sc.names.lookup x with
  | some .local => true
  | some .cell => true
  | some .free => true
  | _ => false
theorem vis_of {sc : Scope} {x : Str} (h : visB sc x = true) : Vis sc x := by
  unfold visB at h
  split at h
  · exact .inl (by assumption)
  · exact .inr (.inl (by assumption))
  · exact .inr (.inr (by assumption))
  · cases h
theorem loc_of {sc : Scope} {x : Str} (h : locB sc x = true) : Loc sc x := by
  unfold locB at h
  split at h
  · exact .inl (by assumption)
  · exact .inr (by assumption)
  · cases h
/-- a global name of the module or of the built-ins -/
def glB (sc : Scope) (x : Str) : Bool := match sc.names.lookup x with
  | some .globalImplicit => true
  | _ => false
theorem gl_of {C : Ctx} {X : Cx} (F : Fits C X) {x : Str} (h : glB C.sc x = true) : Gl X x := by
  unfold glB at h
  split at h
  · show X.env.scope.names.lookup x = _
    rw [F.hs]
    assumption
  · cases h
section
variable {cA : Cl → Addr} {G : Gh} {H : Hp}
theorem rep_lst {v : V} {ds : List D} (m : Mt G H) (r : Rep cA G v (.lst ds)) : ∃ a vs, v = .ref a ∧ G a = some (.fix (.lst vs)) ∧ H a = some (.lst vs) ∧ RepL cA G vs ds := by
  cases r with
  | lst h r => exact ⟨_, _, rfl, h, m _ _ h, r⟩
theorem rep_tup {v : V} {ds : List D} (m : Mt G H) (r : Rep cA G v (.tup ds)) : ∃ a vs, v = .ref a ∧ G a = some (.fix (.tup vs)) ∧ H a = some (.tup vs) ∧ RepL cA G vs ds := by
  cases r with
  | tup h r => exact ⟨_, _, rfl, h, m _ _ h, r⟩
theorem rep_ins {v : V} {c : Cl} {ds : List D} (m : Mt G H) (r : Rep cA G v (.ins c ds)) : ∃ a dx vs, v = .ref a ∧ G a = some (.fix (.ins (cA c) dx ((flds c).zip vs))) ∧ H a = some (.ins (cA c) dx ((flds c).zip vs)) ∧ vs.length = (flds c).length ∧ RepL cA G vs ds := by
  cases r with
  | ins h l r => exact ⟨_, _, _, rfl, h, m _ _ h, l, r⟩
/-- a new list, a new tuple is data -/
theorem new_lst {vs : List V} {ds : List D} {G1 : Gh} {H1 : Hp} (r : Gr G H G1 H1) (t : RepL cA G1 vs ds) {p : Addr} (hp : H1 p = none) :
    Gr G H (gput G1 p (.fix (.lst vs))) (upd H1 p (.lst vs)) ∧ Rep cA (gput G1 p (.fix (.lst vs))) (.ref p) (.lst ds) :=
  ⟨r.newFix hp, .lst gput_same (t.mono (ex_gput (r.mt.free hp)))⟩
theorem new_tup {vs : List V} {ds : List D} {G1 : Gh} {H1 : Hp} (r : Gr G H G1 H1) (t : RepL cA G1 vs ds) {p : Addr} (hp : H1 p = none) :
    Gr G H (gput G1 p (.fix (.tup vs))) (upd H1 p (.tup vs)) ∧ Rep cA (gput G1 p (.fix (.tup vs))) (.ref p) (.tup ds) :=
  ⟨r.newFix hp, .tup gput_same (t.mono (ex_gput (r.mt.free hp)))⟩
end

section
variable {C : Ctx} {Γ : Sl} {P : D → Prop} {pos : Pos}
theorem de_var (i : Nat) {x : Str} {d : D} (h : Γ[i]? = some (some (.dat d))) (hN : C.N[i]? = some x) (hv : visB C.sc x = true) (p : P d) (hd : (x == ("__debug__" : Str)) = false := by decide) (hcd : (x == ("__classdict__" : Str)) = false := by decide) :
    DE C (.Name x pos) Γ P := ⟨fun X F B G H σ eo Q q => by
  obtain ⟨v, e, r⟩ := eo.dat h
  exact U.of (pe_var (by rw [F.hN]; exact hN) (by rw [F.hs]; exact vis_of hv) hd hcd) ⟨v, e, q v d G H (.rfl' eo.gr.mt) r p⟩⟩
theorem de_int {i : Int} {j : Nat} (p : P (.int i)) : DE C (.Constant (.int i) j pos) Γ P := ⟨fun X F B G H σ eo Q q => U.of pe_int (q _ _ G H (.rfl' eo.gr.mt) (.int i) p)⟩
theorem de_bl {b : Bool} {j : Nat} (p : P (.bl b)) : DE C (.Constant (.bool b) j pos) Γ P := ⟨fun X F B G H σ eo Q q => U.of pe_bl (q _ _ G H (.rfl' eo.gr.mt) (.bl b) p)⟩
theorem de_non {j : Nat} (p : P .non) : DE C (.Constant .none j pos) Γ P := ⟨fun X F B G H σ eo Q q => U.of pe_non (q _ _ G H (.rfl' eo.gr.mt) .non p)⟩
/-- a global that is an int -/
theorem de_globInt {x : Str} {i : Int} {t : Tok} (hg : glB C.sc x = true) (hm : C.mg x = some (.int i t)) (p : P (.int i)) (hd : (x == ("__debug__" : Str)) = false := by decide) : DE C (.Name x pos) Γ P :=
  ⟨fun X F B G H σ eo Q q => U.of (pe_glob (v := .int i) (gl_of F hg) (by rw [F.hm]; exact hm) ⟨t, rfl⟩ hd) (q _ _ G H (.rfl' eo.gr.mt) (.int i) p)⟩
theorem de_imp {e : Expr} {P' : D → Prop} (h : DE C e Γ P') (k : ∀ d, P' d → P d) : DE C e Γ P := ⟨fun X F B G H σ eo Q q => h.run X F B G H σ eo Q fun v d G' H' r rep p => q v d G' H' r rep (k d p)⟩
theorem de_df {e : Expr} (h : DF C e Γ fun ds => P (.lst ds)) : DE C e Γ P := ⟨fun X F B G H σ eo Q q => h.run X F B G H σ eo Q fun a vs ds G' H' r h0 hg ha rep p =>
  q (.ref a) (.lst ds) (gput G' a (.fix (.lst vs))) H' (r.pub h0 hg ha) (.lst gput_same (rep.mono (ex_gput hg))) p⟩

variable {a b : Expr}
theorem de_op {op : Operator} (h : DE C a Γ fun x => DE C b Γ fun y => OpD C (binaryOp op) x y P) : DE C (.BinOp a op b pos) Γ P := ⟨fun X F B G H σ eo Q q => by
  refine U.of (pe_op op_U pe_U pe_U) ?_
  refine h.run X F B G H σ eo _ fun v1 d1 G1 H1 r1 p1 k1 => ?_
  refine k1.run X F B G1 H1 σ (eo.grow r1) _ fun v2 d2 G2 H2 r2 p2 k2 => ?_
  exact k2.run X F G2 H2 v1 v2 r2.mt (p1.mono r2.ex) p2 Q fun v d G' H' r rep p => q v d G' H' ((r1.trans r2).trans r) rep p⟩
theorem de_un {op : UnaryOp} (h : DE C a Γ fun x => UnD C (unaryOp op) x P) : DE C (.UnaryOp op a pos) Γ P := ⟨fun X F B G H σ eo Q q => by
  refine U.of (pe_un un_U pe_U) ?_
  refine h.run X F B G H σ eo _ fun v1 d1 G1 H1 r1 p1 k1 => ?_
  exact k1.run X F G1 H1 v1 r1.mt p1 Q fun v d G' H' r rep p => q v d G' H' (r1.trans r) rep p⟩
theorem de_cmp {op : CmpOp} (hm : behindInMarks op b = false) (h : DE C a Γ fun x => DE C b Γ fun y => OpD C (compareOp op) x y P) : DE C (.Compare a [op] [b] pos) Γ P := ⟨fun X F B G H σ eo Q q => by
  refine U.of (pe_cmpR op_U pe_U pe_U hm) ?_
  refine h.run X F B G H σ eo _ fun v1 d1 G1 H1 r1 p1 k1 => ?_
  refine k1.run X F B G1 H1 σ (eo.grow r1) _ fun v2 d2 G2 H2 r2 p2 k2 => ?_
  exact k2.run X F G2 H2 v1 v2 r2.mt (p1.mono r2.ex) p2 Q fun v d G' H' r rep p => q v d G' H' ((r1.trans r2).trans r) rep p⟩
/-! ### tests -/
variable {T : Bool → Prop}
theorem rep_bl {cA : Cl → Addr} {G : Gh} {v : V} {b : Bool} (r : Rep cA G v (.bl b)) : v = .bl b := by cases r; rfl
theorem dt_cmp {op : CmpOp} (hm : behindInMarks op b = false) (h : DE C a Γ fun x => DE C b Γ fun y => OpD C (compareOp op) x y (isB T)) : DT C (.Compare a [op] [b] pos) Γ T := ⟨fun X F B G H σ eo Q q => by
  refine UT.of (pt_cmpR op_U pe_U pe_U hm) ?_
  refine h.run X F B G H σ eo _ fun v1 d1 G1 H1 r1 p1 k1 => ?_
  refine k1.run X F B G1 H1 σ (eo.grow r1) _ fun v2 d2 G2 H2 r2 p2 k2 => ?_
  refine k2.run X F G2 H2 v1 v2 r2.mt (p1.mono r2.ex) p2 _ fun v d G' H' r rep p => ?_
  obtain ⟨c, rfl, p⟩ := p
  exact ⟨c, rep_bl rep, q c G' H' ((r1.trans r2).trans r) p⟩⟩
theorem dt_val {e : Expr} (h : DE C e Γ (isB T)) (he : ∀ env whole, isTrue e env whole = (do let v ← whole; standAt e.pos; holding [v] (truthy v)) := by intro _ _; rfl) : DT C e Γ T := ⟨fun X F B G H σ eo Q q => by
  refine UT.of (pt_val pe_U (he X.env)) ?_
  refine h.run X F B G H σ eo _ fun v d G' H' r rep p => ?_
  obtain ⟨c, rfl, p⟩ := p
  exact ⟨c, rep_bl rep, q c G' H' r p⟩⟩
theorem dt_not (h : DT C a Γ fun b => T (!b)) : DT C (.UnaryOp .Not a pos) Γ T := ⟨fun X F B G H σ eo Q q => by
  refine UT.of (pt_not pt_U) ?_
  exact h.run X F B G H σ eo _ fun b G' H' r p => q _ G' H' r p⟩
theorem dt_imp {e : Expr} {T' : Bool → Prop} (h : DT C e Γ T') (k : ∀ b, T' b → T b) : DT C e Γ T := ⟨fun X F B G H σ eo Q q => h.run X F B G H σ eo Q fun b G' H' r p => q b G' H' r (k b p)⟩
theorem dw_and1 (h : DT C a Γ T) : DW C (.BoolOp .And [a] pos) Γ T := ⟨fun X F B G H σ eo Q q => UW.of (pw_and1 pt_U) (h.run X F B G H σ eo Q q)⟩
theorem dw_or1 (h : DT C a Γ T) : DW C (.BoolOp .Or [a] pos) Γ T := ⟨fun X F B G H σ eo Q q => UW.of (pw_or1 pt_U) (h.run X F B G H σ eo Q q)⟩
theorem dw_and {rest : List Expr} (h : DT C a Γ fun c => (c = true → DW C (.BoolOp .And (b :: rest) pos) Γ T) ∧ (c = false → T false)) : DW C (.BoolOp .And (a :: b :: rest) pos) Γ T := ⟨fun X F B G H σ eo Q q => by
  refine UW.of (pw_and pt_U pw_U) ?_
  refine h.run X F B G H σ eo _ fun c G1 H1 r1 p1 => ?_
  cases c with
  | true => exact iteT ((p1.1 rfl).run X F B G1 H1 σ (eo.grow r1) Q fun c' G' H' r p => q c' G' H' (r1.trans r) p)
  | false => exact iteF (q false G1 H1 r1 (p1.2 rfl))⟩
theorem dw_or {rest : List Expr} (h : DT C a Γ fun c => (c = false → DW C (.BoolOp .Or (b :: rest) pos) Γ T) ∧ (c = true → T true)) : DW C (.BoolOp .Or (a :: b :: rest) pos) Γ T := ⟨fun X F B G H σ eo Q q => by
  refine UW.of (pw_or pt_U pw_U) ?_
  refine h.run X F B G H σ eo _ fun c G1 H1 r1 p1 => ?_
  cases c with
  | false => exact iteF ((p1.1 rfl).run X F B G1 H1 σ (eo.grow r1) Q fun c' G' H' r p => q c' G' H' (r1.trans r) p)
  | true => exact iteT (q true G1 H1 r1 (p1.2 rfl))⟩
theorem dt_w {e : Expr} (h : DW C e Γ T) : DT C e Γ T := ⟨fun X F B G H σ eo Q q => UT.of (PW.pt pw_U) (h.run X F B G H σ eo Q q)⟩
/-! ### and, or, not as values of truth -/
theorem de_one {op : BoolOp} (h : DE C a Γ P) : DE C (.BoolOp op [a] pos) Γ P := ⟨fun X F B G H σ eo Q q => U.of (pe_one pe_U) (h.run X F B G H σ eo Q q)⟩
theorem de_and {rest : List Expr} (h : DE C a Γ (isB fun c => (c = true → DE C (.BoolOp .And (b :: rest) pos) Γ P) ∧ (c = false → P (.bl false)))) : DE C (.BoolOp .And (a :: b :: rest) pos) Γ P := ⟨fun X F B G H σ eo Q q => by
  refine U.of (pe_and pe_U pe_U) ?_
  refine h.run X F B G H σ eo _ fun v d G1 H1 r1 rep p1 => ?_
  obtain ⟨c, rfl, p1, p2⟩ := p1
  refine ⟨c, rep_bl rep, ?_⟩
  cases c with
  | true => exact iteT ((p1 rfl).run X F B G1 H1 σ (eo.grow r1) Q fun v' d' G' H' r rep p => q v' d' G' H' (r1.trans r) rep p)
  | false => exact iteF (q (.bl false) (.bl false) G1 H1 r1 (.bl false) (p2 rfl))⟩
theorem de_or {rest : List Expr} (h : DE C a Γ (isB fun c => (c = false → DE C (.BoolOp .Or (b :: rest) pos) Γ P) ∧ (c = true → P (.bl true)))) : DE C (.BoolOp .Or (a :: b :: rest) pos) Γ P := ⟨fun X F B G H σ eo Q q => by
  refine U.of (pe_or pe_U pe_U) ?_
  refine h.run X F B G H σ eo _ fun v d G1 H1 r1 rep p1 => ?_
  obtain ⟨c, rfl, p1, p2⟩ := p1
  refine ⟨c, rep_bl rep, ?_⟩
  cases c with
  | false => exact iteF ((p1 rfl).run X F B G1 H1 σ (eo.grow r1) Q fun v' d' G' H' r rep p => q v' d' G' H' (r1.trans r) rep p)
  | true => exact iteT (q (.bl true) (.bl true) G1 H1 r1 (.bl true) (p2 rfl))⟩
theorem de_notV (h : DE C a Γ (isB fun c => P (.bl (!c)))) : DE C (.UnaryOp .Not a pos) Γ P := ⟨fun X F B G H σ eo Q q => by
  refine U.of (pe_not pe_U) ?_
  refine h.run X F B G H σ eo _ fun v d G1 H1 r1 rep p1 => ?_
  obtain ⟨c, rfl, p1⟩ := p1
  exact ⟨c, rep_bl rep, q _ (.bl (!c)) G1 H1 r1 (.bl _) p1⟩⟩
theorem de_ifExp {c : Expr} (h : DT C c Γ fun t => (t = true → DE C a Γ P) ∧ (t = false → DE C b Γ P)) : DE C (.IfExp c a b pos) Γ P := ⟨fun X F B G H σ eo Q q => by
  refine U.of (pe_ifExp pt_U pe_U pe_U) ?_
  refine h.run X F B G H σ eo _ fun t G1 H1 r1 p1 => ?_
  cases t with
  | true => exact iteT ((p1.1 rfl).run X F B G1 H1 σ (eo.grow r1) Q fun v' d' G' H' r rep p => q v' d' G' H' (r1.trans r) rep p)
  | false => exact iteF ((p1.2 rfl).run X F B G1 H1 σ (eo.grow r1) Q fun v' d' G' H' r rep p => q v' d' G' H' (r1.trans r) rep p)⟩
/-! ### argument lists, displays -/
variable {A : List D → Prop} {e : Expr} {es : List Expr}
theorem da_nil (p : A []) : DA C [] Γ A := ⟨fun X F B G H σ eo Q q => UA.of pa_nil (q [] [] G H (.rfl' eo.gr.mt) .nil p)⟩
theorem da_cons (h : DE C e Γ fun d => DA C es Γ fun ds => A (d :: ds)) (hs : ∀ env, starEach (e :: es) env = (false, eval e env) :: starEach es env := by intro _; rfl) : DA C (e :: es) Γ A := ⟨fun X F B G H σ eo Q q => by
  refine UA.of (pa_cons pe_U pa_U (hs X.env)) ?_
  refine h.run X F B G H σ eo _ fun v1 d1 G1 H1 r1 p1 k1 => ?_
  exact k1.run X F B G1 H1 σ (eo.grow r1) _ fun vs ds G2 H2 r2 p2 k2 => q _ _ G2 H2 (r1.trans r2) (.cons (p1.mono r2.ex) p2) k2⟩
theorem df_lst (h : DA C es Γ fun ds => ds.length ≤ 1000 ∧ A ds) : DF C (.List es pos) Γ A := ⟨fun X F B G H σ eo Q q => by
  refine U.of (pe_lst pa_U) ?_
  refine h.run X F B G H σ eo _ fun vs ds G1 H1 r1 p1 ⟨hl, k⟩ => ?_
  refine ⟨by rw [p1.length]; exact Nat.le_of_lt (small1000 hl), fun p hp => ?_⟩
  exact q p vs ds G1 _ (r1.new hp) (r1.free hp) (r1.mt.free hp) upd_same p1 k⟩
theorem de_tup {x1 : Nat} (h : DA C es Γ fun ds => ds.length ≤ 1000 ∧ P (.tup ds)) : DE C (.Tuple es x1 pos) Γ P := ⟨fun X F B G H σ eo Q q => by
  refine U.of (pe_tup pa_U) ?_
  refine h.run X F B G H σ eo _ fun vs ds G1 H1 r1 p1 ⟨hl, k⟩ => ?_
  refine ⟨by rw [p1.length]; exact Nat.le_of_lt (small1000 hl), fun p hp => ?_⟩
  obtain ⟨r, t⟩ := new_tup r1 p1 hp
  exact q _ _ _ _ r t k⟩
end
end DK

-- part DKd
set_option maxHeartbeats 4000000
/-! # The rules: calls, fields, own operators. -/
namespace DK
open PySem PySem.Spec PyProof.Rows L2

/-! ### promises over data -/
def spD (cA : Cl → Addr) (n : Nat) (pr : List D → (D → Prop) → Prop) : Sp := fun vs H Q _ => ∃ (G : Gh) (ds : List D) (P : D → Prop), Mt G H ∧ RepL cA G vs ds ∧ ds.length = n ∧ pr ds P ∧
  ∀ v d G' H', Gr G H G' H' → Rep cA G' v d → P d → Q v H'
/-- __init__: the object at p is new, without attributes; behind it stands as data -/
def spI (cA : Cl → Addr) (c : Cl) (n : Nat) (pr : List D → (D → Prop) → Prop) : Sp := fun vs H Q _ => ∃ (p dx : Addr) (G1 : Gh) (H1 : Hp) (vs' : List V) (ds : List D) (P : D → Prop), vs = .ref p :: vs' ∧ H = upd (upd H1 dx (.own p)) p (.ins (cA c) dx []) ∧
  H1 p = none ∧ H1 dx = none ∧ dx ≠ p ∧ Mt G1 H1 ∧ RepL cA G1 vs' ds ∧ ds.length = n ∧ pr ds P ∧ ∀ d G' H', Gr G1 H1 G' H' → Rep cA G' (.ref p) d → P d → Q .non H'
/-- a def of the module, by its name: n parameters, level k, defaults dfl -/
structure Fn (M : Md) (x : Str) (n k : Nat) (dfl : List D) (pr : List D → (D → Prop) → Prop) : Prop where
  ex : ∃ f fd ps dvs us, FnOk M.P M.w M.K M.mg M.base CX0 k f fd ps (spD M.cA n pr) ∧ M.mg x = some (.ref f) ∧ PySem.W.keepIn M.K (.ref f) = true ∧ Binds M.K fd ps us ∧ Vals dvs us ∧ ∀ G, RepL M.cA G dvs dfl
  ar : ∀ ds P, pr ds P → ds.length = n
structure Me (M : Md) (c : Cl) (m : Str) (n k : Nat) (dfl : List D) (pr : List D → (D → Prop) → Prop) : Prop where
  ex : ∃ f fd ps dvs us, FnOk M.P M.w M.K M.mg M.base CX0 k f fd ps (spD M.cA n pr) ∧ Meth M.K (M.cA c) m f ∧ Binds M.K fd ps us ∧ Vals dvs us ∧ ∀ G, RepL M.cA G dvs dfl
  ar : ∀ ds P, pr ds P → ds.length = n
structure Ct (M : Md) (x : Str) (c : Cl) (n k : Nat) (dfl : List D) (pr : List D → (D → Prop) → Prop) : Prop where
  ex : ∃ f fd ps dvs us, FnOk M.P M.w M.K M.mg M.base CX0 k f fd ps (spI M.cA c n pr) ∧ Mk M.K (M.cA c) f ∧ M.mg x = some (.ref (M.cA c)) ∧ Binds M.K fd ps us ∧ Vals dvs us ∧ ∀ G, RepL M.cA G dvs dfl
  ar : ∀ ds P, pr ds P → ds.length = n
/-- what the top has written of a class -/
structure ClsD (M : Md) (c : Cl) : Prop where
  cl : Cls M.K (M.cA c)
  no : ∀ f ∈ flds c, NoAttr M.K (M.cA c) f
  mg : ∃ x, M.mg x = some (.ref (M.cA c))
  ha : PySem.W.findIn M.K (.ref (M.cA c)) "__class__" = some (some (.builtin "object.__class__"))
  hn : PySem.W.specialIn M.K (.builtin "object.__class__") "__get__" = some (some (.builtin "getset_descriptor.__get__"))
  htk : PySem.W.takesIn M.K (.builtin "object.__class__") = some true
  hm : PySem.W.mroIn M.K (M.cA c) (.type "object") = some true
  first : PySem.W.selfFirst M.K (M.cA c) = true
section
variable {C : Ctx} {X : Cx}
theorem Fits.fn (F : Fits C X) {CX : CXT} {k : Nat} {f : Addr} {fd : FuncData} {ps : List Str} {sp : Sp} (h : FnOk C.P C.w C.K C.mg C.base CX k f fd ps sp) : FnOk X.prog X.w X.K X.mg X.base CX k f fd ps sp := by
  rw [F.hP, F.hw, F.hK, F.hm, F.hb]; exact h
theorem RepL.map_eq {cA : Cl → Addr} {G : Gh} {vs : List V} {ds : List D} (r : RepL cA G vs ds) : vs.length = ds.length := r.length
variable {Γ : Sl} {P : D → Prop} {pos p apos : Pos} {x m : Str} {e o : Expr} {es : List Expr} {n k : Nat} {dfl : List D} {pr : List D → (D → Prop) → Prop} {c : Cl}

/-- a promise, asked -/
theorem spD_ask {cA : Cl → Addr} {G : Gh} {H : Hp} {vs dvs : List V} {ds : List D} (m : Mt G H) (r : RepL cA G vs ds) (rd : RepL cA G dvs dfl) (l : (ds ++ dfl).length = n) (h : pr (ds ++ dfl) P) {Q : VK} (q : ∀ v d G' H', Gr G H G' H' → Rep cA G' v d → P d → Q v H') :
    spD cA n pr (vs ++ dvs) H Q E0 := ⟨G, ds ++ dfl, P, m, r.append rd, l, h, q⟩
theorem de_call (f : Fn C.toMd x n k dfl pr) (hg : glB C.sc x = true) (hk : k ≤ C.k) (h : DA C (e :: es) Γ fun ds => pr (ds ++ dfl) P) (hdb : (x == ("__debug__" : Str)) = false := by decide)
    (he : ∀ env, starEach (e :: es) env = (false, eval e env) :: starEach es env := by intro _; rfl) (hpl : ∀ env, (backTo pos (starEach es env)).any (·.1) = false := by intro _; rfl) :
    DE C (.Call (.Name x p) (e :: es) [] pos) Γ P := ⟨fun X F B G H σ eo Q q => by
  obtain ⟨f', fd, ps, dvs, us, ok, hm, kp, hb, hv, hd⟩ := f.ex
  refine U.of (pe_call (F.fn ok) (F.hr.mono hk) (gl_of F hg) (by rw [F.hm]; exact hm) (by rw [F.hK]; exact kp) (by rw [F.hK]; exact hb) hv pass0 pa_U hdb (he _) (hpl _)) ?_
  refine h.run X F B G H σ eo _ fun vs ds G1 H1 r1 p1 k1 => ?_
  exact spD_ask r1.mt p1 (hd G1) (f.ar _ _ k1) k1 fun v d G' H' r rep p => q v d G' H' (r1.trans r) rep p⟩
theorem de_call0 (f : Fn C.toMd x n k dfl pr) (hg : glB C.sc x = true) (hk : k ≤ C.k) (h : pr dfl P) (hdb : (x == ("__debug__" : Str)) = false := by decide) :
    DE C (.Call (.Name x p) [] [] pos) Γ P := ⟨fun X F B G H σ eo Q q => by
  obtain ⟨f', fd, ps, dvs, us, ok, hm, kp, hb, hv, hd⟩ := f.ex
  refine U.of (pe_call0 (F.fn ok) (F.hr.mono hk) (gl_of F hg) (by rw [F.hm]; exact hm) (by rw [F.hK]; exact kp) (by rw [F.hK]; exact hb) hv pass0 hdb) ?_
  exact spD_ask (vs := []) (ds := []) eo.gr.mt .nil (hd G) (f.ar _ _ h) h q⟩
/-- a new instance of an own class -/
theorem de_make (f : Ct C.toMd x c n k dfl pr) (hg : glB C.sc x = true) (hk : k + 1 ≤ C.k) (h : DA C (e :: es) Γ fun ds => pr (ds ++ dfl) P) (hdb : (x == ("__debug__" : Str)) = false := by decide)
    (he : ∀ env, starEach (e :: es) env = (false, eval e env) :: starEach es env := by intro _; rfl) (hpl : ∀ env, (backTo pos (starEach es env)).any (·.1) = false := by intro _; rfl) :
    DE C (.Call (.Name x p) (e :: es) [] pos) Γ P := ⟨fun X F B G H σ eo Q q => by
  obtain ⟨f', fd, ps, dvs, us, ok, mk, hm, hb, hv, hd⟩ := f.ex
  refine U.of (pe_make (C := C.cA c) (by rw [F.hK]; exact mk) (F.fn ok) (F.hr.mono hk) (gl_of F hg) (by rw [F.hm]; exact hm) (by rw [F.hK]; exact hb) hv pass0 pa_U hdb (he _) (hpl _)) ?_
  refine h.run X F B G H σ eo _ fun vs ds G1 H1 r1 p1 k1 => ?_
  intro y dx ny nd ne
  exact ⟨y, dx, G1, H1, vs ++ dvs, ds ++ dfl, P, rfl, rfl, ny, nd, ne, r1.mt, p1.append (hd G1), f.ar _ _ k1, k1, fun d G' H' r rep p => ⟨rfl, q _ d G' H' (r1.trans r) rep p⟩⟩⟩

/-! ### attributes, methods -/
theorem lookup_zip {fs : List Str} : ∀ {fs : List Str} {vs : List V} {i : Nat} {f : Str} {v : V}, fs.Nodup → fs[i]? = some f → vs[i]? = some v → (fs.zip vs).lookup f = some v
  | [], _, _, _, _, _, h, _ => by simp at h
  | _ :: _, [], _, _, _, _, _, h => by simp at h
  | g :: r, w :: ws, 0, f, v, nd, h1, h2 => by
    have e1 : g = f := by simpa using h1
    have e2 : w = v := by simpa using h2
    subst e1 e2
    show List.lookup g ((g, w) :: r.zip ws) = some w
    have e : (g == g) = true := beq_self_eq_true g
    simp only [List.lookup, e]
  | g :: r, w :: ws, i + 1, f, v, nd, h1, h2 => by
    have n1 := (List.nodup_cons.mp nd)
    have h1' : r[i]? = some f := by simpa using h1
    have h2' : ws[i]? = some v := by simpa using h2
    have ne : (f == g) = false := by
      cases q : (f == g) with
      | false => rfl
      | true =>
        have e := eq_of_beq q
        exact absurd (List.mem_of_getElem? h1') (by rw [e]; exact n1.1)
    show List.lookup f ((g, w) :: r.zip ws) = some v
    simp only [List.lookup, ne]
    exact lookup_zip (fs := fs) n1.2 h1' h2'
theorem lookup_zip_no : ∀ {fs : List Str} {vs : List V} {f : Str}, fs.contains f = false → (fs.zip vs).lookup f = none
  | [], _, _, _ => rfl
  | _ :: _, [], _, _ => rfl
  | g :: r, w :: ws, f, h => by
    have h' : ((f == g) || r.contains f) = false := by rw [← List.contains_cons]; exact h
    obtain ⟨h1, h2⟩ := Bool.or_eq_false_iff.mp h'
    show List.lookup f ((g, w) :: r.zip ws) = none
    simp only [List.lookup, h1]
    exact lookup_zip_no h2
theorem flds_nd : ∀ c : Cl, (flds c).Nodup
  | .res => by decide +kernel
  | .gr => by decide +kernel
  | .pol => by decide +kernel
  | .mat => by decide +kernel
/-- o.f, the i-th attribute -/
theorem de_fld (T : ClsD C.toMd c) (i : Nat) (hi : (flds c)[i]? = some m) (h : DE C e Γ fun d => ∃ ds y, d = .ins c ds ∧ ds[i]? = some y ∧ P y) (hb : ∀ env, attributeBase e m env (eval e env) = eval e env := by intro _; rfl) : DE C (.Attribute e m pos) Γ P := ⟨fun X F B G H σ eo Q q => by
  refine U.of (pe_fld pe_U (hb _)) ?_
  refine h.run X F B G H σ eo _ fun v d G1 H1 r1 rep k1 => ?_
  obtain ⟨ds, y, rfl, hy, k1⟩ := k1
  obtain ⟨a, dx, vs, rfl, hg, ha, hl, hr⟩ := rep_ins r1.mt rep
  obtain ⟨w, hw, rw'⟩ := hr.getD hy
  exact ⟨a, C.cA c, dx, _, w, rfl, ha, by rw [F.hK]; exact T.cl, by rw [F.hK]; exact T.no m (List.mem_of_getElem? hi), lookup_zip (fs := []) (flds_nd c) hi hw, q w y G1 H1 r1 rw' k1⟩⟩
/-- o.m(e, ..) -/
theorem de_meth (T : ClsD C.toMd c) (f : Me C.toMd c m n k dfl pr) (hc : (flds c).contains m = false) (hk : k ≤ C.k) (h : DE C o Γ fun d => ∃ xs, d = .ins c xs ∧ DA C (e :: es) Γ fun ds => pr (d :: (ds ++ dfl)) P)
    (pl : Env → Sem Bool) (ht : ∀ env, eval (.Call (.Attribute o m apos) (e :: es) [] pos) env = (do
      let ov ← eval o env
      standAt apos.atName
      let (f, first) ← holding [ov] (getMethod ov m (pl env))
      callWith pos f first (backTo pos (starEach (e :: es) env)) (backToKw pos (keywordEach [] env))))
    (hst : ∀ env, starEach (e :: es) env = (false, eval e env) :: starEach es env := by intro _; rfl) (hpl : ∀ env, (backTo pos (starEach es env)).any (·.1) = false := by intro _; rfl) :
    DE C (.Call (.Attribute o m apos) (e :: es) [] pos) Γ P := ⟨fun X F B G H σ eo Q q => by
  obtain ⟨f', fd, ps, dvs, us, ok, mt, hb, hv, hd⟩ := f.ex
  refine U.of (pe_meth (C := C.cA c) (pl := pl X.env) pe_U (by rw [F.hK]; exact T.cl) (by rw [F.hK]; exact mt) (F.fn ok) (F.hr.mono hk) (by rw [F.hK]; exact hb) hv pass0 pa_U (hst _) (hpl _) (ht _)) ?_
  refine h.run X F B G H σ eo _ fun v d G1 H1 r1 rep k1 => ?_
  obtain ⟨xs, rfl, k1⟩ := k1
  obtain ⟨a, dx, vs, rfl, hg, ha, hl, hr⟩ := rep_ins r1.mt rep
  refine ⟨a, dx, _, rfl, ha, lookup_zip_no hc, ?_⟩
  refine k1.run X F B G1 H1 σ (eo.grow r1) _ fun ws ds G2 H2 r2 p2 k2 => ?_
  exact spD_ask (vs := .ref a :: ws) (ds := .ins c xs :: ds) r2.mt (.cons (rep.mono r2.ex) p2) (hd G2) (f.ar _ _ k2) k2 fun v d G' H' r rep p => q v d G' H' ((r1.trans r2).trans r) rep p⟩
theorem de_meth0 (T : ClsD C.toMd c) (f : Me C.toMd c m n k dfl pr) (hc : (flds c).contains m = false) (hk : k ≤ C.k) (h : DE C o Γ fun d => ∃ xs, d = .ins c xs ∧ pr (d :: dfl) P)
    (pl : Env → Sem Bool) (ht : ∀ env, eval (.Call (.Attribute o m apos) [] [] pos) env = (do
      let ov ← eval o env
      standAt apos.atName
      let (f, first) ← holding [ov] (getMethod ov m (pl env))
      callWith pos f first (backTo pos (starEach [] env)) (backToKw pos (keywordEach [] env)))) :
    DE C (.Call (.Attribute o m apos) [] [] pos) Γ P := ⟨fun X F B G H σ eo Q q => by
  obtain ⟨f', fd, ps, dvs, us, ok, mt, hb, hv, hd⟩ := f.ex
  refine U.of (pe_meth0 (C := C.cA c) (pl := pl X.env) pe_U (by rw [F.hK]; exact T.cl) (by rw [F.hK]; exact mt) (F.fn ok) (F.hr.mono hk) (by rw [F.hK]; exact hb) hv pass0 (ht _)) ?_
  refine h.run X F B G H σ eo _ fun v d G1 H1 r1 rep k1 => ?_
  obtain ⟨xs, rfl, k1⟩ := k1
  obtain ⟨a, dx, vs, rfl, hg, ha, hl, hr⟩ := rep_ins r1.mt rep
  refine ⟨a, dx, _, rfl, ha, lookup_zip_no hc, ?_⟩
  exact spD_ask (vs := [.ref a]) (ds := [.ins c xs]) r1.mt (.one rep) (hd G1) (f.ar _ _ k1) k1 fun v d G' H' r rep p => q v d G' H' (r1.trans r) rep p⟩

/-! ### own operators -/
theorem back_of {X : Cx} {pins : List (Addr × Obj)} {σ : L2.St} {Q : VK} {u : Value} {s : Shared} (h : EP X pins σ Q u s) : PySem.W.CmpBack (EP X pins σ Q) u s := by
  cases u with
  | notImplemented =>
    obtain ⟨v, H, I, r, q⟩ := h
    cases v with
    | int i => obtain ⟨t, e⟩ := r; cases e
    | str i => obtain ⟨t, e⟩ := r; cases e
    | byt i => obtain ⟨t, e⟩ := r; cases e
    | flt i => obtain ⟨t, e⟩ := r; cases e
    | _ => cases r
  | _ => exact h
theorem inst_at {X : Cx} {pins : List (Addr × Obj)} {σ : L2.St} {H : Hp} {s : Shared} (I : Inv X pins σ H s) {a C dx : Addr} {fs : List (Str × V)} (h : H a = some (.ins C dx fs)) : ∃ od, PySem.W.InstAt s.heap a (PySem.W.instObj C dx) C (some od) := by
  obtain ⟨mA, J, _⟩ := ins_get I.hok h
  obtain ⟨od, J, _⟩ := J.look
  exact ⟨od, J⟩
theorem opd_own {op : Operator} (T : ClsD C.toMd c) (f : Me C.toMd c m 2 k [] pr) (hm : PySem.dunder op.info.2 = m) (hk : k ≤ C.k) {xs ys : List D} (h : pr [.ins c xs, .ins c ys] P) : OpD C (binaryOp op) (.ins c xs) (.ins c ys) P := ⟨fun X F G H vx vy mt rx ry Q q => by
  intro pins s σ v u I rv ru
  obtain ⟨f', fd, ps, dvs, us, ok, me, hb, hv, hd⟩ := f.ex
  obtain ⟨a, dx, ws, rfl, _, ha, _, _⟩ := rep_ins mt rx
  obtain ⟨b, dy, zs, rfl, _, hb', _, _⟩ := rep_ins mt ry
  cases rv
  cases ru
  obtain ⟨od, J⟩ := inst_at I ha
  obtain ⟨od', J'⟩ := inst_at I hb'
  obtain ⟨m', hF⟩ := I.fr
  refine PySem.W.binop_K (C := C.cA c) hF I.ok.mod.kin J J'.type (by rw [F.hK]; exact T.first) (by rw [F.hK, hm]; exact me.at_) (by rw [F.hK]; exact me.fn) ?_
  refine thn (run_fn (us := [.ref a, .ref b]) (vs := [.ref a, .ref b]) (F.fn ok) (F.hr.mono hk) (by rw [F.hK]; exact hb) hv (pass0 (X := X)) I (.cons rfl (.cons rfl .nil)) (spD_ask (cA := C.cA) (ds := [.ins c xs, .ins c ys]) mt (.cons rx (.one ry)) (hd G) (f.ar _ _ h) h q)) fun _ _ z => back_of z⟩
theorem und_neg (T : ClsD C.toMd c) (f : Me C.toMd c "__neg__" 1 k [] pr) (hk : k ≤ C.k) {xs : List D} (h : pr [.ins c xs] P) : UnD C (unaryOp .USub) (.ins c xs) P := ⟨fun X F G H vx mt rx Q q => by
  intro pins s σ v I rv
  obtain ⟨f', fd, ps, dvs, us, ok, me, hb, hv, hd⟩ := f.ex
  obtain ⟨a, dx, ws, rfl, _, ha, _, _⟩ := rep_ins mt rx
  cases rv
  obtain ⟨od, J⟩ := inst_at I ha
  obtain ⟨m', hF⟩ := I.fr
  refine PySem.W.ksp_neg (C := C.cA c) hF I.ok.mod.kin J (by rw [F.hK]; exact me.at_) (by rw [F.hK]; exact me.fn) ?_
  exact run_fn (us := [.ref a]) (vs := [.ref a]) (F.fn ok) (F.hr.mono hk) (by rw [F.hK]; exact hb) hv (pass0 (X := X)) I (.cons rfl .nil) (spD_ask (cA := C.cA) (ds := [.ins c xs]) mt (.one rx) (hd G) (f.ar _ _ h) h q)⟩
/-- == by an own __eq__ -/
theorem opd_eq (T : ClsD C.toMd c) (f : Me C.toMd c "__eq__" 2 k [] pr) (hk : k ≤ C.k) {xs ys : List D} (h : pr [.ins c xs, .ins c ys] P) : OpD C (compareOp .Eq) (.ins c xs) (.ins c ys) P := ⟨fun X F G H vx vy mt rx ry Q q => by
  intro pins s σ v u I rv ru
  obtain ⟨f', fd, ps, dvs, us, ok, me, hb, hv, hd⟩ := f.ex
  obtain ⟨a, dx, ws, rfl, _, ha, _, _⟩ := rep_ins mt rx
  obtain ⟨b, dy, zs, rfl, _, hb', _, _⟩ := rep_ins mt ry
  cases rv
  cases ru
  obtain ⟨od, J⟩ := inst_at I ha
  obtain ⟨od', J'⟩ := inst_at I hb'
  obtain ⟨m', hF⟩ := I.fr
  show wpAny (model X.prog X.w) X.A (richCompare .Eq (.ref a) (.ref b)) _ _ _
  refine PySem.W.cmp_K (op := .Eq) (C := C.cA c) (tb := .ref (C.cA c)) F.hr.units0 hF I.ok.mod.kin J J'.type (by simp [PySem.W.notFirst]) (by rw [F.hK]; exact me.at_) (by rw [F.hK]; exact me.fn) ?_
  refine thn (run_fn (us := [.ref a, .ref b]) (vs := [.ref a, .ref b]) (F.fn ok) (F.hr.mono hk) (by rw [F.hK]; exact hb) hv (pass0 (X := X)) I (.cons rfl (.cons rfl .nil)) (spD_ask (cA := C.cA) (ds := [.ins c xs, .ins c ys]) mt (.cons rx (.one ry)) (hd G) (f.ar _ _ h) h q)) fun _ _ z => back_of z⟩
end
end DK

-- part DKe
set_option maxHeartbeats 4000000
/-! # != by an own __eq__; a call somewhere below; == of tuples. -/
namespace DK
open PySem PySem.Spec PyProof.Rows L2

section
variable {M : Model} {A : Around} {E : Value → Shared → Prop} {s : Shared} {K : PySem.W.Frag} {x C : Addr} {ox : Obj} {od : Option Obj}
theorem ifBoundNe {args : List Value} {Q : Option Value → Shared → Prop} (X : K.In s.heap) (I : PySem.W.InstAt s.heap x ox C od) (hs : PySem.W.findIn K (.ref C) "__ne__" = some (some (.builtin "object.__ne__")))
    (h : wpAny M A (call (.builtin "object.__ne__") (.ref x :: args)) (fun v => Q (some v)) E s) : wpAny M A (callSpecialIfBound? (.ref x) "__ne__" args) Q E s := by
  simp only [callSpecialIfBound?, bindSpecialIfBound?]
  refine wpAny_holding (wpAny_bind (wpAny_bind (wpAny_bind (I.type.here ((PySem.W.looks_findIn X hs).here ?_)))))
  simp only [PySem.F.cmp_object.ne.bind]
  refine wpAny_bind (wpAny_askSetting (wpAny_ite ?_))
  have fin : wpAny M A (call (.builtin "object.__ne__") ([.ref x] ++ args) >>= fun v => pure (some v)) Q E s := wpAny_bind (wpAny_mono h (fun v s' h' => wpAny_pure h') fun _ _ h' => h')
  split
  · exact wpAny_bind (wpAny_pure (wpAny_pure (by exact fin)))
  · exact wpAny_tryCatch (wpAny_bind (wpAny_pure (wpAny_pure (by exact fin))))
theorem checkNe {y : Value} {Q : Unit → Shared → Prop} (X : K.In s.heap) (I : PySem.W.InstAt s.heap x ox C od) (hm : PySem.W.mroIn K C (.type "object") = some true) (hq : Q () s) :
    wpAny M A (checkBuiltinCall "object.__ne__" ⟨[.ref x, y], []⟩) Q E s := by
  have ha := PySem.F.cmpArgs_ne (.ref x) y
  simp only [checkBuiltinCall, PySem.F.cmpKind_ne, PySem.F.cmpSplit_ne]
  refine wpAny_bind ?_
  unfold isInstance
  refine wpAny_bind (I.type.here ((PySem.W.looks_mroIn X hm).here ?_))
  simp only [Bool.not_true, Bool.false_eq_true, if_false]
  cases hsig : Manifest.signature? "object.__ne__" with
  | none => exact wpAny_pure hq
  | some sig =>
    simp only [argsOk, hsig] at ha
    have h2 : Bind.checkArgs "object.__ne__" sig ⟨[.ref x, y], []⟩ = pure () := ha
    show wpAny M A (Bind.checkArgs "object.__ne__" sig ⟨[.ref x, y], []⟩) Q E _
    rw [h2]; exact wpAny_pure hq
end
section
variable {prog : Program} {w : World} {A : Around} {E : Value → Shared → Prop} {s : Shared} {K : PySem.W.Frag} {x C f : Addr} {ox : Obj} {od : Option Obj} {y tb : Value}
theorem objNe_body {Q : Fin → Shared → Prop} (hu : A.units < cLine) (X : K.In s.heap) (I : PySem.W.InstAt s.heap x ox C od) (hs : PySem.W.findIn K (.ref C) "__eq__" = some (some (.ref f))) (hf : PySem.W.isFn K (.ref f) = true)
    (h : wpAny (model prog w) A (call (.ref f) [.ref x, y]) (fun v s' => ∃ b, v = .bool b ∧ Q (.done (.ret (.bool (!b)))) s') E s) :
    wpAny (model prog w) A (Builtin.«object.__ne__» ⟨[.ref x, y], []⟩) Q E s := by
  unfold Builtin.«object.__ne__»
  repeat (first
    | with_reducible refine wpAny_cRoomFor hu ?_
    | (refine wpAny_bind (m := callSpecialIfBound? (.ref x) (Str.ofString "__eq__") [y])
        (PySem.W.ifBound_K X I hs hf (wpAny_mono h (fun r s' hr => by
          obtain ⟨b, rfl, hq⟩ := hr
          repeat (first | exact hq | exact wpAny_pure hq | exact wpAny_truthy_bool hq | (refine wpAny_bind (m := truthy (.bool _)) (wpAny_truthy_bool ?_)) | wp_step)) fun _ _ e => e)))
    | wp_step)
theorem ne_K {Q : Value → Shared → Prop} (hu : A.units + 1 < cLine) (X : K.In s.heap) (I : PySem.W.InstAt s.heap x ox C od) (hb : PySem.W.Looks (model prog w) s.heap (typeOf y) tb) (hn : PySem.W.notFirst K C tb = true)
    (hne : PySem.W.findIn K (.ref C) "__ne__" = some (some (.builtin "object.__ne__"))) (hm : PySem.W.mroIn K C (.type "object") = some true) (hs : PySem.W.findIn K (.ref C) "__eq__" = some (some (.ref f))) (hf : PySem.W.isFn K (.ref f) = true)
    (h : wpAny (model prog w) A.in1 (call (.ref f) [.ref x, y]) (fun v s' => ∃ b, v = .bool b ∧ Q (.bool (!b)) s') E s) : wpAny (model prog w) A (richCompare .NotEq (.ref x) y) Q E s := by
  have one : wpAny (model prog w) A (tryCompare (.ref x) (cmpInfo .NotEq).2.1 y) (fun r s' => ∃ v, r = some v ∧ Q v s') E s := by
    show wpAny (model prog w) A (tryCompare (.ref x) "__ne__" y) _ E s
    unfold tryCompare
    refine wpAny_bind (ifBoundNe X I hne (wpAny_call (codeAny_call_builtin PySem.F.cmp_object.ne.plain PySem.F.cmpEntry_ne (checkNe X I hm ?_))))
    refine objNe_body (A := A.in1) hu X I hs hf (wpAny_mono h (fun v s' hv => ?_) fun _ _ e => e)
    obtain ⟨b, rfl, hq⟩ := hv
    first | exact ⟨b, rfl, wpAny_pure ⟨_, rfl, hq⟩⟩ | exact ⟨b, rfl, wpAny_pure (wpAny_pure ⟨_, rfl, hq⟩)⟩ | exact ⟨b, rfl, ⟨_, rfl, hq⟩⟩
  unfold richCompare
  simp only [PySem.oneThing_ref]
  refine wpAny_holding (wpAny_bind (wpAny_cRoomFor (Nat.lt_of_succ_lt hu) ?_))
  refine wpAny_bind (I.type.here (wpAny_bind (hb.here ?_)))
  split
  · rename_i q
    have e : PySem.W.subIn K tb (.ref C) = some false := by
      rcases Bool.or_eq_true_iff.mp hn with e | e
      · rw [beq_iff_eq.mp e] at q; simp at q
      · exact beq_iff_eq.mp e
    refine wpAny_bind ((PySem.W.looks_subIn X e).here ?_)
    simp only [Bool.false_eq_true, if_false]
    refine wpAny_bind (wpAny_mono one (fun r s' z => ?_) fun _ _ e => e)
    obtain ⟨v, rfl, hq⟩ := z
    exact wpAny_pure hq
  · refine wpAny_bind (wpAny_pure ?_)
    simp only [Bool.false_eq_true, if_false]
    refine wpAny_bind (wpAny_mono one (fun r s' z => ?_) fun _ _ e => e)
    obtain ⟨v, rfl, hq⟩ := z
    exact wpAny_pure hq
end
/-- a call somewhere below the running body -/
theorem run_sub {X : Cx} {k n : Nat} {f : Addr} {fd : FuncData} {ps : List Str} {sp : Sp} {A : Around} {pins : List (Addr × Obj)} {σ : L2.St} {H : Hp} {s : Shared} {us : List Value} {vs : List V} {Q : VK}
    (F : FnOk X.prog X.w X.K X.mg X.base CX0 k f fd ps sp) (sb : Sub X k A) (hb : Binds X.K fd ps []) (I : Inv X pins σ H s) (r : Vals vs us) (h : sp vs H Q E0) : wpAny (model X.prog X.w) A (call (.ref f) us) (EP X pins σ Q) X.xe s := by
  have e0 : Env0 X.prog X.w X.K X.mg X.base A X.stack s H := by
    have e := I.env0
    exact ⟨by rw [sb.fr]; exact e.frames, e.mod, e.bs, e.bsz, e.funs, e.frf, e.hok, e.bare⟩
  have hl := F.len _ _ _ _ h
  refine wpAny_call (codeAny_mono (F.run A X.stack s H ⟨us, []⟩ us vs Q E0 sb.room e0 (by
    have := hb s us I.kIn (by rw [List.append_nil, ← r.length]; exact hl)
    rw [List.append_nil] at this
    exact this) r h) fun r s' hq => ?_)
  cases r with
  | error e => exact False.elim hq
  | ok fl =>
    cases fl with
    | ret u => exact I.after hq
    | next => exact False.elim hq
    | brk => exact False.elim hq
    | cont => exact False.elim hq
section
variable {C : Ctx} {P : D → Prop} {c : Cl} {k : Nat} {pr : List D → (D → Prop) → Prop}
/-- != by an own __eq__ -/
theorem opd_ne (T : ClsD C.toMd c) (hne : PySem.W.findIn C.K (.ref (C.cA c)) "__ne__" = some (some (.builtin "object.__ne__"))) (f : Me C.toMd c "__eq__" 2 k [] pr) (hk : k + 1 ≤ C.k) {xs ys : List D} (h : pr [.ins c xs, .ins c ys] (isB fun b => P (.bl (!b)))) :
    OpD C (compareOp .NotEq) (.ins c xs) (.ins c ys) P := ⟨fun X F G H vx vy mt rx ry Q q => by
  intro pins s σ v u I rv ru
  obtain ⟨f', fd, ps, dvs, us, ok, me, hb, hv, hd⟩ := f.ex
  obtain ⟨a, dx, ws, rfl, _, ha, _, _⟩ := rep_ins mt rx
  obtain ⟨b, dy, zs, rfl, _, hb', _, _⟩ := rep_ins mt ry
  cases rv
  cases ru
  obtain ⟨od, J⟩ := inst_at I ha
  obtain ⟨od', J'⟩ := inst_at I hb'
  show wpAny (model X.prog X.w) X.A (richCompare .NotEq (.ref a) (.ref b)) _ _ _
  have hu : X.A.units + 1 < cLine := hu_of F.hr
  refine ne_K (K := X.K) (C := C.cA c) (f := f') (tb := .ref (C.cA c)) hu I.kIn J J'.type (by simp [PySem.W.notFirst]) (by rw [F.hK]; exact hne) (by rw [F.hK]; exact T.hm) (by rw [F.hK]; exact me.at_) (by rw [F.hK]; exact me.fn) ?_
  have dv : dvs = [] := by
    have := (hd G).length
    cases dvs with
    | nil => rfl
    | cons _ _ => cases this
  subst dv
  cases hv
  refine thn (run_sub (us := [.ref a, .ref b]) (vs := [.ref a, .ref b]) (n := 0) (F.fn ok) ⟨(F.hr.mono hk).in1, rfl⟩ (by rw [F.hK]; exact hb) I (.cons rfl (.cons rfl .nil))
    (Q := fun v H' => ∃ b, v = .bl b ∧ Q (.bl (!b)) H') (spD_ask (cA := C.cA) (dvs := []) (ds := [.ins c xs, .ins c ys]) mt (.cons rx (.one ry)) .nil (f.ar _ _ h) h fun v d G' H' r rep p => ?_)) fun u s' z => ?_
  · obtain ⟨b', rfl, p⟩ := p
    exact ⟨b', rep_bl rep, q (.bl (!b')) (.bl (!b')) G' H' r (.bl _) p⟩
  · obtain ⟨v, H', I', r, b', rfl, q'⟩ := z
    cases r
    exact ⟨b', rfl, .bl (!b'), H', I', rfl, q'⟩⟩
end
end DK

-- part DKf
set_option maxHeartbeats 4000000
/-! # The rules: numbers, lists, tuples, built-ins. -/
namespace DK
open PySem PySem.Spec PyProof.Rows L2

section
variable {C : Ctx} {P : D → Prop} {Γ : Sl} {pos p p2 apos cpos : Pos} {x : Str} {a b e : Expr}
theorem rep_int {cA : Cl → Addr} {G : Gh} {v : V} {i : Int} (r : Rep cA G v (.int i)) : v = .int i := by cases r; rfl
/-! ### numbers -/
theorem opd_I {f : Value → Value → Sem Value} {Cd : Int → Int → Prop} {g : Int → Int → Int} (ho : ∀ X : Cx, OpR X f (rI Cd fun i j => .int (g i j))) {i j : Int} (hc : Cd i j) (k : P (.int (g i j))) : OpD C f (.int i) (.int j) P := ⟨fun X F G H vx vy mt rx ry Q q =>
  RU.of (ho X) ⟨i, j, rep_int rx, rep_int ry, hc, q _ _ G H (.rfl' mt) (.int _) k⟩⟩
theorem opd_I0 {f : Value → Value → Sem Value} {g : Int → Int → Int} (ho : ∀ X : Cx, OpR X f (rI0 fun i j => .int (g i j))) {i j : Int} (k : P (.int (g i j))) : OpD C f (.int i) (.int j) P := ⟨fun X F G H vx vy mt rx ry Q q =>
  RU.of (ho X) ⟨i, j, rep_int rx, rep_int ry, q _ _ G H (.rfl' mt) (.int _) k⟩⟩
theorem opd_B0 {f : Value → Value → Sem Value} {g : Int → Int → Bool} (ho : ∀ X : Cx, OpR X f (rI0 fun i j => .bl (g i j))) {i j : Int} (k : P (.bl (g i j))) : OpD C f (.int i) (.int j) P := ⟨fun X F G H vx vy mt rx ry Q q =>
  RU.of (ho X) ⟨i, j, rep_int rx, rep_int ry, q _ _ G H (.rfl' mt) (.bl _) k⟩⟩
variable {i j : Int}
theorem opd_add (k : P (.int (i + j))) : OpD C (binaryOp .Add) (.int i) (.int j) P := opd_I0 (fun _ => op_add) k
theorem opd_sub (k : P (.int (i - j))) : OpD C (binaryOp .Sub) (.int i) (.int j) P := opd_I0 (fun _ => op_sub) k
theorem opd_mul (h : CMul i j) (k : P (.int (i * j))) : OpD C (binaryOp .Mult) (.int i) (.int j) P := opd_I (fun _ => op_mul) h k
theorem opd_mod (h : 0 < j) (k : P (.int (i % j))) : OpD C (binaryOp .Mod) (.int i) (.int j) P := opd_I (fun _ => op_mod) h k
theorem opd_fdiv (h : 0 < j ∧ j < 1073741824) (k : P (.int (i / j))) : OpD C (binaryOp .FloorDiv) (.int i) (.int j) P := opd_I (fun _ => op_fdiv) h k
theorem opd_pow (h : 0 ≤ j ∧ j ≤ 1000000 ∧ i.natAbs < 2 ^ 64) (k : P (.int (i ^ j.toNat))) : OpD C (binaryOp .Pow) (.int i) (.int j) P := opd_I (fun _ => op_pow) h k
theorem opd_lt (k : P (.bl (decide (i < j)))) : OpD C (compareOp .Lt) (.int i) (.int j) P := opd_B0 (fun _ => op_lt) k
theorem opd_le (k : P (.bl (decide (i ≤ j)))) : OpD C (compareOp .LtE) (.int i) (.int j) P := opd_B0 (fun _ => op_le) k
theorem opd_gt (k : P (.bl (decide (j < i)))) : OpD C (compareOp .Gt) (.int i) (.int j) P := opd_B0 (fun _ => op_gt) k
theorem opd_ge (k : P (.bl (decide (j ≤ i)))) : OpD C (compareOp .GtE) (.int i) (.int j) P := opd_B0 (fun _ => op_ge) k
theorem opd_eqI (k : P (.bl (decide (i = j)))) : OpD C (compareOp .Eq) (.int i) (.int j) P := ⟨fun X F G H vx vy mt rx ry Q q => by
  cases rep_int rx; cases rep_int ry
  refine RU.of op_eq ⟨rfl, ?_⟩
  have e : decide (V.int i = V.int j) = decide (i = j) := by rw [dec_int, Bool.beq_eq_decide_eq]
  rw [e]
  exact q _ _ G H (.rfl' mt) (.bl _) k⟩
theorem opd_neI (k : P (.bl (!decide (i = j)))) : OpD C (compareOp .NotEq) (.int i) (.int j) P := ⟨fun X F G H vx vy mt rx ry Q q => by
  cases rep_int rx; cases rep_int ry
  refine RU.of op_ne ⟨rfl, ?_⟩
  have e : decide (V.int i = V.int j) = decide (i = j) := by rw [dec_int, Bool.beq_eq_decide_eq]
  rw [e]
  exact q _ _ G H (.rfl' mt) (.bl _) k⟩
theorem und_negI (k : P (.int (-i))) : UnD C (unaryOp .USub) (.int i) P := ⟨fun X F G H vx mt rx Q q => RU1.of un_neg ⟨i, rep_int rx, q _ _ G H (.rfl' mt) (.int _) k⟩⟩
/-- is None -/
def isNon : D → Bool
  | .non => true
  | _ => false
theorem isNon_dec {cA : Cl → Addr} {G : Gh} {v : V} {d : D} (r : Rep cA G v d) : decide (v = .non) = isNon d := by
  cases r <;> first | rfl | exact decide_eq_false (fun h => nomatch h)
theorem opd_isN {d : D} (k : P (.bl (isNon d))) : OpD C (compareOp .Is) d .non P := ⟨fun X F G H vx vy mt rx ry Q q => by
  cases ry
  refine RU.of op_isN ⟨rfl, ?_⟩
  rw [isNon_dec rx]
  exact q _ _ G H (.rfl' mt) (.bl _) k⟩
theorem opd_notN {d : D} (k : P (.bl (!isNon d))) : OpD C (compareOp .IsNot) d .non P := ⟨fun X F G H vx vy mt rx ry Q q => by
  cases ry
  refine RU.of op_notN ⟨rfl, ?_⟩
  rw [isNon_dec rx]
  exact q _ _ G H (.rfl' mt) (.bl _) k⟩
/-! ### sequences -/
def seqOf : D → Option (List D)
  | .lst ds => some ds
  | .tup ds => some ds
  | _ => none
theorem rep_seq {cA : Cl → Addr} {G : Gh} {H : Hp} {v : V} {d : D} {ds : List D} (K : PySem.W.Frag) (m : Mt G H) (r : Rep cA G v d) (h : seqOf d = some ds) : ∃ a vs, v = .ref a ∧ (SqL K H a vs ∨ SqT K H a vs) ∧ RepL cA G vs ds := by
  cases d with
  | lst es => cases h; obtain ⟨a, vs, e, _, h2, h3⟩ := rep_lst m r; exact ⟨a, vs, e, .inl (SqL.of h2), h3⟩
  | tup es => cases h; obtain ⟨a, vs, e, _, h2, h3⟩ := rep_tup m r; exact ⟨a, vs, e, .inr (SqT.of h2), h3⟩
  | _ => cases h
theorem RepL.atI {cA : Cl → Addr} {G : Gh} {vs : List V} {ds : List D} {z : D} (r : RepL cA G vs ds) {i : Int} (h : atI ds i = some z) : ∃ w, L2.atI vs i = some w ∧ Rep cA G w z := by
  unfold L2.atI at h ⊢
  rw [r.length]
  cases q : ixN ds.length i with
  | none => rw [q] at h; cases h
  | some k =>
    rw [q] at h
    exact r.getD (i := k) h
theorem sizeB {n : Nat} (h : n ≤ 100000) : n ≤ sizeLine := Nat.le_trans h (by rw [sizeLine_eq]; decide)
theorem sizeLt {n : Nat} (h : n < 100000) : n < sizeLine := Nat.lt_of_lt_of_le h (by rw [sizeLine_eq]; decide)
/-- xs + ys, lists -/
theorem opd_cat {xs ys : List D} (hl : xs.length + ys.length ≤ 100000) (k : P (.lst (xs ++ ys))) : OpD C (binaryOp .Add) (.lst xs) (.lst ys) P := ⟨fun X F G H vx vy mt rx ry Q q => by
  obtain ⟨a, vs, rfl, _, ha, r1⟩ := rep_lst mt rx
  obtain ⟨b, ws, rfl, _, hb, r2⟩ := rep_lst mt ry
  refine RU.of op_cat ⟨a, b, vs, ws, rfl, rfl, ha, hb, sizeB (by rw [r1.length, r2.length]; exact hl), fun n hn => ?_⟩
  obtain ⟨g, r⟩ := new_lst (.rfl' mt) (r1.append r2) hn
  exact q _ _ _ _ g r k⟩
theorem opd_catT {xs ys : List D} (hl : xs.length + ys.length ≤ 100000) (k : P (.tup (xs ++ ys))) : OpD C (binaryOp .Add) (.tup xs) (.tup ys) P := ⟨fun X F G H vx vy mt rx ry Q q => by
  obtain ⟨a, vs, rfl, _, ha, r1⟩ := rep_tup mt rx
  obtain ⟨b, ws, rfl, _, hb, r2⟩ := rep_tup mt ry
  refine RU.of op_catA ⟨a, b, vs, ws, rfl, rfl, SqT.of ha, SqT.of hb, sizeB (by rw [r1.length, r2.length]; exact hl), fun e => ?_, fun _ e => ?_, fun _ _ n hn => ?_⟩
  · subst e
    cases r1
    exact q _ _ G H (.rfl' mt) ry k
  · subst e
    cases r2
    rw [List.append_nil] at k
    exact q _ _ G H (.rfl' mt) rx k
  · obtain ⟨g, r⟩ := new_tup (.rfl' mt) (r1.append r2) hn
    exact q _ _ _ _ g r k⟩
/-- [..] * n, a new list -/
theorem df_rep {A : List D → Prop} (h : DE C a Γ fun d => ∃ xs, d = .lst xs ∧ DE C b Γ fun y => ∃ i : Int, y = .int i ∧ 0 ≤ i ∧ xs.length * i.toNat ≤ 100000 ∧ i ≤ 100000 ∧ A (List.replicate i.toNat xs).flatten) : DF C (.BinOp a .Mult b pos) Γ A := ⟨fun X F B G H σ eo Q q => by
  refine U.of (pe_op op_rep pe_U pe_U) ?_
  refine h.run X F B G H σ eo _ fun v d G1 H1 r1 rep k1 => ?_
  obtain ⟨xs, rfl, k1⟩ := k1
  refine k1.run X F B G1 H1 σ (eo.grow r1) _ fun v2 d2 G2 H2 r2 rep2 k2 => ?_
  obtain ⟨i, rfl, h0, hl, hi, k2⟩ := k2
  obtain ⟨l, vs, rfl, hg, _, rr⟩ := rep_lst r1.mt rep
  have ha : H2 l = some (.lst vs) := r2.mt _ _ (r2.ex _ _ hg)
  refine ⟨l, i, vs, rfl, rep_int rep2, ha, by omega, by omega, sizeB (by rw [rr.length]; exact hl), fun n hn => ?_⟩
  exact q n _ _ G2 _ ((r1.trans r2).new hn) ((r1.trans r2).free hn) (r2.mt.free hn) upd_same ((rr.mono r2.ex).rep _) k2⟩
/-- xs[i] -/
theorem de_ix (hs : PlainIx b) (h : DE C a Γ fun d => ∃ ds, seqOf d = some ds ∧ DE C b Γ fun y => ∃ i z, y = .int i ∧ atI ds i = some z ∧ P z) : DE C (.Subscript a b pos) Γ P := ⟨fun X F B G H σ eo Q q => by
  refine U.of (pe_ix ix_seq pe_U pe_U hs) ?_
  refine h.run X F B G H σ eo _ fun v d G1 H1 r1 rep k1 => ?_
  obtain ⟨ds, hd, k1⟩ := k1
  refine k1.run X F B G1 H1 σ (eo.grow r1) _ fun v2 d2 G2 H2 r2 rep2 k2 => ?_
  obtain ⟨i, z, rfl, hz, k2⟩ := k2
  obtain ⟨l, vs, rfl, hq, rr⟩ := rep_seq X.K r2.mt (rep.mono r2.ex) hd
  obtain ⟨w, hw, rw'⟩ := rr.atI hz
  have fin := q w z G2 H2 (r1.trans r2) rw' k2
  rcases hq with hq | hq
  · exact .inl ⟨l, vs, i, w, rfl, rep_int rep2, hq, hw, fin⟩
  · exact .inr (.inl ⟨l, vs, i, w, rfl, rep_int rep2, hq, hw, fin⟩)⟩
/-- the same of a list that is still growing -/
theorem de_ixG (s : Nat) {ds : List D} (hs : PlainIx b) (he : Γ[s]? = some (some (.grw ds))) (hN : C.N[s]? = some x) (hv : visB C.sc x = true) (h : DE C b Γ fun y => ∃ i z, y = .int i ∧ atI ds i = some z ∧ P z)
    (hd : (x == ("__debug__" : Str)) = false := by decide) (hcd : (x == ("__classdict__" : Str)) = false := by decide) : DE C (.Subscript (.Name x p) b pos) Γ P := ⟨fun X F B G H σ eo Q q => by
  refine U.of (pe_ix ix_list (pe_var (i := s) (by rw [F.hN]; exact hN) (by rw [F.hs]; exact vis_of hv) hd hcd) pe_U hs) ?_
  obtain ⟨l, vs, e1, _, e2, e3, e4⟩ : ∃ a vs, σ[s]? = some (some (V.ref a)) ∧ B.h0 a = none ∧ G a = none ∧ H a = some (.lst vs) ∧ RepL C.cA G vs ds := eo.at_ s _ he
  refine ⟨.ref l, e1, ?_⟩
  refine h.run X F B G H σ eo _ fun v2 d2 G2 H2 r2 rep2 k2 => ?_
  obtain ⟨i, z, rfl, hz, k2⟩ := k2
  obtain ⟨w, hw, rw'⟩ := (e4.mono r2.ex).atI hz
  exact ⟨l, vs, i, w, rfl, rep_int rep2, SqL.of (r2.old l _ e3 e2).2, hw, q w z G2 H2 r2 rw' k2⟩⟩
/-! ### slices -/
def cutD (xs : List D) (lo hi : Option Int) : List D := (xs.drop (HT.sIx xs.length 0 lo)).take (HT.sIx xs.length xs.length hi - HT.sIx xs.length 0 lo)
theorem RepL.cut {cA : Cl → Addr} {G : Gh} {vs : List V} {ds : List D} (r : RepL cA G vs ds) (lo hi : Option Int) : RepL cA G (cutV vs lo hi) (cutD ds lo hi) := by
  unfold cutV cutD
  rw [r.length]
  exact (r.drop _).take _
def UO (X : Cx) (e : Option Expr) : TO := fun σ H Q => ∀ (pins : List (Addr × Obj)) (s : Shared), Inv X pins σ H s →
    wpAny (model X.prog X.w) X.A (evalPart e X.env) (fun u s' => ∃ o H', Inv X pins σ H' s' ∧ IsPart u o ∧ Q o H') X.xe s
theorem po_U {X : Cx} {e : Option Expr} : PO X e (UO X e) := ⟨fun pins s _ _ _ I h => h pins s I⟩
theorem UO.of {X : Cx} {e : Option Expr} {t : TO} {σ : L2.St} {H : Hp} {Q : Option Int → Hp → Prop} (h : PO X e t) (q : t σ H Q) : UO X e σ H Q := fun pins s I => h.run pins s σ H Q I q
structure DO (C : Ctx) (e : Option Expr) (Γ : Sl) (P : Option Int → Prop) : Prop where
  run : ∀ X, Fits C X → ∀ B G H σ, EO C.cA B G H σ Γ → ∀ Q : Option Int → Hp → Prop, (∀ o G' H', Gr G H G' H' → P o → Q o H') → UO X e σ H Q
theorem do_none {T : Option Int → Prop} (k : T none) : DO C none Γ T := ⟨fun X F B G H σ eo Q q => UO.of po_none (q none G H (.rfl' eo.gr.mt) k)⟩
theorem do_some {T : Option Int → Prop} (h : DE C e Γ fun d => ∃ i, d = .int i ∧ T (some i)) : DO C (some e) Γ T := ⟨fun X F B G H σ eo Q q => UO.of (po_some pe_U) (h.run X F B G H σ eo _ fun v d G1 H1 r1 rep k1 => by
  obtain ⟨i, rfl, k1⟩ := k1
  exact ⟨i, rep_int rep, q (some i) G1 H1 r1 k1⟩)⟩
/-- xs[lo:hi], a list: a new one -/
theorem df_slice {lo hi : Option Expr} {A : List D → Prop} (h : DE C e Γ fun d => ∃ ds, d = .lst ds ∧ DO C lo Γ fun l => DO C hi Γ fun u => A (cutD ds l u)) : DF C (.Subscript e (.Slice lo hi none p2) pos) Γ A := ⟨fun X F B G H σ eo Q q => by
  refine U.of (pe_slice sl_list pe_U po_U po_U) ?_
  refine h.run X F B G H σ eo _ fun v d G1 H1 r1 rep k1 => ?_
  obtain ⟨ds, rfl, k1⟩ := k1
  refine k1.run X F B G1 H1 σ (eo.grow r1) _ fun l G2 H2 r2 k2 => ?_
  refine k2.run X F B G2 H2 σ ((eo.grow r1).grow r2) _ fun u G3 H3 r3 k3 => ?_
  obtain ⟨n, vs, rfl, _, hn, rr⟩ := rep_lst r3.mt (rep.mono (r2.ex.trans r3.ex))
  refine ⟨n, vs, rfl, SqL.of hn, fun z hz => ?_⟩
  have r := (r1.trans r2).trans r3
  exact q z _ _ G3 _ (r.new hz) (r.free hz) (r3.mt.free hz) upd_same (rr.cut l u) k3⟩
/-- t[lo:hi], a tuple -/
theorem de_sliceT {lo hi : Option Expr} (h : DE C e Γ fun d => ∃ ds, d = .tup ds ∧ DO C lo Γ fun l => DO C hi Γ fun u => P (.tup (cutD ds l u))) : DE C (.Subscript e (.Slice lo hi none p2) pos) Γ P := ⟨fun X F B G H σ eo Q q => by
  refine U.of (pe_slice sl_tupA pe_U po_U po_U) ?_
  refine h.run X F B G H σ eo _ fun v d G1 H1 r1 rep k1 => ?_
  obtain ⟨ds, rfl, k1⟩ := k1
  refine k1.run X F B G1 H1 σ (eo.grow r1) _ fun l G2 H2 r2 k2 => ?_
  refine k2.run X F B G2 H2 σ ((eo.grow r1).grow r2) _ fun u G3 H3 r3 k3 => ?_
  have rep3 := rep.mono (r2.ex.trans r3.ex)
  obtain ⟨n, vs, rfl, _, hn, rr⟩ := rep_tup r3.mt rep3
  have r := (r1.trans r2).trans r3
  refine ⟨n, vs, rfl, SqT.of hn, fun hw => ?_, fun _ z hz => ?_⟩
  · have e : cutD ds l u = ds := by
      rw [rr.length] at hw
      unfold cutD
      rw [hw.1, hw.2, List.drop_zero, Nat.sub_zero, List.take_length]
    rw [e] at k3
    exact q _ _ G3 H3 r rep3 k3
  · obtain ⟨g, t⟩ := new_tup r (rr.cut l u) hz
    exact q _ _ _ _ g t k3⟩
end
end DK

-- part DKg
set_option maxHeartbeats 4000000
/-! # The rules: built-ins by name, isinstance. -/
namespace DK
open PySem PySem.Spec PyProof.Rows L2

def RC (X : Cx) (f : Value) : List V → Hp → VK → Prop := fun vs H Q => ∀ (pins : List (Addr × Obj)) (s : Shared) (σ : L2.St) (us : List Value), Inv X pins σ H s → Vals vs us → wpAny (model X.prog X.w) X.A (call f us) (EP X pins σ Q) X.xe s
theorem call_U {X : Cx} {f : Value} : CallR X f (RC X f) := fun pins s σ H vs us Q I r h => h pins s σ us I r
theorem RC.of {X : Cx} {f : Value} {r : List V → Hp → VK → Prop} {vs : List V} {H : Hp} {Q : VK} (h : CallR X f r) (q : r vs H Q) : RC X f vs H Q := fun pins s σ us I rv => h pins s σ H vs us Q I rv q
structure CallD (C : Ctx) (f : Value) (ds : List D) (P : D → Prop) : Prop where
  run : ∀ X, Fits C X → ∀ G H vs, Mt G H → RepL C.cA G vs ds → ∀ Q : VK, (∀ v d G' H', Gr G H G' H' → Rep C.cA G' v d → P d → Q v H') → RC X f vs H Q
section
variable {C : Ctx} {P : D → Prop} {Γ : Sl} {pos p p1 p2 p3 p4 pt : Pos} {x y z : Str} {e : Expr} {es : List Expr} {id T T2 : String} {k1 : Nat}
theorem de_callB (hg : glB C.sc x = true) (hm : C.mg x = none) (hv : bootBuiltins x = some (.builtin id)) (h : DA C (e :: es) Γ fun ds => CallD C (.builtin id) ds P) (hn : x ≠ "__name__" := by decide) (hdb : (x == ("__debug__" : Str)) = false := by decide)
    (he : ∀ env, starEach (e :: es) env = (false, eval e env) :: starEach es env := by intro _; rfl) (hpl : ∀ env, (backTo pos (starEach es env)).any (·.1) = false := by intro _; rfl) : DE C (.Call (.Name x p) (e :: es) [] pos) Γ P := ⟨fun X F B G H σ eo Q q => by
  refine U.of (pe_callB call_U (gl_of F hg) (by rw [F.hm]; exact hm) hv pa_U hn hdb (he _) (hpl _)) ?_
  refine h.run X F B G H σ eo _ fun vs ds G1 H1 r1 p1 k1 => ?_
  exact k1.run X F G1 H1 vs r1.mt p1 Q fun v d G' H' r rep p => q v d G' H' (r1.trans r) rep p⟩
theorem de_callTy (hg : glB C.sc x = true) (hm : C.mg x = none) (hv : bootBuiltins x = some (.type T)) (h : DA C (e :: es) Γ fun ds => CallD C (.type T) ds P) (hn : x ≠ "__name__" := by decide) (hdb : (x == ("__debug__" : Str)) = false := by decide)
    (he : ∀ env, starEach (e :: es) env = (false, eval e env) :: starEach es env := by intro _; rfl) (hpl : ∀ env, (backTo pos (starEach es env)).any (·.1) = false := by intro _; rfl) : DE C (.Call (.Name x p) (e :: es) [] pos) Γ P := ⟨fun X F B G H σ eo Q q => by
  refine U.of (pe_callTy call_U (gl_of F hg) (by rw [F.hm]; exact hm) hv pa_U hn hdb (he _) (hpl _)) ?_
  refine h.run X F B G H σ eo _ fun vs ds G1 H1 r1 p1 k1 => ?_
  exact k1.run X F G1 H1 vs r1.mt p1 Q fun v d G' H' r rep p => q v d G' H' (r1.trans r) rep p⟩
/-- list(xs), a new list -/
theorem df_list {A : List D → Prop} (hg : glB C.sc x = true) (hm : C.mg x = none) (hv : bootBuiltins x = some (.type "list")) (h : DE C e Γ fun d => ∃ ds, seqOf d = some ds ∧ A ds) (hn : x ≠ "__name__" := by decide) (hdb : (x == ("__debug__" : Str)) = false := by decide)
    (he : ∀ env, starEach [e] env = (false, eval e env) :: starEach [] env := by intro _; rfl) (hpl : ∀ env, (backTo pos (starEach [] env)).any (·.1) = false := by intro _; rfl) : DF C (.Call (.Name x p) [e] [] pos) Γ A := ⟨fun X F B G H σ eo Q q => by
  refine U.of (pe_callTy call_list_of (gl_of F hg) (by rw [F.hm]; exact hm) hv (pa_cons pe_U pa_nil (he _)) hn hdb (he _) (hpl _)) ?_
  refine h.run X F B G H σ eo _ fun v d G1 H1 r1 rep k1 => ?_
  obtain ⟨ds, hd, k1⟩ := k1
  obtain ⟨a, vs, rfl, hq, rr⟩ := rep_seq X.K r1.mt rep hd
  exact ⟨a, vs, rfl, hq, fun l hl => q l vs ds G1 _ (r1.new hl) (r1.free hl) (r1.mt.free hl) upd_same rr k1⟩⟩
/-- len of a growing list -/
theorem de_lenG (s : Nat) {ds : List D} (hg : glB C.sc "len" = true) (hm : C.mg "len" = none) (he : Γ[s]? = some (some (.grw ds))) (hN : C.N[s]? = some x) (hv : visB C.sc x = true) (k : P (.int (ds.length : Nat)))
    (hd : (x == ("__debug__" : Str)) = false := by decide) (hcd : (x == ("__classdict__" : Str)) = false := by decide) : DE C (.Call (.Name "len" p) [.Name x p1] [] pos) Γ P := ⟨fun X F B G H σ eo Q q => by
  refine U.of (pe_callB call_len_seq (gl_of F hg) (by rw [F.hm]; exact hm) PySem.boot_len (pa_cons (pe_var (i := s) (by rw [F.hN]; exact hN) (by rw [F.hs]; exact vis_of hv) hd hcd) pa_nil)) ?_
  obtain ⟨l, vs, e1, _, e2, e3, e4⟩ : ∃ a vs, σ[s]? = some (some (V.ref a)) ∧ B.h0 a = none ∧ G a = none ∧ H a = some (.lst vs) ∧ RepL C.cA G vs ds := eo.at_ s _ he
  refine ⟨.ref l, e1, l, vs, rfl, .inl (SqL.of e3), ?_⟩
  rw [e4.length]
  exact q _ _ G H (.rfl' eo.gr.mt) (.int _) k⟩
theorem cd_len {d : D} {ds : List D} (hd : seqOf d = some ds) (k : P (.int (ds.length : Nat))) : CallD C (.builtin "len") [d] P := ⟨fun X F G H vs mt r Q q => by
  cases r with
  | cons r t =>
    cases t
    obtain ⟨a, ws, rfl, hq, rr⟩ := rep_seq X.K mt r hd
    refine RC.of call_len_seq ⟨a, ws, rfl, hq, ?_⟩
    rw [rr.length]
    exact q _ _ G H (.rfl' mt) (.int _) k⟩
theorem rep1 {cA : Cl → Addr} {G : Gh} {vs : List V} {i : Int} (r : RepL cA G vs [.int i]) : vs = [.int i] := by
  cases r with
  | cons r t => cases t; rw [rep_int r]
theorem rep2 {cA : Cl → Addr} {G : Gh} {vs : List V} {i j : Int} (r : RepL cA G vs [.int i, .int j]) : vs = [.int i, .int j] := by
  cases r with
  | cons r t => rw [rep_int r, rep1 t]
theorem cd_abs {i : Int} (k : P (.int (if i < 0 then -i else i))) : CallD C (.builtin "abs") [.int i] P := ⟨fun X F G H vs mt r Q q => RC.of call_abs ⟨i, rep1 r, q _ _ G H (.rfl' mt) (.int _) k⟩⟩
theorem cd_max2 {i j : Int} (k : P (.int (if j > i then j else i))) : CallD C (.builtin "max") [.int i, .int j] P := ⟨fun X F G H vs mt r Q q => RC.of (call_max2 F.hc) ⟨i, j, rep2 r, q _ _ G H (.rfl' mt) (.int _) k⟩⟩
theorem cd_min2 {i j : Int} (k : P (.int (if j < i then j else i))) : CallD C (.builtin "min") [.int i, .int j] P := ⟨fun X F G H vs mt r Q q => RC.of (call_min2 F.hc) ⟨i, j, rep2 r, q _ _ G H (.rfl' mt) (.int _) k⟩⟩
theorem cd_intB {b : Bool} (k : P (.int (if b then 1 else 0))) : CallD C (.type "int") [.bl b] P := ⟨fun X F G H vs mt r Q q => by
  cases r with
  | cons r t =>
    cases t
    cases rep_bl r
    exact RC.of call_int1 (.inr ⟨b, rfl, q _ _ G H (.rfl' mt) (.int _) k⟩)⟩
theorem cd_sum {ns : List Int} (k : P (.int ns.sum)) : CallD C (.builtin "sum") [.lst (ns.map D.int)] P := ⟨fun X F G H vs mt r Q q => by
  cases r with
  | cons r t =>
    cases t
    obtain ⟨a, ws, rfl, _, ha, rr⟩ := rep_lst mt r
    cases rr.ints
    exact RC.of (cr_sum F.hc) ⟨a, ns, rfl, SqL.of ha, q _ _ G H (.rfl' mt) (.int _) k⟩⟩
theorem cd_all {bs : List Bool} (k : P (.bl (bs.all fun b => b))) : CallD C (.builtin "all") [.lst (bs.map D.bl)] P := ⟨fun X F G H vs mt r Q q => by
  cases r with
  | cons r t =>
    cases t
    obtain ⟨a, ws, rfl, _, ha, rr⟩ := rep_lst mt r
    cases rr.bls
    exact RC.of (cr_all F.hc) ⟨a, bs, rfl, SqL.of ha, q _ _ G H (.rfl' mt) (.bl _) k⟩⟩
theorem cd_tupL {ds : List D} (k : P (.tup ds)) : CallD C (.type "tuple") [.lst ds] P := ⟨fun X F G H vs mt r Q q => by
  cases r with
  | cons r t =>
    cases t
    obtain ⟨a, ws, rfl, _, ha, rr⟩ := rep_lst mt r
    refine RC.of call_tuple_of ⟨a, ws, rfl, .inl ⟨SqL.of ha, fun l hl => ?_⟩⟩
    obtain ⟨g, t⟩ := new_tup (.rfl' mt) rr hl
    exact q _ _ _ _ g t k⟩
theorem cd_tupT {ds : List D} (k : P (.tup ds)) : CallD C (.type "tuple") [.tup ds] P := ⟨fun X F G H vs mt r Q q => by
  cases r with
  | cons r t =>
    cases t
    obtain ⟨a, ws, rfl, _, ha, rr⟩ := rep_tup mt r
    exact RC.of call_tuple_of ⟨a, ws, rfl, .inr ⟨SqT.of ha, q _ _ G H (.rfl' mt) r k⟩⟩⟩
/-! ### isinstance -/
def tyd (cA : Cl → Addr) : D → Option Value
  | .non => some (.type "NoneType")
  | .bl _ => some (.type "bool")
  | .int _ => some (.type "int")
  | .lst _ => some (.type "list")
  | .tup _ => some (.type "tuple")
  | .ins c _ => some (.ref (cA c))
  | _ => none
theorem tyx_of {M : Md} (T : ∀ c, ClsD M c) {G : Gh} {H : Hp} {v : V} {d : D} {t : Value} (mt : Mt G H) (r : Rep M.cA G v d) (h : tyd M.cA d = some t) : TyX M.K H v t := by
  cases r with
  | non => cases h; exact .base .non
  | bl b => cases h; exact .base (.bl b)
  | int i => cases h; exact .base (.int i)
  | lst g r => cases h; exact .base (.lst (mt _ _ g))
  | tup g r => cases h; exact .base (.tup (mt _ _ g))
  | @ins a dx c vs ds g l r => cases h; exact .base (.ins (mt _ _ g) (T c).cl (T c).ha (T c).hn (T c).htk (T c).hm)
  | adr a => cases h
  | inv g => cases h
  | frl g => cases h
theorem de_isiT (U4 : ∀ c, ClsD C.toMd c) (hg : glB C.sc "isinstance" = true) (hm : C.mg "isinstance" = none) (hg2 : glB C.sc x = true) (hm2 : C.mg x = none) (hv : bootBuiltins x = some (.type T)) (h : DE C e Γ fun d => ∃ t b, tyd C.cA d = some t ∧ PySem.W.kitOne C.K t (.type T) = some b ∧ P (.bl b))
    (hn2 : x ≠ "__name__" := by decide) (hdb2 : (x == ("__debug__" : Str)) = false := by decide) (he : ∀ env, starEach [e, .Name x p2] env = (false, eval e env) :: starEach [.Name x p2] env := by intro _; rfl) : DE C (.Call (.Name "isinstance" p) [e, .Name x p2] [] pos) Γ P := ⟨fun X F B G H σ eo Q q => by
  refine U.of (pe_callB call_isi (gl_of F hg) (by rw [F.hm]; exact hm) (by decide +kernel) (pa_cons pe_U (pa_cons (pe_bltn (v := .ty T) (gl_of F hg2) (by rw [F.hm]; exact hm2) hv rfl hn2 hdb2) pa_nil) (he _)) (by decide) (by decide) (he _)) ?_
  refine h.run X F B G H σ eo _ fun v d G1 H1 r1 rep k1 => ?_
  obtain ⟨t, b, ht, hk, k1⟩ := k1
  exact ⟨v, .ty T, t, .type T, b, rfl, by first | exact .ty _ | exact ClsV.ty | constructor, by rw [F.hK]; exact tyx_of U4 r1.mt rep ht, by rw [F.hK]; exact hk, q _ (.bl b) G1 H1 r1 (.bl b) k1⟩⟩
theorem de_isiC {c : Cl} (U4 : ∀ c, ClsD C.toMd c) (hg : glB C.sc "isinstance" = true) (hm : C.mg "isinstance" = none) (hg2 : glB C.sc x = true) (hm2 : C.mg x = some (.ref (C.cA c))) (h : DE C e Γ fun d => ∃ t b, tyd C.cA d = some t ∧ PySem.W.kitOne C.K t (.ref (C.cA c)) = some b ∧ P (.bl b))
    (hdb2 : (x == ("__debug__" : Str)) = false := by decide) (he : ∀ env, starEach [e, .Name x p2] env = (false, eval e env) :: starEach [.Name x p2] env := by intro _; rfl) : DE C (.Call (.Name "isinstance" p) [e, .Name x p2] [] pos) Γ P := ⟨fun X F B G H σ eo Q q => by
  refine U.of (pe_callB call_isi (gl_of F hg) (by rw [F.hm]; exact hm) (by decide +kernel) (pa_cons pe_U (pa_cons (pe_glob (v := .ref (C.cA c)) (gl_of F hg2) (by rw [F.hm]; exact hm2) rfl hdb2) pa_nil) (he _)) (by decide) (by decide) (he _)) ?_
  refine h.run X F B G H σ eo _ fun v d G1 H1 r1 rep k1 => ?_
  obtain ⟨t, b, ht, hk, k1⟩ := k1
  exact ⟨v, .ref (C.cA c), t, .ref (C.cA c), b, rfl, by constructor, by rw [F.hK]; exact tyx_of U4 r1.mt rep ht, by rw [F.hK]; exact hk, q _ (.bl b) G1 H1 r1 (.bl b) k1⟩⟩
theorem de_isi2 (U4 : ∀ c, ClsD C.toMd c) (hg : glB C.sc "isinstance" = true) (hm : C.mg "isinstance" = none) (hg2 : glB C.sc y = true) (hm2 : C.mg y = none) (hv : bootBuiltins y = some (.type T)) (hg3 : glB C.sc z = true) (hm3 : C.mg z = none) (hv3 : bootBuiltins z = some (.type T2))
    (h : DE C e Γ fun d => ∃ t b, tyd C.cA d = some t ∧ PySem.W.kitAny C.K t [.type T, .type T2] = some b ∧ P (.bl b))
    (hn2 : y ≠ "__name__" := by decide) (hdb2 : (y == ("__debug__" : Str)) = false := by decide) (hn3 : z ≠ "__name__" := by decide) (hdb3 : (z == ("__debug__" : Str)) = false := by decide)
    (he : ∀ env, starEach [e, .Tuple [.Name y p2, .Name z p3] k1 pt] env = (false, eval e env) :: starEach [.Tuple [.Name y p2, .Name z p3] k1 pt] env := by intro _; rfl) : DE C (.Call (.Name "isinstance" p) [e, .Tuple [.Name y p2, .Name z p3] k1 pt] [] pos) Γ P := ⟨fun X F B G H σ eo Q q => by
  refine U.of (pe_callB call_isiT (gl_of F hg) (by rw [F.hm]; exact hm) (by decide +kernel) (pa_cons pe_U (pa_cons (pe_tup (pa_cons (pe_bltn (v := .ty T) (gl_of F hg2) (by rw [F.hm]; exact hm2) hv rfl hn2 hdb2) (pa_cons (pe_bltn (v := .ty T2) (gl_of F hg3) (by rw [F.hm]; exact hm3) hv3 rfl hn3 hdb3) pa_nil))) pa_nil) (he _)) (by decide) (by decide) (he _)) ?_
  refine h.run X F B G H σ eo _ fun v d G1 H1 r1 rep k1 => ?_
  obtain ⟨t, b, ht, hk, k1⟩ := k1
  refine ⟨sizeB (by show 2 ≤ 100000; decide), fun n hn => ?_⟩
  have r2 := r1.new (o := .tup [V.ty T, V.ty T2]) hn
  refine ⟨v, n, [.ty T, .ty T2], t, [.type T, .type T2], b, rfl, upd_same, .cons (by constructor) (.cons (by constructor) .nil), by rw [F.hK]; exact tyx_of U4 r2.mt rep ht, by rw [F.hK]; exact hk, q _ (.bl b) G1 _ r2 (.bl b) k1⟩⟩
/-- x in (a constant tuple of ints) -/
theorem de_inC {a : Addr} {ns : List Int} (hm : C.mg x = some (.ref a)) (hg : glB C.sc x = true) (hq : ∀ H, SqT C.K H a (ns.map V.int)) (h : DE C e Γ fun d => ∃ i, d = .int i ∧ P (.bl (inV (.int i) (ns.map V.int)))) (hd : (x == ("__debug__" : Str)) = false := by decide) : DE C (.Compare e [.In] [.Name x p2] pos) Γ P := ⟨fun X F B G H σ eo Q q => by
  refine U.of (pe_cmpR op_in_seq pe_U (pe_glob (v := .ref a) (gl_of F hg) (by rw [F.hm]; exact hm) rfl hd) (by rfl)) ?_
  refine h.run X F B G H σ eo _ fun v d G1 H1 r1 rep k1 => ?_
  obtain ⟨i, rfl, k1⟩ := k1
  cases rep_int rep
  exact ⟨a, ns.map V.int, rfl, .inr (by rw [F.hK]; exact hq _), rfl, by rw [List.all_map, List.all_eq_true]; intro _ _; rfl, q _ (.bl _) G1 H1 r1 (.bl _) k1⟩⟩
end
end DK

-- part DKh
set_option maxHeartbeats 4000000
/-! # The rules: targets, what is walked, comprehensions. -/
namespace DK
open PySem PySem.Spec PyProof.Rows L2

/-! ### targets: one name, a pair of names -/
inductive Tg where
  | nm (j : Nat) | pr (j l : Nat)
def Tg.g (K : PySem.W.Frag) : Tg → TG
  | .nm j => gName j
  | .pr j l => gTup K 2 (gCons (gName j) (gCons (gName l) gNil))
def Tg.slots : Tg → List Nat
  | .nm j => [j]
  | .pr j l => [j, l]
def Tg.bind : Tg → D → Sl → (Sl → Prop) → Prop
  | .nm j, d, Γ, k => k (Γ.set j (some (.dat d)))
  | .pr j l, d, Γ, k => ∃ x y, d = .tup [x, y] ∧ k ((Γ.set j (some (.dat x))).set l (some (.dat y)))
/-- the target tg of the text is b -/
structure DG (C : Ctx) (tg : Expr) (b : Tg) : Prop where
  run : ∀ X, Fits C X → PG X tg (b.g X.K)
section
variable {C : Ctx} {pos p1 p2 : Pos} {x y : Str} {j l k : Nat}
def tgB (C : Ctx) (x : Str) : Bool := locB C.sc x && locB C.own x
theorem pg_one {X : Cx} (F : Fits C X) (hN : C.N[j]? = some x) (hl : tgB C x = true) : PG X (.Name x pos) (gName j) :=
  pg_name (by rw [F.hN]; exact F.nd) (by rw [F.hN]; exact hN) (by rw [F.hs]; exact loc_of (Bool.and_eq_true_iff.mp hl).1) (F.sto x (Bool.and_eq_true_iff.mp hl).2)
theorem dg_nm (hN : C.N[j]? = some x) (hl : tgB C x = true) : DG C (.Name x pos) (.nm j) := ⟨fun X F => pg_one F hN hl⟩
theorem dg_pr (hN : C.N[j]? = some x) (hl : tgB C x = true) (hN2 : C.N[l]? = some y) (hl2 : tgB C y = true) : DG C (.Tuple [.Name x p1, .Name y p2] k pos) (.pr j l) :=
  ⟨fun X F => pg_tup F.hc (pgs_cons (pg_one F hN hl) (pgs_cons (pg_one F hN2 hl2) pgs_nil))⟩
end
/-- what is one's own behind was so ahead, in the same slots -/
def OwnIn (σ : L2.St) (Γ : Sl) (σ' : L2.St) (Γ' : Sl) : Prop := ∀ j : Nat, isOwn Γ' j → isOwn Γ j ∧ σ'[j]? = σ[j]?
theorem OwnIn.trans {σ σ1 σ2 : L2.St} {Γ Γ1 Γ2 : Sl} (a : OwnIn σ Γ σ1 Γ1) (b : OwnIn σ1 Γ1 σ2 Γ2) : OwnIn σ Γ σ2 Γ2 := fun j o =>
  ⟨(a j (b j o).1).1, (b j o).2.trans (a j (b j o).1).2⟩
theorem ownIn_set {σ : L2.St} {Γ : Sl} {i : Nat} {v : Option V} {e : Option Ent} (he : ∀ x, e = some x → x.own = false) : OwnIn σ Γ (σ.set i v) (Γ.set i e) := fun j ⟨x, q, o⟩ => by
  by_cases hj : i = j
  · subst hj
    rw [List.getElem?_set, if_pos rfl] at q
    split at q
    · cases q
      rw [he x rfl] at o; cases o
    · cases q
  · rw [List.getElem?_set_ne hj] at q
    exact ⟨⟨x, q, o⟩, List.getElem?_set_ne hj⟩
theorem ownIn_wipe {σ : L2.St} {Γ : Sl} : ∀ vs : List Nat, OwnIn σ Γ (L2.wipe σ vs) (wipeS Γ vs)
  | [] => fun j o => ⟨o, rfl⟩
  | _ :: vs => (ownIn_wipe vs).trans (ownIn_set fun x h => by cases h)
/-- an object that is nobody's own is changed -/
theorem EO.updFree {cA : Cl → Addr} {B : Ba} {G : Gh} {H : Hp} {σ : L2.St} {Γ : Sl} (h : EO cA B G H σ Γ) {a : Addr} {o : HO} (h0 : B.h0 a = none) (hg : G a = none) (n : ∀ j : Nat, isOwn Γ j → σ[j]? ≠ some (some (.ref a))) : EO cA B G (upd H a o) σ Γ := by
  refine ⟨h.kx, h.gr.upd h0 hg, h.len, fun i e q => ?_, h.apart⟩
  have z := h.at_ i e q
  cases e with
  | dat d => exact z
  | grw ds =>
    obtain ⟨b, vs, e1, e0, e2, e3, e4⟩ := z
    have hb : b ≠ a := fun z => n i ⟨_, q, rfl⟩ (by rw [← z]; exact e1)
    exact ⟨b, vs, e1, e0, e2, by rw [upd_ne hb]; exact e3, e4⟩
  | obj b c ds =>
    obtain ⟨dx, vs, e1, e0, e2, e3, e4⟩ := z
    have hb : b ≠ a := fun z => n i ⟨_, q, rfl⟩ (by rw [← z]; exact e1)
    exact ⟨dx, vs, e1, e0, e2, by rw [upd_ne hb]; exact e3, e4⟩
/-- the target is stored -/
theorem Tg.run {K : PySem.W.Frag} {cA : Cl → Addr} {B : Ba} {G : Gh} {H : Hp} {σ : L2.St} {Γ : Sl} {v : V} {d : D} {Q : L2.St → Hp → Prop} {k : Sl → Prop} (eo : EO cA B G H σ Γ) (r : Rep cA G v d) : ∀ (b : Tg), b.bind d Γ k →
    (∀ σ' Γ', EO cA B G H σ' Γ' → (∀ (P : L2.St → Prop), P σ → (∀ s i x, i ∈ b.slots → P s → P (s.set i (some x))) → P σ') → OwnIn σ Γ σ' Γ' → k Γ' → Q σ' H) → b.g K v σ H Q
  | .nm j, h, q => q _ _ (eo.set r) (fun P p0 ps => ps _ j _ (by simp [Tg.slots]) p0) (ownIn_set fun x e => by cases e; rfl) h
  | .pr j l, h, q => by
    obtain ⟨x, y, rfl, h⟩ := h
    obtain ⟨a, vs, rfl, _, ha, rr⟩ := rep_tup eo.gr.mt r
    cases rr with
    | cons r1 t =>
      cases t with
      | cons r2 t =>
        cases t
        exact ⟨a, _, rfl, SqT.of ha, rfl, _, _, rfl, _, _, rfl, rfl, q _ _ ((eo.set r1).set r2) (fun P p0 ps => ps _ l _ (by simp [Tg.slots]) (ps _ j _ (by simp [Tg.slots]) p0))
          ((ownIn_set fun x e => by cases e; rfl).trans (ownIn_set fun x e => by cases e; rfl)) h⟩

/-! ### what is walked -/
/-- J walks its, whatever is made meanwhile -/
structure Walks (cA : Cl → Addr) (J : It) (G1 : Gh) (its : List D) : Prop where
  go : ∀ G H i, Ex G1 G → Mt G H → i < its.length → J.go i H
  yld : ∀ G H i x H' d, Ex G1 G → Mt G H → J.yld i H x H' → its[i]? = some d → ∃ G', Gr G H G' H' ∧ Rep cA G' x d
  stop : ∀ G H, Ex G1 G → Mt G H → J.stop its.length H
def UI (X : Cx) (tg iter : Expr) : TI := fun σ H R => ∀ (pins : List (Addr × Obj)) (s : Shared), Inv X pins σ H s →
    wpAny (model X.prog X.w) X.A (eval iter X.env) (fun v s1 => wpAny (model X.prog X.w) X.A (pyIter v) (PIE X pins σ tg R) X.xe s1) X.xe s
theorem pi_U {X : Cx} {tg iter : Expr} : PI X tg iter (UI X tg iter) := ⟨fun pins s _ _ _ I h => h pins s I⟩
theorem UI.of {X : Cx} {tg iter : Expr} {t : TI} {σ : L2.St} {H : Hp} {R : It → Hp → Prop} (h : PI X tg iter t) (q : t σ H R) : UI X tg iter σ H R := fun pins s I => h.run pins s σ H R I q
structure DI (C : Ctx) (tg iter : Expr) (Γ : Sl) (P : List D → Prop) : Prop where
  run : ∀ X, Fits C X → ∀ B G H σ, EO C.cA B G H σ Γ → ∀ R : It → Hp → Prop, (∀ J G1 H1 its, Gr G H G1 H1 → Walks C.cA J G1 its → P its → R J H1) → UI X tg iter σ H R
section
variable {cA : Cl → Addr} {K : PySem.W.Frag} {G1 : Gh}
theorem walks_lst {a : Addr} {vs : List V} {ds : List D} (h : G1 a = some (.fix (.lst vs))) (r : RepL cA G1 vs ds) : Walks cA (Itl K a) G1 ds where
  go := fun G H i e m hi => by
    have hi' : i < vs.length := by rw [r.length]; exact hi
    exact ⟨vs, vs[i], SqL.of (m _ _ (e _ _ h)), by simp [hi']⟩
  yld := fun G H i x H' d e m y hd => by
    obtain ⟨rfl, y⟩ := y
    obtain ⟨w, hw, rw'⟩ := (r.mono e).getD hd
    have q := y vs (SqL.of (m _ _ (e _ _ h)))
    rw [hw] at q
    cases q
    exact ⟨G, .rfl' m, rw'⟩
  stop := fun G H e m => ⟨vs, SqL.of (m _ _ (e _ _ h)), Nat.le_of_eq r.length⟩
theorem walks_tup {a : Addr} {vs : List V} {ds : List D} (h : G1 a = some (.fix (.tup vs))) (r : RepL cA G1 vs ds) : Walks cA (Itt K a) G1 ds where
  go := fun G H i e m hi => by
    have hi' : i < vs.length := by rw [r.length]; exact hi
    exact ⟨vs, vs[i], SqT.of (m _ _ (e _ _ h)), by simp [hi']⟩
  yld := fun G H i x H' d e m y hd => by
    obtain ⟨rfl, y⟩ := y
    obtain ⟨w, hw, rw'⟩ := (r.mono e).getD hd
    have q := y vs (SqT.of (m _ _ (e _ _ h)))
    rw [hw] at q
    cases q
    exact ⟨G, .rfl' m, rw'⟩
  stop := fun G H e m => ⟨vs, SqT.of (m _ _ (e _ _ h)), Nat.le_of_eq r.length⟩
def rgD (lo : Int) (n : Nat) : List D := (List.range n).map fun (i : Nat) => D.int (lo + (i : Int))
theorem rgD_length (lo : Int) (n : Nat) : (rgD lo n).length = n := by unfold rgD; rw [List.length_map, List.length_range]
theorem rgD_get {lo : Int} {n i : Nat} {d : D} (h : (rgD lo n)[i]? = some d) : i < n ∧ d = .int (lo + (i : Int)) := by
  have hi : i < n := by
    have := (List.getElem?_eq_some_iff.mp h).1
    rwa [rgD_length] at this
  unfold rgD at h
  rw [List.getElem?_map, List.getElem?_range hi] at h
  exact ⟨hi, (Option.some.inj h).symm⟩
theorem walks_rng {lo : Int} {n : Nat} : Walks cA (Itr lo n) G1 (rgD lo n) where
  go := fun G H i e m hi => by rw [rgD_length] at hi; exact hi
  yld := fun G H i x H' d e m y hd => by
    obtain ⟨rfl, rfl⟩ := y
    obtain ⟨_, rfl⟩ := rgD_get hd
    exact ⟨G, .rfl' m, .int _⟩
  stop := fun G H e m => by rw [rgD_length]; exact Nat.le_refl _
def rgC (lo c : Int) (n : Nat) : List D := (List.range n).map fun (i : Nat) => D.int (lo + (i : Int) * c)
theorem rgC_length (lo c : Int) (n : Nat) : (rgC lo c n).length = n := by unfold rgC; rw [List.length_map, List.length_range]
theorem walks_rngC {lo c : Int} {n : Nat} : Walks cA (Itc lo c n) G1 (rgC lo c n) where
  go := fun G H i e m hi => by rw [rgC_length] at hi; exact hi
  yld := fun G H i x H' d e m y hd => by
    obtain ⟨rfl, rfl⟩ := y
    have hi : i < n := by
      have := (List.getElem?_eq_some_iff.mp hd).1
      rwa [rgC_length] at this
    unfold rgC at hd
    rw [List.getElem?_map, List.getElem?_range hi] at hd
    cases hd
    exact ⟨G, .rfl' m, .int _⟩
  stop := fun G H e m => by rw [rgC_length]; exact Nat.le_refl _
def zipD (xs ys : List D) : List D := (xs.zip ys).map fun p => D.tup [p.1, p.2]
theorem zipD_get {xs ys : List D} {i : Nat} {d : D} (h : (zipD xs ys)[i]? = some d) : ∃ x y, xs[i]? = some x ∧ ys[i]? = some y ∧ d = .tup [x, y] := by
  unfold zipD at h
  rw [List.getElem?_map] at h
  cases q : (xs.zip ys)[i]? with
  | none => rw [q] at h; cases h
  | some p =>
    rw [q] at h
    cases h
    obtain ⟨h1, h2⟩ := List.getElem?_zip_eq_some.mp q
    exact ⟨p.1, p.2, h1, h2, rfl⟩
theorem zipD_length (xs ys : List D) : (zipD xs ys).length = min xs.length ys.length := by unfold zipD; rw [List.length_map, List.length_zip]
theorem walks_zip {a b : Addr} {vs ws : List V} {xs ys : List D} (h : G1 a = some (.fix (.lst vs))) (r : RepL cA G1 vs xs) (h2 : G1 b = some (.fix (.lst ws))) (r2 : RepL cA G1 ws ys) : Walks cA (Itz K a b) G1 (zipD xs ys) where
  go := fun G H i e m hi => by
    rw [zipD_length] at hi
    have h1' : i < vs.length := by rw [r.length]; omega
    have h2' : i < ws.length := by rw [r2.length]; omega
    exact ⟨vs, ws, vs[i], ws[i], SqL.of (m _ _ (e _ _ h)), SqL.of (m _ _ (e _ _ h2)), by simp [h1'], by simp [h2']⟩
  yld := fun G H i x H' d e m y hd => by
    obtain ⟨T, u, w, rfl, hT, rfl, y1, y2⟩ := y
    obtain ⟨x, y, hx, hy, rfl⟩ := zipD_get hd
    obtain ⟨u', hu, ru⟩ := (r.mono e).getD hx
    obtain ⟨w', hw, rw'⟩ := (r2.mono e).getD hy
    have q1 := y1 vs (SqL.of (m _ _ (e _ _ h)))
    have q2 := y2 ws (SqL.of (m _ _ (e _ _ h2)))
    rw [hu] at q1; cases q1
    rw [hw] at q2; cases q2
    exact ⟨_, new_tup (.rfl' m) (.cons ru (.one rw')) hT⟩
  stop := fun G H e m => ⟨vs, ws, SqL.of (m _ _ (e _ _ h)), SqL.of (m _ _ (e _ _ h2)), by rw [zipD_length, r.length, r2.length]; omega⟩
theorem walks_zipT {a b : Addr} {vs ws : List V} {xs ys : List D} (h : G1 a = some (.fix (.tup vs))) (r : RepL cA G1 vs xs) (h2 : G1 b = some (.fix (.tup ws))) (r2 : RepL cA G1 ws ys) : Walks cA (RZ.ItzT K a b) G1 (zipD xs ys) where
  go := fun G H i e m hi => by
    rw [zipD_length] at hi
    have h1' : i < vs.length := by rw [r.length]; omega
    have h2' : i < ws.length := by rw [r2.length]; omega
    exact ⟨vs, ws, vs[i], ws[i], SqT.of (m _ _ (e _ _ h)), SqT.of (m _ _ (e _ _ h2)), by simp [h1'], by simp [h2']⟩
  yld := fun G H i x H' d e m y hd => by
    obtain ⟨T, u, w, rfl, hT, rfl, y1, y2⟩ := y
    obtain ⟨x, y, hx, hy, rfl⟩ := zipD_get hd
    obtain ⟨u', hu, ru⟩ := (r.mono e).getD hx
    obtain ⟨w', hw, rw'⟩ := (r2.mono e).getD hy
    have q1 := y1 vs (SqT.of (m _ _ (e _ _ h)))
    have q2 := y2 ws (SqT.of (m _ _ (e _ _ h2)))
    rw [hu] at q1; cases q1
    rw [hw] at q2; cases q2
    exact ⟨_, new_tup (.rfl' m) (.cons ru (.one rw')) hT⟩
  stop := fun G H e m => ⟨vs, ws, SqT.of (m _ _ (e _ _ h)), SqT.of (m _ _ (e _ _ h2)), by rw [zipD_length, r.length, r2.length]; omega⟩
end
section
variable {C : Ctx} {Γ : Sl} {A : List D → Prop} {pos p tpos : Pos} {tg l a b c : Expr} {elts : List Expr} {kk : Nat}
theorem di_lst (h : DE C l Γ fun d => ∃ ds, d = .lst ds ∧ A ds) : DI C tg l Γ A := ⟨fun X F B G H σ eo R q => by
  refine UI.of (pi_list pe_U) ?_
  refine h.run X F B G H σ eo _ fun v d G1 H1 r1 rep k1 => ?_
  obtain ⟨ds, rfl, k1⟩ := k1
  obtain ⟨n, vs, rfl, hg, hn, rr⟩ := rep_lst r1.mt rep
  exact ⟨n, rfl, ⟨vs, SqL.of hn⟩, q _ G1 H1 ds r1 (walks_lst hg rr) k1⟩⟩
theorem di_tup (h : DE C l Γ fun d => ∃ ds, d = .tup ds ∧ A ds) : DI C tg l Γ A := ⟨fun X F B G H σ eo R q => by
  refine UI.of (pi_tup pe_U) ?_
  refine h.run X F B G H σ eo _ fun v d G1 H1 r1 rep k1 => ?_
  obtain ⟨ds, rfl, k1⟩ := k1
  obtain ⟨n, vs, rfl, hg, hn, rr⟩ := rep_tup r1.mt rep
  exact ⟨n, rfl, ⟨vs, SqT.of hn⟩, q _ G1 H1 ds r1 (walks_tup hg rr) k1⟩⟩
theorem di_rng1 (hg : glB C.sc "range" = true) (hm : C.mg "range" = none) (h : DE C a Γ fun d => ∃ j : Int, d = .int j ∧ -1000000 ≤ j ∧ j ≤ 1000000 ∧ A (rgD 0 j.toNat)) (hs : ∀ env, starEach [a] env = (false, eval a env) :: starEach [] env := by intro _; rfl) :
    DI C tg (.Call (.Name "range" p) [a] [] pos) Γ A := ⟨fun X F B G H σ eo R q => by
  refine UI.of (pi_range1 (gl_of F hg) (by rw [F.hm]; exact hm) (pa_cons pe_U pa_nil (hs _)) (hs _)) ?_
  refine h.run X F B G H σ eo _ fun v d G1 H1 r1 rep k1 => ?_
  obtain ⟨j, rfl, h1, h2, k1⟩ := k1
  exact ⟨j, by rw [rep_int rep], by omega, by omega, q _ G1 H1 _ r1 walks_rng k1⟩⟩
theorem di_rng2 (hg : glB C.sc "range" = true) (hm : C.mg "range" = none) (h : DE C a Γ fun d => ∃ i : Int, d = .int i ∧ -1000000 ≤ i ∧ i ≤ 1000000 ∧ DE C b Γ fun d => ∃ j : Int, d = .int j ∧ -1000000 ≤ j ∧ j ≤ 1000000 ∧ A (rgD i (j - i).toNat))
    (hs : ∀ env, starEach [a, b] env = (false, eval a env) :: starEach [b] env := by intro _; rfl) (hs2 : ∀ env, starEach [b] env = (false, eval b env) :: starEach [] env := by intro _; rfl) : DI C tg (.Call (.Name "range" p) [a, b] [] pos) Γ A := ⟨fun X F B G H σ eo R q => by
  have e1 : starEach [a, b] X.env = [(false, eval a X.env), (false, eval b X.env)] := by rw [hs, hs2]; rfl
  have e2 : starEach [b] X.env = [(false, eval b X.env)] := by rw [hs2]; rfl
  refine UI.of (pi_range2 (gl_of F hg) (by rw [F.hm]; exact hm) (pa_cons pe_U (pa_cons pe_U pa_nil (hs2 _)) (hs _)) e1 e2) ?_
  refine h.run X F B G H σ eo _ fun v d G1 H1 r1 rep k1 => ?_
  obtain ⟨i, rfl, h1, h2, k1⟩ := k1
  refine k1.run X F B G1 H1 σ (eo.grow r1) _ fun v2 d2 G2 H2 r2 rep2 k2 => ?_
  obtain ⟨j, rfl, h3, h4, k2⟩ := k2
  exact ⟨i, j, by rw [rep_int rep, rep_int rep2], ⟨by omega, by omega, by omega, by omega⟩, q _ G2 H2 _ (r1.trans r2) walks_rng k2⟩⟩
/-- range(a, b, -1) -/
theorem di_rngN {p1 p2 : Pos} {k1 : Nat} (hg : glB C.sc "range" = true) (hm : C.mg "range" = none) (h : DE C a Γ fun d => ∃ i : Int, d = .int i ∧ -1000000 ≤ i ∧ i ≤ 1000000 ∧ DE C b Γ fun d => ∃ j : Int, d = .int j ∧ -1000000 ≤ j ∧ j ≤ 1000000 ∧ A (rgC i (-1) (i - j).toNat))
    (hs : ∀ env, starEach [a, b, .UnaryOp .USub (.Constant (.int 1) k1 p1) p2] env = (false, eval a env) :: starEach [b, .UnaryOp .USub (.Constant (.int 1) k1 p1) p2] env := by intro _; rfl) (hs2 : ∀ env, starEach [b, .UnaryOp .USub (.Constant (.int 1) k1 p1) p2] env = (false, eval b env) :: starEach [.UnaryOp .USub (.Constant (.int 1) k1 p1) p2] env := by intro _; rfl) :
    DI C tg (.Call (.Name "range" p) [a, b, .UnaryOp .USub (.Constant (.int 1) k1 p1) p2] [] pos) Γ A := ⟨fun X F B G H σ eo R q => by
  refine UI.of (pi_range3 (gl_of F hg) (by rw [F.hm]; exact hm) (pa_cons pe_U (pa_cons pe_U (pa_cons (pe_un un_neg pe_int) pa_nil) (hs2 _)) (hs _)) (hs _) (by rw [hs2]; rfl)) ?_
  refine h.run X F B G H σ eo _ fun v d G1 H1 r1 rep k1 => ?_
  obtain ⟨i, rfl, h1, h2, k1⟩ := k1
  refine k1.run X F B G1 H1 σ (eo.grow r1) _ fun v2 d2 G2 H2 r2 rep2 k2 => ?_
  obtain ⟨j, rfl, h3, h4, k2⟩ := k2
  exact ⟨1, rfl, i, j, -1, _, by rw [rep_int rep, rep_int rep2], RgC.neg (by omega) (by omega) (by omega) (by omega), q _ G2 H2 _ (r1.trans r2) walks_rngC k2⟩⟩
theorem di_zip (hg : glB C.sc "zip" = true) (hm : C.mg "zip" = none) (h : DE C a Γ fun d => ∃ xs, d = .lst xs ∧ DE C b Γ fun d => ∃ ys, d = .lst ys ∧ A (zipD xs ys))
    (hs : ∀ env, starEach [a, b] env = (false, eval a env) :: starEach [b] env := by intro _; rfl) (hs2 : ∀ env, starEach [b] env = (false, eval b env) :: starEach [] env := by intro _; rfl) (hpl : ∀ env, (backTo pos (starEach [b] env)).any (·.1) = false := by intro _; rfl) :
    DI C (.Tuple elts kk tpos) (.Call (.Name "zip" p) [a, b] [] pos) Γ A := ⟨fun X F B G H σ eo R q => by
  refine UI.of (pi_zip (gl_of F hg) (by rw [F.hm]; exact hm) (pa_cons pe_U (pa_cons pe_U pa_nil (hs2 _)) (hs _)) (hs _) (hpl _)) ?_
  refine h.run X F B G H σ eo _ fun v d G1 H1 r1 rep k1 => ?_
  obtain ⟨xs, rfl, k1⟩ := k1
  refine k1.run X F B G1 H1 σ (eo.grow r1) _ fun v2 d2 G2 H2 r2 rep2 k2 => ?_
  obtain ⟨ys, rfl, k2⟩ := k2
  obtain ⟨n, vs, rfl, hg, hn, rr⟩ := rep_lst r2.mt (rep.mono r2.ex)
  obtain ⟨n2, vs2, rfl, hg2, hn2, rr2⟩ := rep_lst r2.mt rep2
  exact ⟨n, n2, vs, vs2, rfl, SqL.of hn, SqL.of hn2, q _ G2 H2 _ (r1.trans r2) (walks_zip hg rr hg2 rr2) k2⟩⟩
theorem di_zipT (hg : glB C.sc "zip" = true) (hm : C.mg "zip" = none) (h : DE C a Γ fun d => ∃ xs, d = .tup xs ∧ DE C b Γ fun d => ∃ ys, d = .tup ys ∧ A (zipD xs ys))
    (hs : ∀ env, starEach [a, b] env = (false, eval a env) :: starEach [b] env := by intro _; rfl) (hs2 : ∀ env, starEach [b] env = (false, eval b env) :: starEach [] env := by intro _; rfl) (hpl : ∀ env, (backTo pos (starEach [b] env)).any (·.1) = false := by intro _; rfl) :
    DI C (.Tuple elts kk tpos) (.Call (.Name "zip" p) [a, b] [] pos) Γ A := ⟨fun X F B G H σ eo R q => by
  refine UI.of (RZ.pi_zipA (gl_of F hg) (by rw [F.hm]; exact hm) (pa_cons pe_U (pa_cons pe_U pa_nil (hs2 _)) (hs _)) (hs _) (hpl _)) ?_
  refine h.run X F B G H σ eo _ fun v d G1 H1 r1 rep k1 => ?_
  obtain ⟨xs, rfl, k1⟩ := k1
  refine k1.run X F B G1 H1 σ (eo.grow r1) _ fun v2 d2 G2 H2 r2 rep2 k2 => ?_
  obtain ⟨ys, rfl, k2⟩ := k2
  obtain ⟨n, vs, rfl, hg, hn, rr⟩ := rep_tup r2.mt (rep.mono r2.ex)
  obtain ⟨n2, vs2, rfl, hg2, hn2, rr2⟩ := rep_tup r2.mt rep2
  exact ⟨n, n2, vs, vs2, rfl, .inr ⟨SqT.of hn, SqT.of hn2, q _ G2 H2 _ (r1.trans r2) (walks_zipT hg rr hg2 rr2) k2⟩⟩⟩
end
end DK

-- part DKi
set_option maxHeartbeats 4000000
/-! # The rules: list comprehensions. -/
namespace DK
open PySem PySem.Spec PyProof.Rows L2

theorem wipe_at (σ : L2.St) (i : Nat) : ∀ vs : List Nat, (L2.wipe σ vs)[i]? = if i ∈ vs then (σ[i]?).map (fun _ => none) else σ[i]?
  | [] => by simp [L2.wipe]
  | v :: vs => by
    have ih := wipe_at σ i vs
    show ((L2.wipe σ vs).set v none)[i]? = _
    by_cases hv : v = i
    · subst hv
      rw [List.getElem?_set, if_pos rfl, L2.wipe_length, if_pos (List.mem_cons_self ..)]
      by_cases hl : v < σ.length
      · rw [if_pos hl, List.getElem?_eq_getElem hl]; rfl
      · rw [if_neg hl, List.getElem?_eq_none (by omega)]; rfl
    · rw [List.getElem?_set_ne hv, ih]
      by_cases hm : i ∈ vs
      · rw [if_pos hm, if_pos (List.mem_cons_of_mem _ hm)]
      · rw [if_neg hm, if_neg (by simp only [List.mem_cons, not_or]; exact ⟨fun e => hv e.symm, hm⟩)]
theorem wipe_wipe (σ : L2.St) (vs : List Nat) : L2.wipe (L2.wipe σ vs) vs = L2.wipe σ vs := by
  apply List.ext_getElem?
  intro i
  rw [wipe_at, wipe_at]
  by_cases hm : i ∈ vs
  · rw [if_pos hm, if_pos hm, Option.map_map]; rfl
  · rw [if_neg hm, if_neg hm]
theorem wipe_set (σ : L2.St) {vs : List Nat} {j : Nat} (x : Option V) (hj : j ∈ vs) : L2.wipe (σ.set j x) vs = L2.wipe σ vs := by
  apply List.ext_getElem?
  intro i
  rw [wipe_at, wipe_at]
  by_cases hm : i ∈ vs
  · rw [if_pos hm, if_pos hm, List.getElem?_set]
    by_cases hji : j = i
    · subst hji
      rw [if_pos rfl]
      by_cases hl : j < σ.length
      · rw [if_pos hl, List.getElem?_eq_getElem hl]; rfl
      · rw [if_neg hl, List.getElem?_eq_none (by omega)]
    · rw [if_neg hji]
  · rw [if_neg hm, if_neg hm, List.getElem?_set_ne (fun e => hm (by rw [← e]; exact hj))]

theorem yes_ok {σ : L2.St} {H : Hp} {k : Bool → Hp → Prop} (h : k true H) : tYes σ H k := h
theorem blkFits {C : Ctx} {X : Cx} (F : Fits C X) (scope : Scope) (s : Shared) (H : Hp) (a : Addr) (cl : List (Str × Addr)) (fp : List Addr) : Fits (C.blk scope) (X.blk s H scope (compEnvC scope cl a X.env) fp) where
  hP := F.hP
  hw := F.hw
  hK := F.hK
  hm := F.hm
  hb := F.hb
  hN := F.hN
  hs := by
    show relabel scope X.env = relS scope C.sc
    rw [← F.hs]
    rfl
  hc := F.hc
  hr := F.hr
  hx := rfl
  nd := F.nd
  sto := fun x h => by
    rcases loc_of (show locB scope x = true from h) with q | q
    · refine .inr ?_
      show (relabel scope X.env).names.lookup x = some .local
      exact lookup_relabel_local q
    · refine .inl ?_
      show (scope.names.lookup x == some .cell) = true
      rw [q]; rfl
section
variable {C : Ctx} {Γ : Sl} {T : Bool → Prop} {A : List D → Prop} {pos : Pos} {tg iter elt tg1 iter1 c : Expr} {ifs ifs1 : List Expr} {scope : Scope}
theorem dps_nil (h : T true) : DPs C [] Γ T := ⟨fun X F B G H σ eo Q q => UPs.of pts_nil (q true G H (.rfl' eo.gr.mt) h)⟩
theorem dps_one (h : DT C c Γ T) : DPs C [c] Γ T := ⟨fun X F B G H σ eo Q q => UPs.of (pts_one pt_U) (h.run X F B G H σ eo Q q)⟩
/-- the block's readings, whatever block it is -/
def blkT (X : Cx) (scope : Scope) (ifs : List Expr) : TT := fun σ H Q => ∀ s H0 a cl fp, UPs (X.blk s H0 scope (compEnvC scope cl a X.env) fp) ifs σ H Q
def blkE (X : Cx) (scope : Scope) (e : Expr) : TE := fun σ H Q => ∀ s H0 a cl fp, U (X.blk s H0 scope (compEnvC scope cl a X.env) fp) e σ H Q
/-- what a comprehension asks: its walk its, an invariant I by the turn and what is made so far -/
def LcI (C : Ctx) (b : Tg) (Γ : Sl) (vs : List Nat) (scope : Scope) (ifs : List Expr) (elt : Expr) (A : List D → Prop) (its : List D) : Prop := its.length ≤ 100000 ∧ ∃ I : Nat → List D → Prop, I 0 [] ∧
  (∀ i d acc, its[i]? = some d → I i acc → acc.length ≤ i → b.bind d (wipeS Γ vs) fun Γ' => DPs (C.blk scope) ifs Γ' fun t => (t = true → DE (C.blk scope) elt Γ' fun y => I (i + 1) (acc ++ [y])) ∧ (t = false → I (i + 1) acc)) ∧ ∀ acc, I its.length acc → A acc
theorem lc_read (b : Tg) (own : List (Str × Nat)) (hsub : (b.slots.all fun i => (own.map (·.2)).contains i) = true)
    (hi : DI C tg iter Γ (LcI C b Γ (own.map (·.2)) scope ifs elt A))
    {X : Cx} (F : Fits C X) {B : Ba} {G : Gh} {H : Hp} {σ : L2.St} (eo : EO C.cA B G H σ Γ) {Q : VK} (q : ∀ a vs ds G' H', Gr G H G' H' → H a = none → G' a = none → H' a = some (.lst vs) → RepL C.cA G' vs ds → A ds → Q (.ref a) H') :
    tLc (UI X tg iter) (b.g X.K) (blkT X scope ifs) (blkE X scope elt) (own.map (·.2)) σ H Q := by
  unfold L2.tLc
  refine hi.run X F B G H σ eo _ fun J G1 H1 its r1 wk hx => ?_
  obtain ⟨hlen, I, i0, step, fin⟩ := hx
  intro Dl hD
  have m1 := r1.mt
  have base : Gr G1 H1 G1 (upd H1 Dl (.lst [])) := (Gr.rfl' m1).new hD
  refine ⟨fun i m H => m = its.length - i ∧ i ≤ its.length ∧ ∃ G2 acc ds, Gr G1 H1 G2 H ∧ G2 Dl = none ∧ H Dl = some (.lst acc) ∧ RepL C.cA G2 acc ds ∧ ds.length ≤ i ∧ I i ds, ⟨_, rfl, Nat.zero_le _, G1, [], [], base, m1.free hD, upd_same, .nil, Nat.zero_le _, i0⟩, ?_⟩
  rintro i m H2 ⟨rfl, hil, G2, acc, ds, g2, gD, hDl, rp, hds, hI⟩
  by_cases hlt : i < its.length
  · refine .inr ⟨wk.go G2 H2 i g2.ex g2.mt hlt, fun H' => ∃ G2 acc ds, Gr G1 H1 G2 H' ∧ G2 Dl = none ∧ H' Dl = some (.lst acc) ∧ RepL C.cA G2 acc ds ∧ ds.length ≤ i + 1 ∧ I (i + 1) ds, fun H' hn => ⟨its.length - (i + 1), by omega, rfl, hlt, hn⟩, fun x H3 hy => ?_⟩
    have hd : its[i]? = some its[i] := List.getElem?_eq_getElem hlt
    obtain ⟨G3, g3, rx⟩ := wk.yld G2 H2 i x H3 its[i] g2.ex g2.mt hy hd
    have eo3 : EO C.cA B G3 H3 σ Γ := ((eo.grow r1).grow g2).grow g3
    have hD3 := g3.old Dl _ hDl gD
    refine Tg.run (eo3.wipe (own.map (·.2))) rx b (step i _ ds hd hI hds) fun σ2 Γ2 eo4 cl _ k4 => ?_
    refine ⟨?_, fun s H0 a cl' fp => ?_⟩
    · refine cl (fun z => L2.wipe z (own.map (·.2)) = L2.wipe σ (own.map (·.2))) (wipe_wipe _ _) fun z j y hj e => ?_
      have hj' := List.all_eq_true.mp hsub j hj
      rw [wipe_set z (some y) (List.contains_iff_mem.mp hj')]
      exact e
    · refine k4.run _ (blkFits F scope s H0 a cl' fp) B G3 H3 σ2 eo4 _ fun t G5 H5 g5 hp => ?_
      have hD5 := g5.old Dl _ hD3.2 hD3.1
      cases t with
      | true =>
        refine iteT fun s H0 a cl' fp => ?_
        refine (hp.1 rfl).run _ (blkFits F scope s H0 a cl' fp) B G5 H5 σ2 (eo4.grow g5) _ fun y d G6 H6 g6 ry hI6 => ?_
        have hD6 := g6.old Dl _ hD5.2 hD5.1
        have gg := ((g2.trans g3).trans g5).trans g6
        refine ⟨acc, hD6.2, sizeLt (by rw [rp.length]; omega), G6, acc ++ [y], ds ++ [d], gg.upd hD hD6.1, hD6.1, upd_same, (rp.mono ((g3.ex.trans g5.ex).trans g6.ex)).append (.one ry), by rw [List.length_append, List.length_singleton]; omega, hI6⟩
      | false =>
        exact iteF ⟨G5, acc, ds, (g2.trans g3).trans g5, hD5.1, hD5.2, rp.mono (g3.ex.trans g5.ex), by omega, hp.2 rfl⟩
  · have e : i = its.length := by omega
    subst e
    exact .inl ⟨wk.stop G2 H2 g2.ex g2.mt, q Dl acc ds G2 H2 (r1.trans g2) (r1.free hD) gD hDl rp (fin ds hI)⟩
/-- [elt for tg in iter if ..]: a new list -/
theorem df_lc (b : Tg) (own : List (Str × Nat)) (hok : blkC C.N C.sc scope own = true) (hsub : (b.slots.all fun i => (own.map (·.2)).contains i) = true) (hg : DG (C.blk scope) tg b) (hi : DI C tg iter Γ (LcI C b Γ (own.map (·.2)) scope ifs elt A))
    (hs : ∀ env x, foldedSetIterable iter env x = pure x := by intro _ _; rfl) : DF C (.ListComp elt [⟨tg, iter, ifs, 0⟩] scope pos) Γ A := ⟨fun X F B G H σ eo Q q => by
  have hN : X.N.Nodup := by rw [F.hN]; exact F.nd
  refine U.of (pe_lc (own := own) (g := b.g X.K) (tt := blkT X scope ifs) (te := blkE X scope elt) F.hc hN pi_U (blkOk_by (by rw [F.hN, F.hs]; exact hok)) (fun s H0 a cl fp => hg.run _ (blkFits F scope s H0 a cl fp))
    (fun s H0 a cl fp => ⟨fun pins s' σ H Q I h => h s H0 a cl fp pins s' I⟩) (fun s H0 a cl fp => ⟨fun pins s' σ H Q I h => h s H0 a cl fp pins s' I⟩) (hs _)) ?_
  exact lc_read b own hsub hi F eo q⟩
/-- [elt for tg in iter for tg1 in iter1] -/
theorem df_lc2 (b b1 : Tg) (own : List (Str × Nat)) (hok : blkC C.N C.sc scope own = true) (hsub : (b.slots.all fun i => (own.map (·.2)).contains i) = true) (hsub1 : (b1.slots.all fun i => (own.map (·.2)).contains i) = true) (hg : DG (C.blk scope) tg b) (hg1 : DG (C.blk scope) tg1 b1)
    (hi : DI C tg iter Γ fun its => ∃ I : Nat → List D → Prop, I 0 [] ∧ (∀ i d acc, its[i]? = some d → I i acc → b.bind d (wipeS Γ (own.map (·.2))) fun Γ' =>
      DI (C.blk scope) tg1 iter1 Γ' fun its1 => ∃ I1 : Nat → List D → Prop, I1 0 acc ∧ (∀ j d1 acc, its1[j]? = some d1 → I1 j acc → b1.bind d1 (wipeS Γ' b1.slots) fun Γ'' => DE (C.blk scope) elt Γ'' fun y => acc.length < 100000 ∧ I1 (j + 1) (acc ++ [y])) ∧ ∀ acc, I1 its1.length acc → I (i + 1) acc) ∧ ∀ acc, I its.length acc → A acc)
    (hs : ∀ env x, foldedSetIterable iter env x = pure x := by intro _ _; rfl) (hs1 : ∀ env x, foldedSetIterable iter1 env x = pure x := by intro _ _; rfl) : DF C (.ListComp elt [⟨tg, iter, [], 0⟩, ⟨tg1, iter1, [], 0⟩] scope pos) Γ A := ⟨fun X F B G H σ eo Q q => by
  have hN : X.N.Nodup := by rw [F.hN]; exact F.nd
  have hv : ∀ i ∈ b1.slots, i ∈ own.map (·.2) := fun i hi => List.contains_iff_mem.mp (List.all_eq_true.mp hsub1 i hi)
  refine U.of (pe_lc2 (own := own) (vs1 := b1.slots) (g := b.g X.K) (g1 := b1.g X.K) (tt := tYes) (tt1 := tYes) (wi1 := fun σ H R => ∀ s H0 a cl fp, UI (X.blk s H0 scope (compEnvC scope cl a X.env) fp) tg1 iter1 σ H R) (te := fun σ H Q => ∀ s H0 a cl fp, U (X.blk s H0 scope (compEnvC scope cl a X.env) fp) elt σ H Q)
    F.hc hN pi_U (blkOk_by (by rw [F.hN, F.hs]; exact hok)) hv (fun s H0 a cl fp => hg.run _ (blkFits F scope s H0 a cl fp)) (fun s H0 a cl fp => pts_nil) (fun s H0 a cl fp => ⟨fun pins s' σ H R I h => h s H0 a cl fp pins s' I⟩) (fun s H0 a cl fp => hg1.run _ (blkFits F scope s H0 a cl fp)) (fun s H0 a cl fp => pts_nil)
    (fun s H0 a cl fp => ⟨fun pins s' σ H Q I h => h s H0 a cl fp pins s' I⟩) (hs _) hs1) ?_
  unfold L2.tLc2
  refine hi.run X F B G H σ eo _ fun J G1 H1 its r1 wk hx => ?_
  obtain ⟨I, i0, step, fin⟩ := hx
  intro Dl hD
  have m1 := r1.mt
  have base : Gr G1 H1 G1 (upd H1 Dl (.lst [])) := (Gr.rfl' m1).new hD
  refine ⟨fun i m H => m = its.length - i ∧ i ≤ its.length ∧ ∃ G2 acc ds, Gr G1 H1 G2 H ∧ G2 Dl = none ∧ H Dl = some (.lst acc) ∧ RepL C.cA G2 acc ds ∧ I i ds, ⟨_, rfl, Nat.zero_le _, G1, [], [], base, m1.free hD, upd_same, .nil, i0⟩, ?_⟩
  rintro i m H2 ⟨rfl, hil, G2, acc, ds, g2, gD, hDl, rp, hI⟩
  by_cases hlt : i < its.length
  · refine .inr ⟨wk.go G2 H2 i g2.ex g2.mt hlt, fun H' => ∃ G2 acc ds, Gr G1 H1 G2 H' ∧ G2 Dl = none ∧ H' Dl = some (.lst acc) ∧ RepL C.cA G2 acc ds ∧ I (i + 1) ds, fun H' hn => ⟨its.length - (i + 1), by omega, rfl, hlt, hn⟩, fun x H3 hy => ?_⟩
    have hd : its[i]? = some its[i] := List.getElem?_eq_getElem hlt
    obtain ⟨G3, g3, rx⟩ := wk.yld G2 H2 i x H3 its[i] g2.ex g2.mt hy hd
    have eo3 : EO C.cA B G3 H3 σ Γ := ((eo.grow r1).grow g2).grow g3
    have hD3 := g3.old Dl _ hDl gD
    refine Tg.run (eo3.wipe (own.map (·.2))) rx b (step i _ ds hd hI) fun σ2 Γ2 eo4 cl ow k4 => ?_
    refine ⟨?_, ?_⟩
    · refine cl (fun z => L2.wipe z (own.map (·.2)) = L2.wipe σ (own.map (·.2))) (wipe_wipe _ _) fun z j y hj e => ?_
      rw [wipe_set z (some y) (List.contains_iff_mem.mp (List.all_eq_true.mp hsub j hj))]
      exact e
    · refine yes_ok ?_
      dsimp only
      rw [if_pos rfl]
      intro s H0 a cl' fp
      refine k4.run _ (blkFits F scope s H0 a cl' fp) B G3 H3 σ2 eo4 _ fun J1 G4 H4 its1 r4 wk1 ⟨I1, j0, step1, fin1⟩ => ?_
      have hD4 := r4.old Dl _ hD3.2 hD3.1
      have no : ∀ j : Nat, isOwn Γ2 j → σ2[j]? ≠ some (some (.ref Dl)) := fun j o e => by
        obtain ⟨o1, e1⟩ := ((ownIn_wipe (own.map (·.2))).trans ow) j o
        obtain ⟨u, hu⟩ := (eo.grow r1).owned o1 (by rw [← e1]; exact e)
        rw [hD] at hu; cases hu
      have h0D : B.h0 Dl = none := (eo.grow r1).gr.free hD
      have eo5 := eo4.grow r4
      refine ⟨fun j k H => k = its1.length - j ∧ j ≤ its1.length ∧ ∃ G5 acc ds, Gr G1 H1 G5 H ∧ Ex G4 G5 ∧ EO C.cA B G5 H σ2 Γ2 ∧ G5 Dl = none ∧ H Dl = some (.lst acc) ∧ RepL C.cA G5 acc ds ∧ I1 j ds,
        ⟨_, rfl, Nat.zero_le _, G4, acc, ds, (g2.trans g3).trans r4, Ex.rfl', eo5, hD4.1, hD4.2, rp.mono (g3.ex.trans r4.ex), j0⟩, ?_⟩
      rintro j k H5 ⟨rfl, hjl, G5, acc5, ds5, g5, x5, eo5, gD5, hD5, rp5, hI5⟩
      by_cases hjt : j < its1.length
      · refine .inr ⟨wk1.go G5 H5 j x5 g5.mt hjt, fun H' => ∃ G5 acc ds, Gr G1 H1 G5 H' ∧ Ex G4 G5 ∧ EO C.cA B G5 H' σ2 Γ2 ∧ G5 Dl = none ∧ H' Dl = some (.lst acc) ∧ RepL C.cA G5 acc ds ∧ I1 (j + 1) ds, fun H' hn => ⟨its1.length - (j + 1), by omega, rfl, hjt, hn⟩, fun x H6 hy => ?_⟩
        have hd1 : its1[j]? = some its1[j] := List.getElem?_eq_getElem hjt
        obtain ⟨G6, g6, rx6⟩ := wk1.yld G5 H5 j x H6 its1[j] x5 g5.mt hy hd1
        have eo6 := eo5.grow g6
        have hD6 := g6.old Dl _ hD5 gD5
        refine Tg.run (eo6.wipe b1.slots) rx6 b1 (step1 j _ ds5 hd1 hI5) fun σ3 Γ3 eo7 cl7 ow7 k7 => ?_
        refine ⟨?_, ?_⟩
        · refine cl7 (fun z => L2.wipe z b1.slots = L2.wipe σ2 b1.slots) (wipe_wipe _ _) fun z i y hi e => ?_
          rw [wipe_set z (some y) hi]
          exact e
        · refine yes_ok ?_
          dsimp only
          rw [if_pos rfl]
          intro s H0 a cl' fp
          refine k7.run _ (blkFits F scope s H0 a cl' fp) B G6 H6 σ3 eo7 _ fun y d G8 H8 g8 ry ⟨hlt8, hI8⟩ => ?_
          have hD8 := g8.old Dl _ hD6.2 hD6.1
          have gg := (g5.trans g6).trans g8
          refine ⟨acc5, hD8.2, sizeLt (by rw [rp5.length]; exact hlt8), G8, acc5 ++ [y], ds5 ++ [d], gg.upd hD hD8.1, (x5.trans g6.ex).trans g8.ex, (eo6.grow g8).updFree h0D hD8.1 no, hD8.1, upd_same, (rp5.mono (g6.ex.trans g8.ex)).append (.one ry), hI8⟩
      · have e : j = its1.length := by omega
        subst e
        exact .inl ⟨wk1.stop G5 H5 x5 g5.mt, G5, acc5, ds5, g5, gD5, hD5, rp5, fin1 ds5 hI5⟩
  · have e : i = its.length := by omega
    subst e
    exact .inl ⟨wk.stop G2 H2 g2.ex g2.mt, q Dl acc ds G2 H2 (r1.trans g2) (r1.free hD) gD hDl rp (fin ds hI)⟩⟩
end
end DK

-- part DKj
set_option maxHeartbeats 4000000
/-! # The rules: statements, a def's body. -/
namespace DK
open PySem PySem.Spec PyProof.Rows L2

def localB (sc : Scope) (x : Str) : Bool := match sc.names.lookup x with
  | some .local => true
  | _ => false
theorem local_of {sc : Scope} {x : Str} (h : localB sc x = true) : sc.names.lookup x = some .local := by
  unfold localB at h
  split at h
  · assumption
  · cases h
section
variable {C : Ctx} {Γ : Sl} {E : En} {pos p p1 p2 p3 p4 apos cpos : Pos} {x y m : Str} {e o a b c : Expr} {st : Stmt} {sts sts2 body : List Stmt} {i j k1 k2 : Nat}
theorem Wants.cut {cA : Cl → Addr} {B : Ba} {D : Ends} {n : Sl → Prop} {N : L2.St → Hp → Prop} (w : Wants cA B E D) (h : ∀ σ G H Γ, EO cA B G H σ Γ → n Γ → N σ H) : Wants cA B { E with nx := n } { D with nx := N } := ⟨h, w.bk, w.ct, w.rt⟩
theorem dss_nil (h : E.nx Γ) : DSs C [] Γ E := ⟨fun X F B G H σ eo D w => USs.of pss_nil (w.nx σ G H Γ eo h)⟩
theorem dss_cons (h : DS C st Γ { E with nx := fun Γ' => DSs C sts Γ' E }) : DSs C (st :: sts) Γ E := ⟨fun X F B G H σ eo D w => USs.of (pss_cons ps_U pss_U)
  (h.run X F B G H σ eo _ (w.cut fun σ' G' H' Γ' eo' k => k.run X F B G' H' σ' eo' D w))⟩
theorem dss_one (h : DS C st Γ E) : DSs C [st] Γ E := ⟨fun X F B G H σ eo D w => USs.of (pss_one ps_U) (h.run X F B G H σ eo D w)⟩
theorem dss_imp {E' : En} (h : DSs C sts Γ E') (n : ∀ Γ, E'.nx Γ → E.nx Γ) (b : ∀ Γ, E'.bk Γ → E.bk Γ) (c : ∀ Γ, E'.ct Γ → E.ct Γ) (r : ∀ d, E'.rt d → E.rt d) : DSs C sts Γ E :=
  ⟨fun X F B G H σ eo D w => h.run X F B G H σ eo D ⟨fun σ G H Γ e q => w.nx σ G H Γ e (n Γ q), fun σ G H Γ e q => w.bk σ G H Γ e (b Γ q), fun σ G H Γ e q => w.ct σ G H Γ e (c Γ q), fun v d G H g t q => w.rt v d G H g t (r d q)⟩⟩
/-- a list of one's own is done -/
theorem ds_freeze (i : Nat) {ds : List D} (h : Γ[i]? = some (some (.grw ds))) (k : DSs C sts (Γ.set i (some (.dat (.lst ds)))) E) : DSs C sts Γ E := ⟨fun X F B G H σ eo D w => by
  obtain ⟨G', x, eo'⟩ := eo.freeze h
  exact k.run X F B G' H σ eo' D w⟩
theorem Wants.nxt {cA : Cl → Addr} {B : Ba} {D : Ends} (w : Wants cA B E D) {G : Gh} {H : Hp} {σ : L2.St} {Γ : Sl} (eo : EO cA B G H σ Γ) (k : E.nx Γ) : D.nx σ H := w.nx σ G H Γ eo k
/-- name = value -/
theorem ds_set (i : Nat) (hN : C.N[i]? = some x) (hl : tgB C x = true) (h : DE C e Γ fun d => E.nx (Γ.set i (some (.dat d)))) (hs : ∀ env : Env, env.scope = C.sc → swapsWith e (some (.Name x p)) pos.line env = pure false := by intro _ _; rfl) : DS C (.Assign [.Name x p] e pos) Γ E := ⟨fun X F B G H σ eo D w =>
  US.of (ps_set (by rw [F.hN]; exact F.nd) (by rw [F.hN]; exact hN) (by rw [F.hs]; exact loc_of (Bool.and_eq_true_iff.mp hl).1) pe_U (hs _ F.hs) (F.sto x (Bool.and_eq_true_iff.mp hl).2))
    (h.run X F B G H σ eo _ fun v d G' H' r rep k => w.nxt ((eo.grow r).set rep) k)⟩
/-- name = a new list, still to be changed -/
theorem ds_setG (i : Nat) (hN : C.N[i]? = some x) (hl : tgB C x = true) (h : DF C e Γ fun ds => E.nx (Γ.set i (some (.grw ds)))) (hs : ∀ env : Env, env.scope = C.sc → swapsWith e (some (.Name x p)) pos.line env = pure false := by intro _ _; rfl) : DS C (.Assign [.Name x p] e pos) Γ E := ⟨fun X F B G H σ eo D w =>
  US.of (ps_set (by rw [F.hN]; exact F.nd) (by rw [F.hN]; exact hN) (by rw [F.hs]; exact loc_of (Bool.and_eq_true_iff.mp hl).1) pe_U (hs _ F.hs) (F.sto x (Bool.and_eq_true_iff.mp hl).2))
    (h.run X F B G H σ eo _ fun a vs ds G' H' r h0 hg ha rep k => w.nxt ((eo.grow r).setMut (fun j o e => by
      obtain ⟨u, hu⟩ := eo.owned o e
      rw [h0] at hu; cases hu) (eo.gr.free h0) hg ha rep) k)⟩
/-- name = [..] on one line, the name a plain local -/
theorem ds_setLc (i : Nat) {tg iter elt : Expr} {ifs : List Expr} {scope : Scope} (bt : Tg) (own : List (Str × Nat)) (hN : C.N[i]? = some x) (hl : localB C.sc x = true)
    (hsw : ∀ env : Env, env.scope = C.sc → swapsWith (.ListComp elt [⟨tg, iter, ifs, 0⟩] scope p2) (some (.Name x p)) pos.line env = pure true) (hok : blkC C.N C.sc scope own = true) (hsub : (bt.slots.all fun i => (own.map (·.2)).contains i) = true) (hg : DG (C.blk scope) tg bt)
    (hi : DI C tg iter Γ (LcI C bt Γ (own.map (·.2)) scope ifs elt fun ds => E.nx (Γ.set i (some (.dat (.lst ds)))))) (hs : ∀ env x, foldedSetIterable iter env x = pure x := by intro _ _; rfl) : DS C (.Assign [.Name x p] (.ListComp elt [⟨tg, iter, ifs, 0⟩] scope p2) pos) Γ E := ⟨fun X F B G H σ eo D w => by
  refine US.of (ps_setLc (own := own) (g := bt.g X.K) (tt := blkT X scope ifs) (te := blkE X scope elt) F.hc (by rw [F.hN]; exact F.nd) (by rw [F.hN]; exact hN) (by rw [F.hs]; exact local_of hl) (hsw _ F.hs) pi_U (blkOk_by (by rw [F.hN, F.hs]; exact hok)) (fun s H0 a cl fp => hg.run _ (blkFits F scope s H0 a cl fp))
    (fun s H0 a cl fp => ⟨fun pins s' σ H Q I h => h s H0 a cl fp pins s' I⟩) (fun s H0 a cl fp => ⟨fun pins s' σ H Q I h => h s H0 a cl fp pins s' I⟩) (hs _)) ?_
  exact lc_read bt own hsub hi F eo fun a vs ds G' H' r h0 hg ha rep k => by
    have g := ((eo.grow r).gr.pub (eo.gr.free h0) hg ha)
    have r' := r.pub h0 hg ha
    exact w.nxt ((eo.grow r').set (.lst gput_same (rep.mono (ex_gput hg)))) k⟩
/-- the same, still to be changed -/
theorem ds_setLcG (i : Nat) {tg iter elt : Expr} {ifs : List Expr} {scope : Scope} (bt : Tg) (own : List (Str × Nat)) (hN : C.N[i]? = some x) (hl : localB C.sc x = true)
    (hsw : ∀ env : Env, env.scope = C.sc → swapsWith (.ListComp elt [⟨tg, iter, ifs, 0⟩] scope p2) (some (.Name x p)) pos.line env = pure true) (hok : blkC C.N C.sc scope own = true) (hsub : (bt.slots.all fun i => (own.map (·.2)).contains i) = true) (hg : DG (C.blk scope) tg bt)
    (hi : DI C tg iter Γ (LcI C bt Γ (own.map (·.2)) scope ifs elt fun ds => E.nx (Γ.set i (some (.grw ds))))) (hs : ∀ env x, foldedSetIterable iter env x = pure x := by intro _ _; rfl) : DS C (.Assign [.Name x p] (.ListComp elt [⟨tg, iter, ifs, 0⟩] scope p2) pos) Γ E := ⟨fun X F B G H σ eo D w => by
  refine US.of (ps_setLc (own := own) (g := bt.g X.K) (tt := blkT X scope ifs) (te := blkE X scope elt) F.hc (by rw [F.hN]; exact F.nd) (by rw [F.hN]; exact hN) (by rw [F.hs]; exact local_of hl) (hsw _ F.hs) pi_U (blkOk_by (by rw [F.hN, F.hs]; exact hok)) (fun s H0 a cl fp => hg.run _ (blkFits F scope s H0 a cl fp))
    (fun s H0 a cl fp => ⟨fun pins s' σ H Q I h => h s H0 a cl fp pins s' I⟩) (fun s H0 a cl fp => ⟨fun pins s' σ H Q I h => h s H0 a cl fp pins s' I⟩) (hs _)) ?_
  exact lc_read bt own hsub hi F eo fun a vs ds G' H' r h0 hg ha rep k => w.nxt ((eo.grow r).setMut (fun j o e => by
      obtain ⟨u, hu⟩ := eo.owned o e
      rw [h0] at hu; cases hu) (eo.gr.free h0) hg ha rep) k⟩
/-- a, b = value: a tuple is unpacked -/
theorem ds_unp (bt : Tg) {ts : List Expr} (hg : DG C (.Tuple ts k1 p) bt) (h : DE C e Γ fun d => bt.bind d Γ E.nx) (hs : ∀ env : Env, env.scope = C.sc → swapsWithSole [.Tuple ts k1 p] e pos.line env = pure false := by intro _ _; rfl)
    (hw : ∀ env : Env, env.scope = C.sc → swappedStores [.Tuple ts k1 p] e env = pure none := by intro _ _; rfl) (h1 : ∀ env, (assignEach [.Tuple ts k1 p] env).map (·.2) = [assign (.Tuple ts k1 p) env] := by intro _; rfl) : DS C (.Assign [.Tuple ts k1 p] e pos) Γ E := ⟨fun X F B G H σ eo D w =>
  US.of (ps_asg pe_U (hg.run X F) (hs _ F.hs) (hw _ F.hs) (h1 _)) (h.run X F B G H σ eo _ fun v d G' H' r rep k => Tg.run (eo.grow r) rep bt k fun σ' Γ' eo' _ _ k' => w.nxt eo' k')⟩
/-- a, b = e1, e2, two plain locals -/
theorem ds_par (i j : Nat) (hN : C.N[i]? = some x) (hN2 : C.N[j]? = some y) (hij : i ≠ j) (hl : localB C.sc x = true) (hl2 : localB C.sc y = true) (h : DE C a Γ fun d => DE C b Γ fun d2 => E.nx ((Γ.set i (some (.dat d))).set j (some (.dat d2))))
    (hw : ∀ env : Env, env.scope = C.sc → swappedStores [.Tuple [.Name x p1, .Name y p2] k1 p3] (.Tuple [a, b] k2 p4) env = pure (some [x, y])) (hs : ∀ env : Env, swapsWithSole [.Tuple [.Name x p1, .Name y p2] k1 p3] (.Tuple [a, b] k2 p4) pos.line env = pure false := by intro _; rfl)
    (he : ∀ env, starEach [a, b] env = (false, eval a env) :: starEach [b] env := by intro _; rfl) (he2 : ∀ env, starEach [b] env = (false, eval b env) :: starEach [] env := by intro _; rfl) : DS C (.Assign [.Tuple [.Name x p1, .Name y p2] k1 p3] (.Tuple [a, b] k2 p4) pos) Γ E := ⟨fun X F B G H σ eo D w => by
  refine US.of (ps_par F.hc (by rw [F.hN]; exact F.nd) (by rw [F.hN]; exact hN) (by rw [F.hN]; exact hN2) hij (by rw [F.hs]; exact local_of hl) (by rw [F.hs]; exact local_of hl2) (pa_cons pe_U (pa_cons pe_U pa_nil (he2 _)) (he _)) (hw _ F.hs) (hs _)) ?_
  refine h.run X F B G H σ eo _ fun v d G1 H1 r1 rep k => ?_
  refine k.run X F B G1 H1 σ (eo.grow r1) _ fun v2 d2 G2 H2 r2 rep2 k2 => ?_
  exact ⟨v, v2, rfl, w.nxt ((((eo.grow r1).grow r2).set (rep.mono r2.ex)).set rep2) k2⟩⟩
/-- self.f = value, in __init__: the attributes in their order -/
theorem ds_self (i : Nat) {q : Addr} {cl : Cl} {ds : List D} (T : ClsD C.toMd cl) (ho : Γ[i]? = some (some (.obj q cl ds))) (hN : C.N[i]? = some x) (hv : visB C.sc x = true) (hm : (flds cl)[ds.length]? = some m) (h : DE C e Γ fun d => E.nx (Γ.set i (some (.obj q cl (ds ++ [d])))))
    (hd : (x == ("__debug__" : Str)) = false := by decide) (hcd : (x == ("__classdict__" : Str)) = false := by decide) (hs : ∀ env : Env, swapsWith e (some (.Attribute (.Name x p1) m p)) pos.line env = pure false := by intro _; rfl) : DS C (.Assign [.Attribute (.Name x p1) m p] e pos) Γ E := ⟨fun X F B G H σ eo D w => by
  refine US.of (ps_fld (pe_var (i := i) (by rw [F.hN]; exact hN) (by rw [F.hs]; exact vis_of hv) hd hcd) pe_U (hs _)) ?_
  refine h.run X F B G H σ eo _ fun v d G' H' r rep k => ?_
  have eo' := eo.grow r
  obtain ⟨dx, vs, ea, h0, hg, ha, rr⟩ : ∃ dx vs, σ[i]? = some (some (V.ref q)) ∧ B.h0 q = none ∧ G' q = none ∧ H' q = some (.ins (C.cA cl) dx (((flds cl).take vs.length).zip vs)) ∧ RepL C.cA G' vs ds := eo'.at_ i _ ho
  have hlen := rr.length
  have hml : ds.length < (flds cl).length := (List.getElem?_eq_some_iff.mp hm).1
  have f3 : (flds cl).length ≤ 3 := by cases cl <;> decide
  have put : putF m v (((flds cl).take vs.length).zip vs) = ((flds cl).take (vs ++ [v]).length).zip (vs ++ [v]) := by
    rw [List.length_append, List.length_singleton, hlen]
    have e1 : (flds cl).take (ds.length + 1) = (flds cl).take ds.length ++ [m] := by rw [List.take_add_one, hm]; rfl
    rw [e1, List.zip_append (by rw [List.length_take, hlen]; omega)]
    have nm : ¬ m ∈ (flds cl).take ds.length := fun hm' => by
      obtain ⟨j, hj⟩ := List.mem_iff_getElem?.mp hm'
      have hj' : j < ds.length := by
        have := (List.getElem?_eq_some_iff.mp hj).1
        rw [List.length_take] at this; omega
      rw [List.getElem?_take_of_lt hj'] at hj
      exact absurd (nodup_ix (flds_nd cl) hj hm) (by omega)
    have gen : ∀ (fs : List Str) (ws : List V), fs.length = ws.length → ¬ m ∈ fs → putF m v (fs.zip ws) = fs.zip ws ++ [(m, v)] := by
      intro fs
      induction fs with
      | nil => intro ws hl _; cases ws with
        | nil => rfl
        | cons _ _ => cases hl
      | cons f r ih => intro ws hl hn; cases ws with
        | nil => cases hl
        | cons w ws =>
          have hf : ¬ f = m := fun z => hn (by rw [z]; exact List.mem_cons_self ..)
          show (if f = m then _ else (f, w) :: putF m v (r.zip ws)) = _
          rw [if_neg hf, ih ws (by simpa using hl) (fun z => hn (List.mem_cons_of_mem _ z))]
          rfl
    exact gen _ _ (by rw [List.length_take, hlen]; omega) nm
  refine ⟨.ref q, ea, q, C.cA cl, dx, _, rfl, ha, by rw [F.hK]; exact T.cl, by rw [F.hK]; exact T.no m (List.mem_of_getElem? hm), by rw [List.length_zip, List.length_take]; omega, ?_⟩
  rw [put]
  exact w.nxt (eo'.writeObj ho (rr.append (.one rep))) k⟩
/-- g[k] = value, a list of one's own -/
theorem ds_ixG (i : Nat) {ds : List D} (ho : Γ[i]? = some (some (.grw ds))) (hN : C.N[i]? = some x) (hv : visB C.sc x = true) (h : DE C e Γ fun d => DE C b Γ fun y => ∃ k n, y = .int k ∧ ixN ds.length k = some n ∧ E.nx (Γ.set i (some (.grw (ds.set n d)))))
    (hd : (x == ("__debug__" : Str)) = false := by decide) (hcd : (x == ("__classdict__" : Str)) = false := by decide) (hs : ∀ env : Env, swapsWithSole [.Subscript (.Name x p1) b p] e pos.line env = pure false := by intro _; rfl)
    (hw : ∀ env : Env, swappedStores [.Subscript (.Name x p1) b p] e env = pure none := by intro _; rfl) (h1 : ∀ env, (assignEach [.Subscript (.Name x p1) b p] env).map (·.2) = [assign (.Subscript (.Name x p1) b p) env] := by intro _; rfl)
    (hat : ∀ env v, assign (.Subscript (.Name x p1) b p) env v = (do let ov ← holding [v] (eval (.Name x p1) env); let iv ← holding [v, ov] (eval b env); standAt p; holding [v, ov, iv] (setItem ov iv v); release [v, ov, iv] []) := by intro _ _; rfl) : DS C (.Assign [.Subscript (.Name x p1) b p] e pos) Γ E := ⟨fun X F B G H σ eo D w => by
  refine US.of (ps_asg pe_U (pg_sub (pe_var (i := i) (by rw [F.hN]; exact hN) (by rw [F.hs]; exact vis_of hv) hd hcd) pe_U set_list (hat _)) (hs _) (hw _) (h1 _)) ?_
  refine h.run X F B G H σ eo _ fun v d G1 H1 r1 rep k1 => ?_
  have eo1 := eo.grow r1
  obtain ⟨a, vs, ea, h0, hg, ha, rr⟩ : ∃ a vs, σ[i]? = some (some (V.ref a)) ∧ B.h0 a = none ∧ G1 a = none ∧ H1 a = some (.lst vs) ∧ RepL C.cA G1 vs ds := eo1.at_ i _ ho
  refine ⟨.ref a, ea, ?_⟩
  refine k1.run X F B G1 H1 σ eo1 _ fun v2 d2 G2 H2 r2 rep2 k2 => ?_
  obtain ⟨k, n, rfl, hk, k2⟩ := k2
  refine ⟨a, vs, k, n, rfl, rep_int rep2, (r2.old a _ ha hg).2, by rw [rr.length]; exact hk, ?_⟩
  exact w.nxt ((eo1.grow r2).write ho ea ((rr.mono r2.ex).set (rep.mono r2.ex) n)) k2⟩
/-- an expression alone -/
theorem ds_expr (h : DE C e Γ fun _ => E.nx Γ) (hs : ∀ env : Env, swapsWith e none pos.line env = pure false := by intro _; rfl) : DS C (.Expr e pos) Γ E := ⟨fun X F B G H σ eo D w =>
  US.of (ps_expr pe_U (hs _)) (h.run X F B G H σ eo _ fun v d G' H' r rep k => w.nxt (eo.grow r) k)⟩
/-- g.append(value) -/
theorem ds_app (i : Nat) {ds : List D} (ho : Γ[i]? = some (some (.grw ds))) (hN : C.N[i]? = some x) (hv : visB C.sc x = true) (hz : ds.length < 100000) (h : DE C e Γ fun d => E.nx (Γ.set i (some (.grw (ds ++ [d])))))
    (hd : (x == ("__debug__" : Str)) = false := by decide) (hcd : (x == ("__classdict__" : Str)) = false := by decide)
    (hbase : ∀ env, attributeBase (.Name x p1) "append" env (eval (.Name x p1) env) = eval (.Name x p1) env := by intro _; rfl)
    (hfew : ∀ env, ((backTo cpos (starEach [e] env)).all (fun x => !x.1) && (backToKw cpos (keywordEach [] env)).all (fun x => x.1.isSome)
      && decide ([e].length + ([] : List Keyword).length + (if ([] : List Keyword).isEmpty then 0 else 1) < 30)) = true := by intro _; rfl)
    (hline : (apos.endLine == cpos.line) = true := by rfl) (hst : ∀ env, starEach [e] env = (false, eval e env) :: starEach [] env := by intro _; rfl) (hs : ∀ env : Env, swapsWith (.Call (.Attribute (.Name x p1) "append" apos) [e] [] cpos) none pos.line env = pure false := by intro _; rfl) :
    DS C (.Expr (.Call (.Attribute (.Name x p1) "append" apos) [e] [] cpos) pos) Γ E := ⟨fun X F B G H σ eo D w => by
  refine US.of (ps_expr (pe_bm PySem.F.plainAttrs_list PySem.F.slot_list_append PySem.F.type_list_append mt_append (pe_var (i := i) (by rw [F.hN]; exact hN) (by rw [F.hs]; exact vis_of hv) hd hcd) (pa_cons pe_U pa_nil (hst _)) (hbase _) (hfew _) hline (hst _) (by rfl)) (hs _)) ?_
  obtain ⟨a, vs, ea, h0, hg, ha, rr⟩ : ∃ a vs, σ[i]? = some (some (V.ref a)) ∧ B.h0 a = none ∧ G a = none ∧ H a = some (.lst vs) ∧ RepL C.cA G vs ds := eo.at_ i _ ho
  refine ⟨.ref a, ea, .inl ⟨rfl, vs, SqL.of ha⟩, ?_⟩
  refine h.run X F B G H σ eo _ fun v d G1 H1 r1 rep k1 => ?_
  refine ⟨a, vs, v, rfl, rfl, (r1.old a _ ha hg).2, sizeLt (by rw [rr.length]; exact hz), ?_⟩
  exact w.nxt ((eo.grow r1).write ho ea ((rr.mono r1.ex).append (.one rep))) k1⟩
theorem ds_if (h : DT C c Γ fun t => (t = true → DSs C sts Γ E) ∧ (t = false → DSs C sts2 Γ E)) : DS C (.If c sts sts2 pos) Γ E := ⟨fun X F B G H σ eo D w => by
  refine US.of (ps_if pt_U pss_U pss_U) ?_
  refine h.run X F B G H σ eo _ fun t G1 H1 r1 k1 => ?_
  cases t with
  | true => exact iteT ((k1.1 rfl).run X F B G1 H1 σ (eo.grow r1) D w)
  | false => exact iteF ((k1.2 rfl).run X F B G1 H1 σ (eo.grow r1) D w)⟩
theorem ds_ret (h : DE C e Γ E.rt) : DS C (.Return (some e) pos) Γ E := ⟨fun X F B G H σ eo D w =>
  US.of (ps_ret pe_U) (h.run X F B G H σ eo _ fun v d G' H' r rep k => w.rt v d G' H' (eo.gr.trans r) rep k)⟩
theorem ds_pass (h : E.nx Γ) : DS C (.Pass pos) Γ E := ⟨fun X F B G H σ eo D w => US.of ps_pass (w.nxt eo h)⟩
theorem ds_break (h : E.bk Γ) : DS C (.Break pos) Γ E := ⟨fun X F B G H σ eo D w => US.of ps_break (w.bk σ G H Γ eo h)⟩
theorem ds_never (h : False) : DS C st Γ E := h.elim
/-! ### loops -/
theorem Wants.base {cA : Cl → Addr} {B B' : Ba} {D : Ends} {E' : En} {D' : Ends} (w : Wants cA B E D) (n : ∀ σ G H Γ, EO cA B' G H σ Γ → E'.nx Γ → D'.nx σ H) (c : ∀ σ G H Γ, EO cA B' G H σ Γ → E'.ct Γ → D'.ct σ H) (b : ∀ σ G H Γ, EO cA B' G H σ Γ → E'.bk Γ → D'.bk σ H) (h0 : B'.h0 = B.h0) (g0 : B'.g0 = B.g0)
    (er : E'.rt = E.rt) (dr : D'.rt = D.rt) : Wants cA B' E' D' := ⟨n, b, c, fun v d G H g t q => by
  rw [h0, g0] at g
  rw [er] at q
  rw [dr]
  exact w.rt v d G H g t q⟩
theorem EO.rebase {cA : Cl → Addr} {B : Ba} {G : Gh} {H : Hp} {σ : L2.St} (eo : EO cA B G H σ Γ) {g : Gh} (x : Ex g G) : EO cA ⟨g, B.g0, B.h0⟩ G H σ Γ := ⟨x, eo.gr, eo.len, eo.at_, eo.apart⟩
/-- for: I by the turn -/
theorem ds_for {tg iter : Expr} (bt : Tg) (hg : DG C tg bt) (hi : DI C tg iter Γ fun its => ∃ I : Nat → Sl → Prop, I 0 Γ ∧ (∀ i d Γ', its[i]? = some d → I i Γ' → bt.bind d Γ' fun Γ'' => DSs C body Γ'' { nx := I (i + 1), ct := I (i + 1), bk := E.nx, rt := E.rt }) ∧ ∀ Γ', I its.length Γ' → E.nx Γ')
    (hs : ∀ env x, foldedSetIterable iter env x = pure x := by intro _ _; rfl) : DS C (.For tg iter body [] pos) Γ E := ⟨fun X F B G H σ eo D w => by
  refine US.of (ps_for (by rw [F.hx]; exact PassesOwn.never) F.hc pi_U (hg.run X F) pss_U (hs _)) ?_
  refine hi.run X F B G H σ eo _ fun J G1 H1 its r1 wk hx => ?_
  obtain ⟨I, i0, step, fin⟩ := hx
  refine ⟨fun i m σ H => m = its.length - i ∧ i ≤ its.length ∧ ∃ G Γ', EO C.cA ⟨G1, B.g0, B.h0⟩ G H σ Γ' ∧ I i Γ', ⟨_, rfl, Nat.zero_le _, G1, Γ, (eo.grow r1).rebase Ex.rfl', i0⟩, ?_⟩
  rintro i m σ2 H2 ⟨rfl, hil, G2, Γ2, eo2, hI⟩
  have back : ∀ σ G H Γ', EO C.cA ⟨G1, B.g0, B.h0⟩ G H σ Γ' → EO C.cA B G H σ Γ' := fun σ G H Γ' e => ⟨(eo.kx.trans r1.ex).trans e.kx, e.gr, e.len, e.at_, e.apart⟩
  by_cases hlt : i < its.length
  · refine .inr ⟨wk.go G2 H2 i eo2.kx eo2.gr.mt hlt, fun σ H => ∃ G Γ', EO C.cA ⟨G1, B.g0, B.h0⟩ G H σ Γ' ∧ I (i + 1) Γ', fun σ' H' hn => ⟨its.length - (i + 1), by omega, rfl, hlt, hn⟩, fun x H3 hy => ?_⟩
    have hd : its[i]? = some its[i] := List.getElem?_eq_getElem hlt
    obtain ⟨G3, g3, rx⟩ := wk.yld G2 H2 i x H3 its[i] eo2.kx eo2.gr.mt hy hd
    refine Tg.run (eo2.grow g3) rx bt (step i _ Γ2 hd hI) fun σ4 Γ4 eo4 _ _ k4 => ?_
    refine k4.run X F ⟨G1, B.g0, B.h0⟩ G3 H3 σ4 eo4 _ ?_
    exact w.base (fun σ G H Γ e q => ⟨G, Γ, e, q⟩) (fun σ G H Γ e q => ⟨G, Γ, e, q⟩) (fun σ G H Γ e q => w.nx σ G H Γ (back _ _ _ _ e) q) rfl rfl rfl rfl
  · have e : i = its.length := by omega
    subst e
    exact .inl ⟨wk.stop G2 H2 eo2.kx eo2.gr.mt, w.nx σ2 G2 H2 Γ2 (back _ _ _ _ eo2) (fin Γ2 hI)⟩⟩
/-- while: I by a measure -/
theorem ds_while (I : Nat → Sl → Prop) (m : Nat) (i0 : I m Γ) (step : ∀ m Γ', I m Γ' → DT C c Γ' fun t => (t = true → DSs C body Γ' { nx := fun Γ'' => ∃ m', m' < m ∧ I m' Γ'', ct := fun Γ'' => ∃ m', m' < m ∧ I m' Γ'', bk := E.nx, rt := E.rt }) ∧ (t = false → E.nx Γ')) : DS C (.While c body [] pos) Γ E := ⟨fun X F B G H σ eo D w => by
  refine US.of (ps_while (by rw [F.hx]; exact PassesOwn.never) pt_U pss_U) ?_
  refine ⟨fun m σ H => ∃ G Γ', EO C.cA B G H σ Γ' ∧ I m Γ', ⟨m, G, Γ, eo, i0⟩, ?_⟩
  rintro m σ2 H2 ⟨G2, Γ2, eo2, hI⟩
  refine (step m Γ2 hI).run X F B G2 H2 σ2 eo2 _ fun t G3 H3 r3 k3 => ?_
  cases t with
  | true =>
    refine iteT ⟨fun σ H => ∃ G Γ', EO C.cA B G H σ Γ' ∧ ∃ m', m' < m ∧ I m' Γ', fun σ' H' hn => ?_, ?_⟩
    · obtain ⟨G', Γ', e, m', hm, k⟩ := hn
      exact ⟨m', hm, G', Γ', e, k⟩
    · exact (k3.1 rfl).run X F B G3 H3 σ2 (eo2.grow r3) _ ⟨fun σ G H Γ e q => ⟨G, Γ, e, q⟩, w.nx, fun σ G H Γ e q => ⟨G, Γ, e, q⟩, w.rt⟩
  | false => exact iteF (w.nxt (eo2.grow r3) (k3.2 rfl))⟩
end
end DK

-- part DKk
set_option maxHeartbeats 4000000
/-! # A def's body keeps its promise over data. -/
namespace DK
open PySem PySem.Spec PyProof.Rows L2

def startS (N : List Str) (ds : List D) : Sl := ds.map (fun d => some (Ent.dat d)) ++ List.replicate (N.length - ds.length) none
theorem start_at {N : List Str} {vs : List V} {i : Nat} {v : V} (h : vs[i]? = some v) : (L2.start N vs)[i]? = some (some v) := by
  unfold L2.start
  have hi : i < vs.length := (List.getElem?_eq_some_iff.mp h).1
  rw [List.getElem?_append_left (by rw [List.length_map]; exact hi), List.getElem?_map, h]
  rfl
theorem startS_at {N : List Str} {ds : List D} {i : Nat} {e : Ent} (h : (startS N ds)[i]? = some (some e)) : ∃ d, ds[i]? = some d ∧ e = .dat d := by
  unfold startS at h
  by_cases hi : i < ds.length
  · rw [List.getElem?_append_left (by rw [List.length_map]; exact hi), List.getElem?_map, List.getElem?_eq_getElem hi] at h
    exact ⟨ds[i], List.getElem?_eq_getElem hi, by simpa using h.symm⟩
  · rw [List.getElem?_append_right (by rw [List.length_map]; omega), List.getElem?_replicate] at h
    split at h <;> cases h
theorem eo_start {cA : Cl → Addr} {G : Gh} {H : Hp} {N : List Str} {vs : List V} {ds : List D} (mt : Mt G H) (r : RepL cA G vs ds) : EO cA ⟨G, G, H⟩ G H (L2.start N vs) (startS N ds) where
  kx := Ex.rfl'
  gr := .rfl' mt
  len := by
    unfold L2.start startS
    rw [List.length_append, List.length_append, List.length_map, List.length_map, List.length_replicate, List.length_replicate, r.length]
  at_ := fun i e h => by
    obtain ⟨d, hd, rfl⟩ := startS_at h
    obtain ⟨v, hv, rv⟩ := r.getD hd
    exact ⟨v, start_at hv, rv⟩
  apart := fun i j a _ oi _ _ => by
    obtain ⟨e, q, o⟩ := oi
    obtain ⟨d, _, rfl⟩ := startS_at q
    cases o
section
variable {M : Md} {x qual : Str} {st : Stmt} {f : Addr} {fd : FuncData} {N ps : List Str} {k n : Nat} {pr : List D → (D → Prop) → Prop} {dvs : List V} {kws : List (Str × V)} {c : Cl}
theorem fitsTop {cdv : Value} {A : Around} {outer : List Env} {s : Shared} {H : Hp} {E : XK} {f : Addr} (S : FnScope N ps (defScope st)) (hr : Room k (A.deeper (envOfC qual (defScope st) s.heap.objs.size f cdv))) :
    Fits ⟨M, N, defScope st, defScope st, k⟩ (cxOf CX0 M.P M.w M.K M.mg M.base N qual (defScope st) f cdv A outer s H E).nox :=
  ⟨rfl, rfl, rfl, rfl, rfl, rfl, rfl, rfl, hr, rfl, S.nd, fun _ _ => .inl rfl⟩
/-- THE RULE of a def -/
theorem fn_body (FD : FunD M.K x qual (defArgs st) (defBody st) (defScope st) dvs kws f fd) (S : FnScope N ps (defScope st)) (hn : ps.length = n)
    (h : ∀ ds P, pr ds P → ds.length = n → DSs ⟨M, N, defScope st, defScope st, k⟩ (defBody st) (startS N ds) { nx := fun _ => P .non, rt := P }) : FnOk M.P M.w M.K M.mg M.base CX0 (k + 1) f fd ps (spD M.cA n pr) := by
  refine FD.ok S (fun vs H Q E q => ?_) (fun cdv A outer s H vs Q E hr q => ?_)
  · obtain ⟨G, ds, P, _, r, l, _, _⟩ := q
    rw [r.length, l, hn]
  · obtain ⟨G, ds, P, mt, r, l, hp, q⟩ := q
    refine ⟨USs _ _, PSs.nox pss_U, ?_⟩
    refine (h ds P hp l).run _ (fitsTop S hr) ⟨G, G, H⟩ G H (L2.start N vs) (eo_start mt r) _ ⟨fun σ' G' H' Γ' e p => ?_, fun _ _ _ _ _ z => z.elim, fun _ _ _ _ _ z => z.elim, fun v d G' H' g rep p => q v d G' H' g rep p⟩
    exact q .non .non G' H' e.gr .non p
/-- THE RULE of an __init__: the attributes stand in their order at the end -/
theorem init_body (FD : FunD M.K x qual (defArgs st) (defBody st) (defScope st) dvs kws f fd) (S : FnScope N ps (defScope st)) (hn : ps.length = n + 1)
    (h : ∀ q ds P, pr ds P → ds.length = n → DSs ⟨M, N, defScope st, defScope st, k⟩ (defBody st) (some (.obj q c []) :: (ds.map (fun d => some (Ent.dat d)) ++ List.replicate (N.length - (ds.length + 1)) none))
      { nx := fun Γ => ∃ es, Γ[0]? = some (some (.obj q c es)) ∧ es.length = (flds c).length ∧ P (.ins c es), rt := fun _ => False }) : FnOk M.P M.w M.K M.mg M.base CX0 (k + 1) f fd ps (spI M.cA c n pr) := by
  refine FD.ok S (fun vs H Q E q => ?_) (fun cdv A outer s H vs Q E hr q => ?_)
  · obtain ⟨p, dx, G1, H1, vs', ds, P, rfl, _, _, _, _, _, r, l, _⟩ := q
    rw [List.length_cons, r.length, l, hn]
  · obtain ⟨p, dx, G1, H1, vs', ds, P, rfl, rfl, hp, hdx, ne, mt, r, l, hpr, q⟩ := q
    refine ⟨USs _ _, PSs.nox pss_U, ?_⟩
    have gp := mt.free hp
    have gd := mt.free hdx
    have g1 : Gr G1 H1 G1 (upd (upd H1 dx (.own p)) p (.ins (M.cA c) dx [])) := ((Gr.rfl' mt).upd hdx gd).upd hp gp
    have eo : EO M.cA ⟨G1, G1, H1⟩ G1 (upd (upd H1 dx (.own p)) p (.ins (M.cA c) dx [])) (L2.start N (.ref p :: vs')) (some (.obj p c []) :: (ds.map (fun d => some (Ent.dat d)) ++ List.replicate (N.length - (ds.length + 1)) none)) := by
      refine ⟨Ex.rfl', g1, ?_, fun i e he => ?_, fun i j a hij oi oj => ?_⟩
      · unfold L2.start
        rw [List.length_append, List.length_map, List.length_cons, List.length_replicate, List.length_cons, List.length_append, List.length_map, List.length_replicate, r.length]
        omega
      · cases i with
        | zero =>
          cases he
          exact ⟨dx, [], rfl, hp, gp, upd_same, .nil⟩
        | succ i =>
          have he' : (ds.map (fun d => some (Ent.dat d)) ++ List.replicate (N.length - (ds.length + 1)) none)[i]? = some (some e) := he
          by_cases hi : i < ds.length
          · rw [List.getElem?_append_left (by rw [List.length_map]; exact hi), List.getElem?_map, List.getElem?_eq_getElem hi] at he'
            cases he'
            obtain ⟨v, hv, rv⟩ := r.getD (List.getElem?_eq_getElem hi)
            exact ⟨v, start_at (by rw [List.getElem?_cons_succ]; exact hv), rv⟩
          · rw [List.getElem?_append_right (by rw [List.length_map]; omega), List.getElem?_replicate] at he'
            split at he' <;> cases he'
      · have z : ∀ i, isOwn (some (.obj p c []) :: (ds.map (fun d => some (Ent.dat d)) ++ List.replicate (N.length - (ds.length + 1)) none)) i → i = 0 := fun i o => by
          obtain ⟨e, he, ho⟩ := o
          cases i with
          | zero => rfl
          | succ i =>
            have he' : (ds.map (fun d => some (Ent.dat d)) ++ List.replicate (N.length - (ds.length + 1)) none)[i]? = some (some e) := he
            by_cases hi : i < ds.length
            · rw [List.getElem?_append_left (by rw [List.length_map]; exact hi), List.getElem?_map, List.getElem?_eq_getElem hi] at he'
              cases he'; cases ho
            · rw [List.getElem?_append_right (by rw [List.length_map]; omega), List.getElem?_replicate] at he'
              split at he' <;> cases he'
        exact absurd ((z i oi).trans (z j oj).symm) hij
    refine (h p ds P hpr l).run _ (fitsTop S hr) ⟨G1, G1, H1⟩ G1 _ _ eo _ ⟨fun σ' G' H' Γ' e hp' => ?_, fun _ _ _ _ _ z => z.elim, fun _ _ _ _ _ z => z.elim, fun _ _ _ _ _ _ z => z.elim⟩
    obtain ⟨es, h0, hl, hP⟩ := hp'
    obtain ⟨dx', ws, _, _, hg, ha, rr⟩ : ∃ dx vs, σ'[0]? = some (some (V.ref p)) ∧ H1 p = none ∧ G' p = none ∧ H' p = some (.ins (M.cA c) dx (((flds c).take vs.length).zip vs)) ∧ RepL M.cA G' vs es := e.at_ 0 _ h0
    have hwl : ws.length = (flds c).length := rr.length.trans hl
    rw [hwl, List.take_length] at ha
    exact q (.ins c es) _ H' (e.gr.pub hp hg ha) (.ins gput_same hwl (rr.mono (ex_gput hg))) hP
end
end DK

-- part DKl
set_option maxHeartbeats 4000000
/-! # zip of a list and a tuple. -/
namespace DK
open PySem PySem.Spec PyProof.Rows L2

/-- the list at a and the tuple at b as they stand at each turn, the items in new pairs -/
def ItzM (K : PySem.W.Frag) (a b : Addr) : It :=
  ⟨fun i H => ∃ (xs ys : List V) (x y : V), SqL K H a xs ∧ SqT K H b ys ∧ xs[i]? = some x ∧ ys[i]? = some y,
    fun i H v H' => ∃ T x y, v = .ref T ∧ H T = none ∧ H' = upd H T (.tup [x, y]) ∧ (∀ xs, SqL K H a xs → xs[i]? = some x) ∧ ∀ ys, SqT K H b ys → ys[i]? = some y,
    fun i H => ∃ xs ys : List V, SqL K H a xs ∧ SqT K H b ys ∧ (xs.length ≤ i ∨ ys.length ≤ i) ∧ i ≤ xs.length ∧ i ≤ ys.length⟩
theorem turn_zipM {P : Program} {w : World} {K : PySem.W.Frag} {elts : List Expr} {kk : Nat} {tpos : Pos} {a b z TI TO i1 i2 : Addr} (D : ZipSep2 z TI TO i1 i2 [i1, a] [i2, b]) (n1 : a ≠ i1) (n2 : b ≠ i2) :
    Turn P w K (.Tuple elts kk tpos) (ItzM K a b) [z, TI, TO, i1, i2] z (fun i h => IsZip h z TI TO .none ∧ IsTupOf2 h TI (.ref i1) (.ref i2) ∧ (∃ x y, IsTupOf2 h TO x y) ∧ h.IsListIter i1 a i ∧ h.IsTupleIter i2 b i) where
  mem := by simp
  obj := fun i h st c hc => by
    obtain ⟨hz, hTI, ⟨x, y, hTO⟩, ⟨o1, e1, _, d1⟩, ⟨o2, e2, _, d2⟩⟩ := st
    have e' : c = z ∨ c = TI ∨ c = TO ∨ c = i1 ∨ c = i2 := by simpa using hc
    rcases e' with q | q | q | q | q
    · rw [q]; exact ⟨_, hz, fun v q => nomatch q⟩
    · rw [q]; exact ⟨_, hTI, fun v q => nomatch q⟩
    · rw [q]; exact ⟨_, hTO, fun v q => nomatch q⟩
    · rw [q]; exact ⟨o1, e1, fun v q => by rw [d1] at q; cases q⟩
    · rw [q]; exact ⟨o2, e2, fun v q => by rw [d2] at q; cases q⟩
  keep := fun i h h' st k => by
    obtain ⟨hz, hTI, ⟨x, y, hTO⟩, h1, h2⟩ := st
    exact ⟨k z (by simp) _ hz, k TI (by simp) _ hTI, ⟨x, y, k TO (by simp) _ hTO⟩, h1.at fun o q => k i1 (by simp) o q, h2.at fun o q => k i2 (by simp) o q⟩
  item := by
    intro X hP hw hK hc i pins s σ H E I hf st hg
    subst hP hw hK
    obtain ⟨hz, hTI, ⟨x0, y0, hTO⟩, h1, h2⟩ := st
    obtain ⟨xs, ys, x, y, hqx, hqy, hx, hy⟩ := hg
    obtain ⟨its, rv, p, _⟩ := I.list hqx
    obtain ⟨its2, rv2, p2, _⟩ := I.tuple hqy
    obtain ⟨u, hu, ru⟩ := rv.get hx
    obtain ⟨u2, hu2, ru2⟩ := rv2.get hy
    have hzl : z < s.heap.objs.size := Heap.lt_size hz
    have hh : X.A.in1.handled = none := I.ok.hd hc
    have l1 : i < its.toArray.size := by have := (List.getElem?_eq_some_iff.mp hu).1; simpa using this
    have l2 : i < its2.toArray.size := by have := (List.getElem?_eq_some_iff.mp hu2).1; simpa using this
    refine wpAny_pyNext_zipD2_item D (Draws.list hh i1 a n1 its.toArray) (Draws.tuple hh i2 b n2 its2.toArray) hz hTI hTO ⟨h1, p.isList⟩ ⟨h2, p2⟩ l1 l2 fun x1 x2 h' tk y1 y2 z' TO' d1 d2 hT hsz hk => ?_
    have hx1 : x1 = u := by
      have y1' : its[i]? = some x1 := by simpa using y1
      rw [hu] at y1'; cases y1'; rfl
    have hx2 : x2 = u2 := by
      have y2' : its2[i]? = some x2 := by simpa using y2
      rw [hu2] at y2'; cases y2'; rfl
    subst hx1 hx2
    refine ⟨_, rfl, wpAny_letOwnedTupleGo_zip (s := { s with heap := h', toks := tk }) z' fun h'' z'' sb => ?_⟩
    have hT2 : h''.get? s.heap.objs.size = some { cls := .type "tuple", data := .seq #[x1, x2] } := (sb.2 _ (Nat.ne_of_gt hzl)).trans hT
    have new : ObjOk X.prog X.w (upd H s.heap.objs.size (.tup [x, y])) h'' s.heap.objs.size (.tup [x, y]) :=
      ⟨by show 2 ≤ sizeLine; decide, [x1, x2], .cons ru (.cons ru2 .nil), ⟨_, hT2, rfl, _, rfl⟩⟩
    have I1 : Inv X pins σ (upd H s.heap.objs.size (.tup [x, y])) { s with heap := h'', toks := tk } :=
      I.turnedNew (t' := tk) (ch := [z, TI, TO, i1, i2]) (fun c o hb q => (sb.2 c (fun q' => hb (by simp [q']))).trans (hk c o (fun q' => hb (by simp [q'])) (fun q' => hb (by simp [q'])) (fun q' => hb (by simp [q'])) (fun q' => hb (by simp [q'])) q)) hf (Nat.le_refl _) new
    refine ⟨.ref s.heap.objs.size, _, I1, rfl, ⟨_, x, y, rfl, I.hok.fresh (Nat.le_refl _), rfl, fun l hl => by rw [I.list_inj hl hqx]; exact hx, fun l hl => by rw [I.tuple_inj hl hqy]; exact hy⟩, ⟨z'', ?_, ⟨x1, x2, ?_⟩, ?_, ?_⟩, fun c hcm => ?_⟩
    · exact (sb.2 _ D.TIz).trans (hk _ _ D.TIz D.TITO D.TIi1 D.TIi2 hTI)
    · exact (sb.2 _ D.TOz).trans TO'
    · exact d1.1.at fun o q => (sb.2 _ D.zi1.symm).trans q
    · exact d2.1.at fun o q => (sb.2 _ D.zi2.symm).trans q
    · have hlt : c < s.heap.objs.size := by
        have e' : c = z ∨ c = TI ∨ c = TO ∨ c = i1 ∨ c = i2 := by simpa using hcm
        rcases e' with q | q | q | q | q
        · rw [q]; exact hzl
        · rw [q]; exact Heap.lt_size hTI
        · rw [q]; exact Heap.lt_size hTO
        · rw [q]; obtain ⟨_, e1, _⟩ := h1; exact Heap.lt_size e1
        · rw [q]; obtain ⟨_, e2, _⟩ := h2; exact Heap.lt_size e2
      rw [upd_ne (Nat.ne_of_lt hlt)]
      exact (hf c hcm).1
  done := by
    intro X hP hw hK hc i pins s σ H E I hf st hg
    subst hP hw hK
    obtain ⟨hz, hTI, ⟨x0, y0, hTO⟩, h1, h2⟩ := st
    obtain ⟨xs, ys, hqx, hqy, hend, e1, e2⟩ := hg
    obtain ⟨its, rv, p, _⟩ := I.list hqx
    obtain ⟨its2, rv2, p2, _⟩ := I.tuple hqy
    have l1 := rv.length
    have l2 := rv2.length
    have hh : X.A.in1.handled = none := I.ok.hd hc
    exact wpAny_pyNext_zipD2_end D (Draws.list hh i1 a n1 its.toArray) (Draws.tuple hh i2 b n2 its2.toArray) hz hTI hTO ⟨h1, p.isList⟩ ⟨h2, p2⟩ (by simp; omega) (by simp; omega) (by simp; omega) fun h' tk hk => ⟨rfl, I.turnedL (t' := tk) (ch := [z, TI, TO, i1, i2]) (fun c o hb q =>
      hk c o (fun q' => hb (by simp [q'])) (fun q' => hb (by simp [q'])) (fun q' => hb (by simp [q'])) (fun q' => hb (by simp [q'])) q) hf⟩
  self := fun A i s Q E st h => wpAny_pyIter_zip st.1 h
def iZipM (K : PySem.W.Frag) (ta : TA) : TI := fun σ H R => ta σ H fun vs H1 => ∃ a b xs ys, vs = [.ref a, .ref b] ∧ SqL K H1 a xs ∧ SqT K H1 b ys ∧ R (ItzM K a b) H1
theorem pi_zipM {X : Cx} {e e2 : Expr} {ta : TA} {p pos tpos : Pos} {elts : List Expr} {kk : Nat} (hg : Gl X "zip") (hm : X.mg "zip" = none) (ha : PA X [e, e2] ta)
    (hs : starEach [e, e2] X.env = (false, eval e X.env) :: starEach [e2] X.env := by rfl) (hpl : (backTo pos (starEach [e2] X.env)).any (·.1) = false := by rfl) :
    PI X (.Tuple elts kk tpos) (.Call (.Name "zip" p) [e, e2] [] pos) (iZipM X.K ta) := by
  refine ⟨fun pins s σ H R I h => ?_⟩
  refine Call_ (ld_blt I hg hm PyProof.Rows.boot_zip (PyProof.Rows.callWith_type1 (thn (ha.run pos pins s σ H _ I h) fun us s1 ⟨vs, H1, I1, r1, q1⟩ => ?_) hs hpl))
  obtain ⟨a, b, xs, ys, ex, hqx, hqy, q⟩ := q1
  subst ex
  cases r1 with
  | cons r rr =>
    cases rr with
    | cons r' rr =>
      cases rr
      cases r
      cases r'
      obtain ⟨its, rv, p1, _⟩ := I1.list hqx
      obtain ⟨its2, rv2, p2, _⟩ := I1.tuple hqy
      obtain ⟨o2, ho2, _⟩ := id p2
      have la : a < s1.heap.objs.size := p1.lt
      have lb : b < s1.heap.objs.size := Heap.lt_size ho2
      refine zip_begins2 (begins_list a its.toArray) (begins_tuple b its2.toArray) p1.isList p2 fun h' hz hTI hTO h1 h2 hsz hk => wpAny_pyIter_zip hz ?_
      have I2 : Inv X pins σ H1 { s1 with heap := h' } := I1.kept (t' := s1.toks) hk
      refine ⟨s1.heap.objs.size + 4, [s1.heap.objs.size + 4, s1.heap.objs.size + 2, s1.heap.objs.size + 3, s1.heap.objs.size, s1.heap.objs.size + 1], _, _, H1, rfl, I2,
        turn_zipM (zip_sep2 (N := s1.heap.objs.size) (fp1 := [a]) (fp2 := [b]) (fun c hc => by rw [List.mem_singleton.mp hc]; exact la) (fun c hc => by rw [List.mem_singleton.mp hc]; exact lb)) (Nat.ne_of_lt la) (Nat.ne_of_lt (Nat.lt_succ_of_lt lb)), ⟨hz, hTI, ⟨_, _, hTO⟩, ⟨_, h1, rfl, rfl⟩, ⟨_, h2, rfl, rfl⟩⟩, fun c hcm => ?_, q⟩
      have e' : c = s1.heap.objs.size + 4 ∨ c = s1.heap.objs.size + 2 ∨ c = s1.heap.objs.size + 3 ∨ c = s1.heap.objs.size ∨ c = s1.heap.objs.size + 1 := by simpa using hcm
      have hle : s1.heap.objs.size ≤ c := by
        rcases e' with z | z | z | z | z
        · rw [z]; exact Nat.le_add_right _ _
        · rw [z]; exact Nat.le_add_right _ _
        · rw [z]; exact Nat.le_add_right _ _
        · rw [z]; exact Nat.le_refl _
        · rw [z]; exact Nat.le_add_right _ _
      exact I1.fpOk hle (I1.hok.fresh hle)
section
variable {cA : Cl → Addr} {K : PySem.W.Frag} {G1 : Gh}
theorem walks_zipM {a b : Addr} {vs ws : List V} {xs ys : List D} (h : G1 a = some (.fix (.lst vs))) (r : RepL cA G1 vs xs) (h2 : G1 b = some (.fix (.tup ws))) (r2 : RepL cA G1 ws ys) : Walks cA (ItzM K a b) G1 (zipD xs ys) where
  go := fun G H i e m hi => by
    rw [zipD_length] at hi
    have h1' : i < vs.length := by rw [r.length]; omega
    have h2' : i < ws.length := by rw [r2.length]; omega
    exact ⟨vs, ws, vs[i], ws[i], SqL.of (m _ _ (e _ _ h)), SqT.of (m _ _ (e _ _ h2)), by simp [h1'], by simp [h2']⟩
  yld := fun G H i x H' d e m y hd => by
    obtain ⟨T, u, w, rfl, hT, rfl, y1, y2⟩ := y
    obtain ⟨x, y, hx, hy, rfl⟩ := zipD_get hd
    obtain ⟨u', hu, ru⟩ := (r.mono e).getD hx
    obtain ⟨w', hw, rw'⟩ := (r2.mono e).getD hy
    have q1 := y1 vs (SqL.of (m _ _ (e _ _ h)))
    have q2 := y2 ws (SqT.of (m _ _ (e _ _ h2)))
    rw [hu] at q1; cases q1
    rw [hw] at q2; cases q2
    exact ⟨_, new_tup (.rfl' m) (.cons ru (.one rw')) hT⟩
  stop := fun G H e m => ⟨vs, ws, SqL.of (m _ _ (e _ _ h)), SqT.of (m _ _ (e _ _ h2)), by rw [zipD_length, r.length, r2.length]; omega, by rw [zipD_length, r.length]; omega, by rw [zipD_length, r2.length]; omega⟩
end
section
variable {C : Ctx} {Γ : Sl} {A : List D → Prop} {pos p tpos : Pos} {a b : Expr} {elts : List Expr} {kk : Nat}
theorem di_zipM (hg : glB C.sc "zip" = true) (hm : C.mg "zip" = none) (h : DE C a Γ fun d => ∃ xs, d = .lst xs ∧ DE C b Γ fun d => ∃ ys, d = .tup ys ∧ A (zipD xs ys))
    (hs : ∀ env, starEach [a, b] env = (false, eval a env) :: starEach [b] env := by intro _; rfl) (hs2 : ∀ env, starEach [b] env = (false, eval b env) :: starEach [] env := by intro _; rfl) (hpl : ∀ env, (backTo pos (starEach [b] env)).any (·.1) = false := by intro _; rfl) :
    DI C (.Tuple elts kk tpos) (.Call (.Name "zip" p) [a, b] [] pos) Γ A := ⟨fun X F B G H σ eo R q => by
  refine UI.of (pi_zipM (gl_of F hg) (by rw [F.hm]; exact hm) (pa_cons pe_U (pa_cons pe_U pa_nil (hs2 _)) (hs _)) (hs _) (hpl _)) ?_
  refine h.run X F B G H σ eo _ fun v d G1 H1 r1 rep k1 => ?_
  obtain ⟨xs, rfl, k1⟩ := k1
  refine k1.run X F B G1 H1 σ (eo.grow r1) _ fun v2 d2 G2 H2 r2 rep2 k2 => ?_
  obtain ⟨ys, rfl, k2⟩ := k2
  obtain ⟨n, vs, rfl, hg, hn, rr⟩ := rep_lst r2.mt (rep.mono r2.ex)
  obtain ⟨n2, vs2, rfl, hg2, hn2, rr2⟩ := rep_tup r2.mt rep2
  exact ⟨n, n2, vs, vs2, rfl, SqL.of hn, SqT.of hn2, q _ G2 H2 _ (r1.trans r2) (walks_zipM hg rr hg2 rr2) k2⟩⟩
end
end DK

-- part DKm
set_option maxHeartbeats 4000000
/-! # == of tuples, the items with an own __eq__; both answers. -/
namespace DK
open PySem PySem.SeqAt
open AutoSeq1 (wpAny_loadPart')
open MeetsSeq MeetsSeq2 MeetsSeq3 SeqRoads2
section
variable {prog : Program} {w : World} {A : Around} {R : Result → Shared → Prop}
theorem tuple_eqB (l b : Addr) (items items2 : Array Value) (n n2 : Nat) (dd dd2 : Option Addr) (sl sl2 : Array (Option Value)) (e : Nat → Bool) (I : Shared → Prop)
    (turn : ∀ i (h1 : i < items.size) (h2 : i < items2.size) s, I s → wpAny (model prog w) A.in1 (eqBool items[i] items2[i]) (fun r s' => r = e i ∧ I s') (fun e s' => R (.error e) s') s)
    (fin : ∀ s, I s → R (.ok (.ret (.bool ((List.range (min items.size items2.size)).all e && items.size == items2.size)))) s) {s : Shared} (hl1 : s.heap.get? l = some { cls := .type "tuple", dict := dd, data := .seq items n, slots := sl }) (hb1 : s.heap.get? b = some { cls := .type "tuple", dict := dd2, data := .seq items2 n2, slots := sl2 }) (h : I s) :
    wpAny (model prog w) A.in1 (Builtin.«tuple.__eq__» ⟨[.ref l, .ref b], []⟩) (GQ.FinOf prog w A R) (fun e s' => R (.error e) s') s := by
  have f2 := AutoSeq1.sub_tuple_tuple
  have hZ : (items.toList.zip items2.toList).length = min items.size items2.size := by simp
  have h0 := h
  obtain ⟨hp, g, d, tk, os⟩ := s
  wp_walk using wpAny_loadPart' hl1, wpAny_loadPart' hb1, wpAny_forIn_list _ (fun rest b s' => b.1 = none ∧ I s' ∧ ∃ i, rest = (items.toList.zip items2.toList).drop i ∧
      ((List.range (min items.size items2.size)).all e = ((List.range (min items.size items2.size)).drop i).all e)) _
  case turn =>
    rintro ⟨y, x⟩ rest b s' ⟨hb', hI, i, hz, he⟩
    have hlt : i < (items.toList.zip items2.toList).length := by
      rcases Nat.lt_or_ge i (items.toList.zip items2.toList).length with h' | h'
      · exact h'
      · rw [List.drop_of_length_le h'] at hz; cases hz
    have hm : i < min items.size items2.size := hZ ▸ hlt
    have h1 : i < items.size := Nat.lt_of_lt_of_le hm (Nat.min_le_left _ _)
    have h2 : i < items2.size := Nat.lt_of_lt_of_le hm (Nat.min_le_right _ _)
    rw [List.drop_eq_getElem_cons hlt] at hz
    injection hz with hyx hrest
    have hy : y = items[i] := by have := congrArg Prod.fst hyx; simpa using this
    have hx : x = items2[i] := by have := congrArg Prod.snd hyx; simpa using this
    subst hy hx
    have hd : (List.range (min items.size items2.size)).drop i = i :: (List.range (min items.size items2.size)).drop (i + 1) := by simp [List.drop_eq_getElem_cons, hm]
    rw [hd, List.all_cons] at he
    refine wpAny_bind (wpAny_mono (turn i h1 h2 s' hI) (fun r s2 q2 => ?_) fun _ _ x => x)
    obtain ⟨hr, q2⟩ := q2
    subst hr
    cases hy : e i with
    | true =>
      rw [hy] at he
      wp_walk
      exact ⟨rfl, q2, i + 1, hrest, by simpa using he⟩
    | false =>
      rw [hy] at he
      have hR := fin s2 q2
      rw [he] at hR
      wp_walk
      simpa [GQ.FinOf] using hR
  case fin =>
    rintro ⟨b1, b2⟩ s' ⟨hb', hI, i, hz, he⟩
    simp only at hb'
    subst hb'
    have hge : min items.size items2.size ≤ i := by
      rcases Nat.lt_or_ge i (items.toList.zip items2.toList).length with h' | h'
      · rw [List.drop_eq_getElem_cons h'] at hz; cases hz
      · exact hZ ▸ h'
    have hR := fin s' hI
    rw [he, List.drop_of_length_le (by simpa using hge)] at hR
    wp_walk
    simpa [Builtin.Tuple.tupleCompareSizes] using hR
  case h =>
    exact ⟨rfl, h0, 0, rfl, rfl⟩
end
section
variable {prog : Program} {w : World} {A : Around} {E : Value → Shared → Prop} {s : Shared}
theorem rc_tupB {l b : Addr} {items items2 : Array Value} {Q : Value → Shared → Prop} (hu : A.units < cLine) (e : Nat → Bool) (I : Shared → Prop)
    (hl : s.heap.IsTuple l items) (hb : s.heap.IsTuple b items2)
    (turn : ∀ i (h1 : i < items.size) (h2 : i < items2.size) s, I s → wpAny (model prog w) A.in1 (eqBool items[i] items2[i]) (fun r s' => r = e i ∧ I s') E s)
    (fin : ∀ s, I s → Q (.bool ((List.range (min items.size items2.size)).all e && items.size == items2.size)) s) (h : I s) : wpAny (model prog w) A (richCompare .Eq (.ref l) (.ref b)) Q E s := by
  obtain ⟨⟨cls, dd, data, sl⟩, ho, hc, n, hd⟩ := id hl
  obtain ⟨⟨cls2, dd2, data2, sl2⟩, ho2, hc2, n2, hd2⟩ := id hb
  simp only at hc hd hc2 hd2
  subst hc hd hc2 hd2
  refine wpAny_richCompare_same_room (op := .Eq) ⟨_, ho, rfl⟩ ⟨_, ho2, rfl⟩ F.slot_tuple_eq (GQ.call_here F.slot_tuple_eq ⟨_, ho, rfl⟩ F.entry_tuple_eq (F.args_tuple_eq_2 _ _) ?_) hu
  exact tuple_eqB (R := wants (fun v s' => v ≠ .notImplemented ∧ Q v s') E) l b items items2 n n2 dd dd2 sl sl2 e I turn (fun s' q => ⟨(fun x => nomatch x), fin s' q⟩) ho ho2 h
end
end DK
namespace DK
open PySem PySem.Spec PyProof.Rows L2
/-- item by item, and as many -/
def tupEq (f : D → D → Bool) : D → D → Bool
  | .tup xs, .tup ys => (List.zipWith f xs ys).all (fun b => b) && xs.length == ys.length
  | _, _ => false
/-- == by f on the data of S, below the running body -/
structure EqC (C : Ctx) (n : Nat) (S : D → Prop) (f : D → D → Bool) : Prop where
  same : ∀ (G : Gh) v d e, S d → S e → Rep C.cA G v d → Rep C.cA G v e → f d e = true
  run : ∀ X, Fits C X → ∀ (A : Around) (pins : List (Addr × Obj)) (s : Shared) (σ : L2.St) (G : Gh) (H : Hp) (x y : V) (u v : Value) (d e : D), Sub X n A → Inv X pins σ H s → Mt G H → RelV x u → RelV y v → Rep C.cA G x d → Rep C.cA G y e → S d → S e →
    wpAny (model X.prog X.w) A (eqBool u v) (fun r s' => r = f d e ∧ ∃ G' H', Inv X pins σ H' s' ∧ Gr G H G' H') X.xe s
section
variable {C : Ctx} {n k : Nat} {S : D → Prop} {f : D → D → Bool} {c : Cl} {pr : List D → (D → Prop) → Prop} {P : D → Prop}
theorem zip_inj {α β : Type} {fs : List α} : ∀ {fs : List α} {vs ws : List β}, vs.length = fs.length → ws.length = fs.length → fs.zip vs = fs.zip ws → vs = ws
  | [], vs, ws, h1, h2, _ => by
    rw [List.length_eq_zero_iff.mp h1, List.length_eq_zero_iff.mp h2]
  | f :: fs, v :: vs, w :: ws, h1, h2, h => by
    simp at h h1 h2
    rw [h.1, zip_inj (fs := fs) h1 h2 h.2]
theorem eqc_own (T : ClsD C.toMd c) (m : Me C.toMd c "__eq__" 2 k [] pr) (hs : ∀ d, S d → ∃ xs, d = .ins c xs) (hf : ∀ (G : Gh) vs xs ys, S (.ins c xs) → S (.ins c ys) → RepL C.cA G vs xs → RepL C.cA G vs ys → f (.ins c xs) (.ins c ys) = true)
    (h : ∀ xs ys, S (.ins c xs) → S (.ins c ys) → pr [.ins c xs, .ins c ys] fun d => d = .bl (f (.ins c xs) (.ins c ys))) : EqC C k S f where
  same := fun G v d e sd se r1 r2 => by
    obtain ⟨xs, rfl⟩ := hs d sd
    obtain ⟨ys, rfl⟩ := hs e se
    cases r1 with
    | ins g1 l1 q1 =>
      cases r2 with
      | ins g2 l2 q2 =>
        rw [g1] at g2
        injection g2 with g2
        injection g2 with g2
        injection g2 with e1 e2 e3
        have e4 := zip_inj (fs := flds c) l1 l2 e3
        subst e4
        exact hf G _ _ _ sd se q1 q2
  run := fun X F A pins s σ G H x y u v d e sb I mt rx ry r1 r2 sd se => by
    obtain ⟨xs, rfl⟩ := hs d sd
    obtain ⟨ys, rfl⟩ := hs e se
    obtain ⟨f', fd, ps, dvs, us, ok, me, hb, hv, hd⟩ := m.ex
    obtain ⟨a, dx, ws, rfl, ga, ha, la, ra⟩ := rep_ins mt r1
    obtain ⟨b, dy, zs, rfl, gb, hb', lb, rb⟩ := rep_ins mt r2
    cases rx
    cases ry
    by_cases hab : a = b
    · subst hab
      rw [ga] at gb
      injection gb with gb
      injection gb with gb
      injection gb with e1 e2 e3
      have e4 := zip_inj (fs := flds c) la lb e3
      subst e4
      exact SeqAt.EqAt.same (A := A) (s := s) (.ref a) X.prog X.w X.xe _ ⟨(hf G _ _ _ sd se ra rb).symm, G, H, I, .rfl' mt⟩
    · obtain ⟨od, J⟩ := inst_at I ha
      obtain ⟨od', J'⟩ := inst_at I hb'
      obtain ⟨m', hF⟩ := I.fr
      have dv : dvs = [] := by
        have := (hd G).length
        cases dvs with
        | nil => rfl
        | cons _ _ => cases this
      subst dv
      cases hv
      refine GQ.eqBool_refG hab ?_
      refine PySem.W.cmp_K (op := .Eq) (C := C.cA c) (tb := .ref (C.cA c)) sb.room.units0 hF I.ok.mod.kin J J'.type (by simp [PySem.W.notFirst]) (by rw [F.hK]; exact me.at_) (by rw [F.hK]; exact me.fn) ?_
      refine thn (run_sub (us := [.ref a, .ref b]) (vs := [.ref a, .ref b]) (n := 0) (F.fn ok) sb (by rw [F.hK]; exact hb) I (.cons rfl (.cons rfl .nil))
        (Q := fun v H' => v = .bl (f (.ins c xs) (.ins c ys)) ∧ ∃ G', Gr G H G' H') (spD_ask (cA := C.cA) (dvs := []) (ds := [.ins c xs, .ins c ys]) mt (.cons r1 (.one r2)) .nil (m.ar _ _ (h _ _ sd se)) (h _ _ sd se) fun v d G' H' r rep p => ?_)) fun u s' z => ?_
      · subst p
        exact ⟨rep_bl rep, G', r⟩
      · obtain ⟨v, H', I', r, rfl, G', g⟩ := z
        cases r
        exact ⟨_, rfl, rfl, G', H', I', g⟩
theorem all_zip {f : D → D → Bool} : ∀ {xs ys : List D}, (List.range (min xs.length ys.length)).all (fun i => f (xs.getD i .non) (ys.getD i .non)) = (List.zipWith f xs ys).all fun b => b
  | [], ys => by simp
  | x :: xs, [] => by simp
  | x :: xs, y :: ys => by
    have e : min (x :: xs).length (y :: ys).length = min xs.length ys.length + 1 := by simp only [List.length_cons]; omega
    rw [e, List.range_succ_eq_map, List.all_cons, List.all_map, List.zipWith_cons_cons, List.all_cons, ← all_zip (xs := xs) (ys := ys)]
    rfl
/-- the turns of tuple.__eq__ -/
theorem EqC.turn (q : EqC C n S f) {X : Cx} (F : Fits C X) {A : Around} (sb : Sub X (n + 1) A) {pins : List (Addr × Obj)} {σ : L2.St} {G : Gh} {H : Hp} {vs ws : List V} {xs ys : List D} {its its2 : List Value} (r : Vals vs its) (r2 : Vals ws its2) (p : RepL C.cA G vs xs) (p2 : RepL C.cA G ws ys)
    (sx : ∀ d ∈ xs, S d) (sy : ∀ d ∈ ys, S d) (i : Nat) (h1 : i < its.toArray.size) (h2 : i < its2.toArray.size) (s' : Shared) (l : ∃ G' H', Inv X pins σ H' s' ∧ Gr G H G' H') :
    wpAny (model X.prog X.w) A.in1 (eqBool its.toArray[i] its2.toArray[i]) (fun b s2 => b = f (xs.getD i .non) (ys.getD i .non) ∧ ∃ G' H', Inv X pins σ H' s2 ∧ Gr G H G' H') X.xe s' := by
  obtain ⟨G1, H1, I1, g1⟩ := l
  have h1' : i < its.length := by simpa using h1
  have h2' : i < its2.length := by simpa using h2
  have c1 : its[i]? = some its.toArray[i] := by rw [List.getElem?_eq_getElem h1'] <;> simp
  have c2 : its2[i]? = some its2.toArray[i] := by rw [List.getElem?_eq_getElem h2'] <;> simp
  have k1 : i < vs.length := by rw [r.length]; exact h1'
  have k2 : i < ws.length := by rw [r2.length]; exact h2'
  obtain ⟨u, hu, ru⟩ := r.get (List.getElem?_eq_getElem k1)
  obtain ⟨v, hv, rv⟩ := r2.get (List.getElem?_eq_getElem k2)
  rw [c1] at hu
  rw [c2] at hv
  rw [Option.some.inj hu, Option.some.inj hv]
  obtain ⟨d, hd, rd⟩ := p.get (List.getElem?_eq_getElem k1)
  obtain ⟨e, he, re⟩ := p2.get (List.getElem?_eq_getElem k2)
  have d1 : xs.getD i .non = d := by rw [List.getD_eq_getElem?_getD, hd]; rfl
  have d2 : ys.getD i .non = e := by rw [List.getD_eq_getElem?_getD, he]; rfl
  rw [d1, d2]
  refine wpAny_mono (q.run X F A.in1 pins s' σ G1 H1 _ _ u v d e sb.in1 I1 g1.mt ru rv (rd.mono g1.ex) (re.mono g1.ex) (sx d (List.mem_of_getElem? hd)) (sy e (List.mem_of_getElem? he))) (fun b s2 z => ?_) fun _ _ x => x
  obtain ⟨hb, G2, H2, I2, g2⟩ := z
  exact ⟨hb, G2, H2, I2, g1.trans g2⟩
def tupS (S : D → Prop) (d : D) : Prop := ∃ xs, d = .tup xs ∧ ∀ x ∈ xs, S x
theorem tup_same (q : EqC C n S f) {G : Gh} : ∀ {vs : List V} {xs ys : List D}, (∀ x ∈ xs, S x) → (∀ x ∈ ys, S x) → RepL C.cA G vs xs → RepL C.cA G vs ys → tupEq f (.tup xs) (.tup ys) = true
  | [], xs, ys, sx, sy, p, p2 => by
    cases p
    cases p2
    rfl
  | v :: vs, xs, ys, sx, sy, p, p2 => by
    cases p with
    | cons r1 t1 =>
      cases p2 with
      | cons r2 t2 =>
        have e := tup_same q (fun x hx => sx x (List.mem_cons_of_mem _ hx)) (fun x hx => sy x (List.mem_cons_of_mem _ hx)) t1 t2
        have e2 := q.same G v _ _ (sx _ (List.mem_cons_self ..)) (sy _ (List.mem_cons_self ..)) r1 r2
        simp only [tupEq, Bool.and_eq_true, List.zipWith_cons_cons, List.all_cons, List.length_cons, beq_iff_eq] at e ⊢
        exact ⟨⟨e2, e.1⟩, by omega⟩
theorem rc_tupD (q : EqC C n S f) {X : Cx} (F : Fits C X) {A : Around} {pins : List (Addr × Obj)} {s : Shared} {σ : L2.St} {G : Gh} {H : Hp} {x y : V} {u v : Value} {xs ys : List D} (sb : Sub X (n + 1) A) (I : Inv X pins σ H s) (mt : Mt G H) (rx : RelV x u) (ry : RelV y v)
    (r1 : Rep C.cA G x (.tup xs)) (r2 : Rep C.cA G y (.tup ys)) (sx : ∀ d ∈ xs, S d) (sy : ∀ d ∈ ys, S d) :
    wpAny (model X.prog X.w) A (richCompare .Eq u v) (fun r s' => ∃ b, r = .bool b ∧ b = tupEq f (.tup xs) (.tup ys) ∧ ∃ G' H', Inv X pins σ H' s' ∧ Gr G H G' H') X.xe s := by
  obtain ⟨a, vs, rfl, ga, ha, p⟩ := rep_tup mt r1
  obtain ⟨b, ws, rfl, gb, hb, p2⟩ := rep_tup mt r2
  cases rx
  cases ry
  obtain ⟨its, q1, e1, z1⟩ := I.tuple (SqT.of ha)
  obtain ⟨its2, q2, e2, z2⟩ := I.tuple (SqT.of hb)
  refine rc_tupB sb.room.units0 (fun i => f (xs.getD i .non) (ys.getD i .non)) (fun s' => ∃ G' H', Inv X pins σ H' s' ∧ Gr G H G' H') e1 e2 (fun i h1 h2 s' l => q.turn F sb q1 q2 p p2 sx sy i h1 h2 s' l) (fun s' l => ⟨_, rfl, ?_, l⟩) ⟨G, H, I, .rfl' mt⟩
  have l1 : its.toArray.size = xs.length := by rw [List.size_toArray, ← q1.length, p.length]
  have l2 : its2.toArray.size = ys.length := by rw [List.size_toArray, ← q2.length, p2.length]
  rw [l1, l2, all_zip]
  rfl
theorem eqc_tup (q : EqC C n S f) : EqC C (n + 1) (tupS S) (tupEq f) where
  same := fun G v d e sd se r1 r2 => by
    obtain ⟨xs, rfl, sx⟩ := sd
    obtain ⟨ys, rfl, sy⟩ := se
    cases r1 with
    | tup g1 q1 =>
      cases r2 with
      | tup g2 q2 =>
        rw [g1] at g2
        injection g2 with g2
        injection g2 with g2
        injection g2 with g2
        subst g2
        exact tup_same q sx sy q1 q2
  run := fun X F A pins s σ G H x y u v d e sb I mt rx ry r1 r2 sd se => by
    obtain ⟨xs, rfl, sx⟩ := sd
    obtain ⟨ys, rfl, sy⟩ := se
    obtain ⟨a, vs, rfl, ga, ha, p⟩ := rep_tup mt r1
    obtain ⟨b, ws, rfl, gb, hb, p2⟩ := rep_tup mt r2
    by_cases hab : a = b
    · subst hab
      cases rx
      cases ry
      rw [ga] at gb
      injection gb with gb
      injection gb with gb
      injection gb with gb
      subst gb
      exact SeqAt.EqAt.same (A := A) (s := s) (.ref a) X.prog X.w X.xe _ ⟨(tup_same q sx sy p p2).symm, G, H, I, .rfl' mt⟩
    · have rx' := rx
      have ry' := ry
      cases rx'
      cases ry'
      exact GQ.eqBool_refG hab (wpAny_mono (rc_tupD q F sb I mt rx ry r1 r2 sx sy) (fun r s' z => by
        obtain ⟨b', rfl, hb', z⟩ := z
        exact ⟨b', rfl, hb', z⟩) fun _ _ x => x)
theorem opd_eqT (q : EqC C n S f) (hn : n + 1 ≤ C.k) {xs ys : List D} (sx : ∀ d ∈ xs, S d) (sy : ∀ d ∈ ys, S d) (h : P (.bl (tupEq f (.tup xs) (.tup ys)))) : OpD C (compareOp .Eq) (.tup xs) (.tup ys) P := ⟨fun X F G H vx vy mt rx ry Q qq => by
  intro pins s σ v u I rv ru
  show wpAny (model X.prog X.w) X.A (richCompare .Eq v u) _ _ _
  refine wpAny_mono (rc_tupD q F ⟨F.hr.mono hn, rfl⟩ I mt rv ru rx ry sx sy) (fun r s' z => ?_) fun _ _ x => x
  obtain ⟨b, rfl, hb, G', H', I', g⟩ := z
  subst hb
  exact ⟨.bl _, H', I', rfl, qq _ _ G' H' g (.bl _) h⟩⟩
end
end DK

-- part DKn
set_option maxHeartbeats 4000000
/-! # Lists of which only the form is told: drawn numbers, rows of ints, matrices of ints. -/
namespace DK
open PySem PySem.Spec PyProof.Rows L2

section
variable {G0 G : Gh} {H0 H : Hp} {a : Addr} {k : IK} {vs : List V}
/-- such a list is changed -/
theorem Gr.inv (r : Gr G0 H0 G H) (hg : G a = some (.inv k)) (h : IOk G k vs) : Gr G0 H0 G (L2.upd H a (.lst vs)) := by
  refine ⟨r.ex, fun b g e => ?_, fun b u e g => ?_⟩
  · by_cases n : b = a
    · subst n
      rw [hg] at e
      cases e
      exact ⟨vs, upd_same, h⟩
    · have q := r.mt b g e
      cases g with
      | fix o =>
        show L2.upd H a (.lst vs) b = _
        rw [upd_ne n]; exact q
      | inv k' =>
        obtain ⟨ws, e1, e2⟩ := q
        exact ⟨ws, by rw [upd_ne n]; exact e1, e2⟩
  · have z := r.old b u e g
    have n : b ≠ a := by
      intro n
      subst n
      rw [hg] at z
      cases z.1
    exact ⟨z.1, by rw [upd_ne n]; exact z.2⟩
/-- a list that stands is made known by its form -/
theorem Mt.pubI (m : Mt G H) (hg : G a = none) (h : H a = some (.lst vs)) (hi : IOk G k vs) : Mt (gput G a (.inv k)) H := fun b g e => by
  by_cases n : b = a
  · subst n
    rw [gput_same] at e
    cases e
    exact ⟨vs, h, hi.mono (ex_gput hg)⟩
  · rw [gput_ne n] at e
    have q := m b g e
    cases g with
    | fix u => exact q
    | inv k => obtain ⟨vs, e1, e2⟩ := q; exact ⟨vs, e1, e2.mono (ex_gput hg)⟩
theorem Gr.pubI (r : Gr G0 H0 G H) (h0 : H0 a = none) (h : G a = none) (e : H a = some (.lst vs)) (hi : IOk G k vs) : Gr G0 H0 (gput G a (.inv k)) H :=
  ⟨r.ex.trans (ex_gput h), r.mt.pubI h e hi, fun b u e1 g => ⟨by rw [gput_ne (ne_of_none e1 h0)]; exact (r.old b u e1 g).1, (r.old b u e1 g).2⟩⟩
end
theorem rep_inv {cA : Cl → Addr} {G : Gh} {H : Hp} {v : V} {k : IK} (m : Mt G H) (r : Rep cA G v (.inv k)) : ∃ a vs, v = .ref a ∧ G a = some (.inv k) ∧ H a = some (.lst vs) ∧ IOk G k vs := by
  cases r with
  | inv h =>
    obtain ⟨vs, e1, e2⟩ := m _ _ h
    exact ⟨_, vs, rfl, h, e1, e2⟩
/-- data of such a form -/
def FOk : IK → List D → Prop
  | .nums, ds => ∃ ns : List Int, ds = ns.map D.int ∧ numsOk ns
  | .irow n, ds => ds.length = n ∧ ∀ d ∈ ds, ∃ i : Int, d = .int i ∧ -100 ≤ i ∧ i ≤ 100
  | .imat n, ds => ds.length = n ∧ ∀ d ∈ ds, d = .inv (.irow n)
theorem repL_ints {cA : Cl → Addr} {G : Gh} : ∀ {ns : List Int} {vs : List V}, RepL cA G vs (ns.map D.int) → vs = ns.map V.int
  | [], vs, r => by cases r; rfl
  | n :: ns, vs, r => by
    cases r with
    | cons r t =>
      cases r
      rw [List.map_cons, repL_ints t]
theorem FOk.iok {cA : Cl → Addr} {G : Gh} {k : IK} {vs : List V} {ds : List D} (r : RepL cA G vs ds) (h : FOk k ds) : IOk G k vs := by
  cases k with
  | nums =>
    obtain ⟨ns, rfl, h⟩ := h
    exact ⟨ns, repL_ints r, h⟩
  | irow n =>
    refine ⟨by rw [r.length]; exact h.1, fun v hv => ?_⟩
    obtain ⟨i, hi⟩ := List.mem_iff_getElem?.mp hv
    obtain ⟨d, hd, rd⟩ := r.get hi
    obtain ⟨x, rfl, h1, h2⟩ := h.2 d (List.mem_of_getElem? hd)
    cases rd
    exact ⟨x, rfl, h1, h2⟩
  | imat n =>
    refine ⟨by rw [r.length]; exact h.1, fun v hv => ?_⟩
    obtain ⟨i, hi⟩ := List.mem_iff_getElem?.mp hv
    obtain ⟨d, hd, rd⟩ := r.get hi
    obtain rfl := h.2 d (List.mem_of_getElem? hd)
    cases rd with
    | inv g => exact ⟨_, rfl, g⟩
section
variable {C : Ctx} {P : D → Prop} {Γ : Sl} {E : En} {pos p p1 p2 p3 apos cpos : Pos} {x y : Str} {e a b l tg : Expr} {sts : List Stmt} {A : List D → Prop}
/-- a new list, known by its form alone -/
theorem de_dfI (k : IK) (h : DF C e Γ fun ds => FOk k ds ∧ P (.inv k)) : DE C e Γ P := ⟨fun X F B G H σ eo Q q => h.run X F B G H σ eo Q fun a vs ds G' H' r h0 hg ha rep p =>
  q (.ref a) (.inv k) (gput G' a (.inv k)) H' (r.pubI h0 hg ha (FOk.iok rep p.1)) (.inv gput_same) p.2⟩
/-- xs[i], of a list or a tuple that stands for good, of a row of ints, of a matrix of ints -/
theorem de_ixO (hs : PlainIx b) (h : DE C a Γ fun d => (∃ ds, seqOf d = some ds ∧ DE C b Γ fun y => ∃ i z, y = .int i ∧ atI ds i = some z ∧ P z) ∨ (∃ n, d = .inv (.irow n) ∧ DE C b Γ fun y => ∃ i : Nat, y = .int (i : Int) ∧ i < n ∧ ∀ z : Int, -100 ≤ z → z ≤ 100 → P (.int z)) ∨
    ∃ n, d = .inv (.imat n) ∧ DE C b Γ fun y => ∃ i : Nat, y = .int (i : Int) ∧ i < n ∧ P (.inv (.irow n))) : DE C (.Subscript a b pos) Γ P := ⟨fun X F B G H σ eo Q q => by
  refine U.of (pe_ix ix_seq pe_U pe_U hs) ?_
  refine h.run X F B G H σ eo _ fun v d G1 H1 r1 rep k1 => ?_
  rcases k1 with ⟨ds, hd, k1⟩ | ⟨n, rfl, k1⟩ | ⟨n, rfl, k1⟩
  · refine k1.run X F B G1 H1 σ (eo.grow r1) _ fun v2 d2 G2 H2 r2 rep2 k2 => ?_
    obtain ⟨i, z, rfl, hz, k2⟩ := k2
    obtain ⟨l, vs, rfl, hq, rr⟩ := rep_seq X.K r2.mt (rep.mono r2.ex) hd
    obtain ⟨w, hw, rw'⟩ := rr.atI hz
    have fin := q w z G2 H2 (r1.trans r2) rw' k2
    rcases hq with hq | hq
    · exact .inl ⟨l, vs, i, w, rfl, rep_int rep2, hq, hw, fin⟩
    · exact .inr (.inl ⟨l, vs, i, w, rfl, rep_int rep2, hq, hw, fin⟩)
  · refine k1.run X F B G1 H1 σ (eo.grow r1) _ fun v2 d2 G2 H2 r2 rep2 k2 => ?_
    obtain ⟨i, rfl, hi, k2⟩ := k2
    obtain ⟨l, vs, rfl, hg, ha, hl, hv⟩ := rep_inv r2.mt (rep.mono r2.ex)
    have hi' : i < vs.length := by rw [hl]; exact hi
    obtain ⟨z, hz, h1, h2⟩ := hv vs[i] (List.getElem_mem hi')
    refine .inl ⟨l, vs, i, .int z, rfl, rep_int rep2, SqL.of ha, ?_, q _ (.int z) G2 H2 (r1.trans r2) (.int z) (k2 z h1 h2)⟩
    unfold L2.atI L2.ixN
    rw [if_pos (by omega), if_pos (by omega), Int.toNat_natCast]
    show vs[i]? = _
    rw [List.getElem?_eq_getElem hi', hz]
  · refine k1.run X F B G1 H1 σ (eo.grow r1) _ fun v2 d2 G2 H2 r2 rep2 k2 => ?_
    obtain ⟨i, rfl, hi, k2⟩ := k2
    obtain ⟨l, vs, rfl, hg, ha, hl, hv⟩ := rep_inv r2.mt (rep.mono r2.ex)
    have hi' : i < vs.length := by rw [hl]; exact hi
    obtain ⟨c, hc, hgc⟩ := hv vs[i] (List.getElem_mem hi')
    refine .inl ⟨l, vs, i, .ref c, rfl, rep_int rep2, SqL.of ha, ?_, q _ (.inv (.irow n)) G2 H2 (r1.trans r2) (.inv hgc) k2⟩
    unfold L2.atI L2.ixN
    rw [if_pos (by omega), if_pos (by omega), Int.toNat_natCast]
    show vs[i]? = _
    rw [List.getElem?_eq_getElem hi', hc]⟩
/-- len of a matrix of ints -/
theorem cd_lenM {n : Nat} (k : P (.int (n : Nat))) : CallD C (.builtin "len") [.inv (.imat n)] P := ⟨fun X F G H vs mt r Q q => by
  cases r with
  | cons r t =>
    cases t
    obtain ⟨a, ws, rfl, hg, ha, hl, _⟩ := rep_inv mt r
    refine RC.of call_len_seq ⟨a, ws, rfl, .inl (SqL.of ha), ?_⟩
    rw [hl]
    exact q _ _ G H (.rfl' mt) (.int _) k⟩
/-- a walk over the rows of a matrix of ints -/
theorem walks_imat {cA : Cl → Addr} {K : PySem.W.Frag} {G1 : Gh} {a : Addr} {n : Nat} (h : G1 a = some (.inv (.imat n))) : Walks cA (Itl K a) G1 (List.replicate n (.inv (.irow n))) where
  go := fun G H i e m hi => by
    obtain ⟨vs, ha, hl, _⟩ := m _ _ (e _ _ h)
    have hi' : i < vs.length := by rw [hl]; simpa using hi
    exact ⟨vs, vs[i], SqL.of ha, by simp [hi']⟩
  yld := fun G H i x H' d e m y hd => by
    obtain ⟨rfl, y⟩ := y
    obtain ⟨vs, ha, hl, hv⟩ := m _ _ (e _ _ h)
    have hd' : d = .inv (.irow n) := (List.mem_replicate.mp (List.mem_of_getElem? hd)).2
    subst hd'
    have q := y vs (SqL.of ha)
    obtain ⟨c, rfl, hc⟩ := hv x (List.mem_of_getElem? q)
    exact ⟨G, .rfl' m, .inv hc⟩
  stop := fun G H e m => by
    obtain ⟨vs, ha, hl, _⟩ := m _ _ (e _ _ h)
    exact ⟨vs, SqL.of ha, by rw [hl, List.length_replicate]; exact Nat.le_refl _⟩
theorem di_imat (h : DE C l Γ fun d => ∃ n, d = .inv (.imat n) ∧ A (List.replicate n (.inv (.irow n)))) : DI C tg l Γ A := ⟨fun X F B G H σ eo R q => by
  refine UI.of (pi_list pe_U) ?_
  refine h.run X F B G H σ eo _ fun v d G1 H1 r1 rep k1 => ?_
  obtain ⟨n, rfl, k1⟩ := k1
  obtain ⟨a, vs, rfl, hg, ha, _⟩ := rep_inv r1.mt rep
  exact ⟨a, rfl, ⟨vs, SqL.of ha⟩, q _ G1 H1 _ r1 (walks_imat hg) k1⟩⟩
/-- x[k] = value, x a row of ints or a matrix of ints -/
theorem ds_ixI (i : Nat) {n : Nat} {kd : IK} (hk : (kd = .irow n ∧ ∀ Q : D → Prop, True) ∨ kd = .imat n) (ho : Γ[i]? = some (some (.dat (.inv kd)))) (hN : C.N[i]? = some x) (hv : visB C.sc x = true)
    (h : DE C e Γ fun d => ((kd = .irow n ∧ ∃ z : Int, d = .int z ∧ -100 ≤ z ∧ z ≤ 100) ∨ (kd = .imat n ∧ d = .inv (.irow n))) ∧ DE C b Γ fun y => ∃ j : Nat, y = .int (j : Int) ∧ j < n ∧ E.nx Γ)
    (hd : (x == ("__debug__" : Str)) = false := by decide) (hcd : (x == ("__classdict__" : Str)) = false := by decide) (hs : ∀ env : Env, swapsWithSole [.Subscript (.Name x p1) b p] e pos.line env = pure false := by intro _; rfl)
    (hw : ∀ env : Env, swappedStores [.Subscript (.Name x p1) b p] e env = pure none := by intro _; rfl) (h1 : ∀ env, (assignEach [.Subscript (.Name x p1) b p] env).map (·.2) = [assign (.Subscript (.Name x p1) b p) env] := by intro _; rfl)
    (hat : ∀ env v, assign (.Subscript (.Name x p1) b p) env v = (do let ov ← holding [v] (eval (.Name x p1) env); let iv ← holding [v, ov] (eval b env); standAt p; holding [v, ov, iv] (setItem ov iv v); release [v, ov, iv] []) := by intro _ _; rfl) : DS C (.Assign [.Subscript (.Name x p1) b p] e pos) Γ E := ⟨fun X F B G H σ eo D w => by
  refine US.of (ps_asg pe_U (pg_sub (pe_var (i := i) (by rw [F.hN]; exact hN) (by rw [F.hs]; exact vis_of hv) hd hcd) pe_U set_list (hat _)) (hs _) (hw _) (h1 _)) ?_
  refine h.run X F B G H σ eo _ fun v d G1 H1 r1 rep k1 => ?_
  obtain ⟨kv, k1⟩ := k1
  have eo1 := eo.grow r1
  obtain ⟨u, ea, ru⟩ := eo1.dat ho
  obtain ⟨a, _, rfl, hg, _, _⟩ := rep_inv eo1.gr.mt ru
  refine ⟨.ref a, ea, ?_⟩
  refine k1.run X F B G1 H1 σ eo1 _ fun v2 d2 G2 H2 r2 rep2 k2 => ?_
  obtain ⟨j, rfl, hj, k2⟩ := k2
  have hg2 := r2.ex _ _ hg
  obtain ⟨vs, ha, hi⟩ := r2.mt _ _ hg2
  have rep' := rep.mono r2.ex
  have hlen : vs.length = n := by
    rcases kv with ⟨rfl, _⟩ | ⟨rfl, _⟩
    · exact hi.1
    · exact hi.1
  refine ⟨a, vs, j, j, rfl, rep_int rep2, ha, ?_, ?_⟩
  · unfold L2.ixN
    rw [if_pos (by omega), if_pos (by omega), Int.toNat_natCast]
  · have hi' : IOk G2 kd (vs.set j v) := by
      rcases kv with ⟨rfl, z, rfl, z1, z2⟩ | ⟨rfl, rfl⟩
      · refine ⟨by rw [List.length_set]; exact hi.1, fun q hq => ?_⟩
        rcases List.mem_or_eq_of_mem_set hq with hq | rfl
        · exact hi.2 q hq
        · exact ⟨z, rep_int rep', z1, z2⟩
      · refine ⟨by rw [List.length_set]; exact hi.1, fun q hq => ?_⟩
        rcases List.mem_or_eq_of_mem_set hq with hq | rfl
        · exact hi.2 q hq
        · cases rep' with
          | inv g => exact ⟨_, rfl, g⟩
    exact w.nxt ((eo1.grow r2).grow ((Gr.rfl' r2.mt).inv hg2 hi')) k2⟩
/-- a list of one's own becomes the pool of drawn numbers -/
theorem EO.freezeI {cA : Cl → Addr} {B : Ba} {G : Gh} {H : Hp} {σ : L2.St} (h : EO cA B G H σ Γ) {i : Nat} {ds : List D} {k : IK} (e : Γ[i]? = some (some (.grw ds))) (hf : FOk k ds) : ∃ G', Ex G G' ∧ EO cA B G' H σ (Γ.set i (some (.dat (.inv k)))) := by
  obtain ⟨a, vs, ea, h0, hg, ha, r⟩ : ∃ a vs, σ[i]? = some (some (V.ref a)) ∧ B.h0 a = none ∧ G a = none ∧ H a = some (.lst vs) ∧ RepL cA G vs ds := h.at_ i _ e
  have hil : i < Γ.length := (List.getElem?_eq_some_iff.mp e).1
  have oi : isOwn Γ i := ⟨_, e, rfl⟩
  have own : ∀ j, isOwn (Γ.set i (some (.dat (.inv k)))) j → j ≠ i ∧ isOwn Γ j := fun j ⟨e', q, o⟩ => by
    by_cases hj : i = j
    · subst hj
      rw [List.getElem?_set_self hil] at q
      cases q; cases o
    · rw [List.getElem?_set_ne hj] at q
      exact ⟨fun z => hj z.symm, e', q, o⟩
  have ex := ex_gput (g := .inv k) hg
  refine ⟨gput G a (.inv k), ex, h.kx.trans ex, h.gr.pubI h0 hg ha (FOk.iok r hf), by rw [List.length_set, h.len], fun j e' q => ?_, fun j l b hjl oj ol => h.apart j l b hjl (own j oj).2 (own l ol).2⟩
  by_cases hj : i = j
  · subst hj
    rw [List.getElem?_set_self hil] at q
    cases q
    exact ⟨.ref a, ea, .inv gput_same⟩
  · rw [List.getElem?_set_ne hj] at q
    have z := h.at_ j e' q
    cases e' with
    | dat d => obtain ⟨v, e1, e2⟩ := z; exact ⟨v, e1, e2.mono ex⟩
    | grw es =>
      obtain ⟨b, ws, e1, e0, e2, e3, e4⟩ := z
      have hb : b ≠ a := fun z => h.apart j i b (Ne.symm hj) ⟨_, q, rfl⟩ oi e1 (by rw [z]; exact ea)
      exact ⟨b, ws, e1, e0, by rw [gput_ne hb]; exact e2, e3, e4.mono ex⟩
    | obj b c es =>
      obtain ⟨dx, ws, e1, e0, e2, e3, e4⟩ := z
      have hb : b ≠ a := fun z => h.apart j i b (Ne.symm hj) ⟨_, q, rfl⟩ oi e1 (by rw [z]; exact ea)
      exact ⟨dx, ws, e1, e0, by rw [gput_ne hb]; exact e2, e3, e4.mono ex⟩
theorem ds_pool (i : Nat) (k : IK) {ds : List D} (h : Γ[i]? = some (some (.grw ds))) (hf : FOk k ds) (q : DSs C sts (Γ.set i (some (.dat (.inv k)))) E) : DSs C sts Γ E := ⟨fun X F B G H σ eo D w => by
  obtain ⟨G', x, eo'⟩ := eo.freezeI h hf
  exact q.run X F B G' H σ eo' D w⟩
/-- if len(x) == 0: return 0; return x.pop(0) % y -/
theorem dss_next {m : Int} {p4 p5 p6 p7 p8 p9 p10 p11 p12 p13 p14 p15 : Pos} {j1 j2 j3 : Nat} (hm0 : 0 < m) (h0 : Γ[0]? = some (some (.dat (.inv .nums)))) (h1 : Γ[1]? = some (some (.dat (.int m)))) (hN : C.N[0]? = some x) (hN1 : C.N[1]? = some y) (hv : visB C.sc x = true) (hv1 : visB C.sc y = true)
    (hg : glB C.sc "len" = true) (hm : C.mg "len" = none) (hE : ∀ r : Int, 0 ≤ r → r < m → E.rt (.int r))
    (hd : (x == ("__debug__" : Str)) = false := by decide) (hcd : (x == ("__classdict__" : Str)) = false := by decide) (hd1 : (y == ("__debug__" : Str)) = false := by decide) (hcd1 : (y == ("__classdict__" : Str)) = false := by decide)
    (hline : (p10.endLine == p12.line) = true := by rfl) (hbase : ∀ env, attributeBase (.Name x p9) "pop" env (eval (.Name x p9) env) = eval (.Name x p9) env := by intro _; rfl)
    (hfew : ∀ env, ((backTo p12 (starEach [.Constant (.int 0) j3 p11] env)).all (fun x => !x.1) && (backToKw p12 (keywordEach [] env)).all (fun x => x.1.isSome)
      && decide ([Expr.Constant (.int 0) j3 p11].length + ([] : List Keyword).length + (if ([] : List Keyword).isEmpty then 0 else 1) < 30)) = true := by intro _; rfl) :
    DSs C [.If (.Compare (.Call (.Name "len" p1) [.Name x p2] [] p3) [.Eq] [.Constant (.int 0) j1 p4] p5) [.Return (some (.Constant (.int 0) j2 p6)) p7] [] p8,
      .Return (some (.BinOp (.Call (.Attribute (.Name x p9) "pop" p10) [.Constant (.int 0) j3 p11] [] p12) .Mod (.Name y p13) p14)) p15] Γ E := ⟨fun X F B G H σ eo D w => by
  obtain ⟨v, ev, rv⟩ := eo.dat h0
  obtain ⟨v1, ev1, rv1⟩ := eo.dat h1
  obtain ⟨a, vs, rfl, hga, ha, ns, rfl, hok⟩ := rep_inv eo.gr.mt rv
  obtain rfl := rep_int rv1
  have px : ∀ {q : Pos}, PE X (.Name x q) (tVar 0) := pe_var (by rw [F.hN]; exact hN) (by rw [F.hs]; exact vis_of hv) hd hcd
  have py : PE X (.Name y p13) (tVar 1) := pe_var (by rw [F.hN]; exact hN1) (by rw [F.hs]; exact vis_of hv1) hd1 hcd1
  refine USs.of (pss_cons (ps_if (pt_cmpR op_eq (pe_callB call_len_seq (gl_of F hg) (by rw [F.hm]; exact hm) PySem.boot_len (pa_cons px pa_nil)) pe_int (nomark _)) (pss_cons (ps_ret pe_int) pss_nil) pss_nil)
    (pss_cons (ps_ret (pe_op op_mod (pe_bm PySem.F.plainAttrs_list PySem.F.slot_list_pop PySem.F.type_list_pop mt_popAt px (pa_cons pe_int pa_nil) (hbase _) (hfew _) hline) py)) pss_nil)) ?_
  refine ⟨.ref a, ev, a, ns.map V.int, rfl, .inl (SqL.of ha), ?_⟩
  refine ⟨rfl, _, rfl, ?_⟩
  cases ns with
  | nil =>
    refine iteT ?_
    exact w.rt _ (.int 0) G H eo.gr (.int 0) (hE 0 (Int.le_refl _) hm0)
  | cons n ns =>
    refine iteF ?_
    refine ⟨.ref a, ev, .inl ⟨rfl, _, SqL.of ha⟩, ?_⟩
    refine ⟨a, (n :: ns).map V.int, 0, 0, .int n, rfl, rfl, ha, by decide, by decide, ?_, rfl, ?_⟩
    · rw [seqIndex_of (by decide) (by simp)]
      rfl
    refine ⟨.int m, ev1, n, m, rfl, rfl, hm0, ?_⟩
    have hok' : IOk G .nums (((n :: ns).map V.int).eraseIdx 0) := ⟨ns, rfl, fun z hz => hok z (List.mem_cons_of_mem _ hz)⟩
    exact w.rt _ (.int (n % m)) G _ (eo.gr.inv hga hok') (.int _) (hE _ (Int.emod_nonneg _ (by omega)) (Int.emod_lt_of_pos _ hm0))⟩
/-- the law's script: a frozen list of ints, or one that stands from the start -/
def Script (K : PySem.W.Frag) (xs : List Int) (d : D) : Prop := d = .frl xs ∨ ∃ a, d = .adr a ∧ ∀ H, SqL K H a (xs.map V.int)
theorem script_at {K : PySem.W.Frag} {cA : Cl → Addr} {G : Gh} {H : Hp} {v : V} {xs : List Int} {d : D} (m : Mt G H) (r : Rep cA G v d) (h : Script K xs d) : ∃ a, v = .ref a ∧ SqL K H a (xs.map V.int) := by
  rcases h with rfl | ⟨a, rfl, h⟩
  · cases r with
    | @frl a o _ g => exact ⟨a, rfl, .inl (.inr ⟨o, m _ _ g⟩)⟩
  · cases r
    exact ⟨a, rfl, h H⟩
theorem de_ixS {xs : List Int} (hs : PlainIx b) (h : DE C a Γ fun d => Script C.K xs d ∧ DE C b Γ fun y => ∃ (i : Nat) (z : Int), y = .int (i : Int) ∧ xs[i]? = some z ∧ P (.int z)) : DE C (.Subscript a b pos) Γ P := ⟨fun X F B G H σ eo Q q => by
  refine U.of (pe_ix ix_seq pe_U pe_U hs) ?_
  refine h.run X F B G H σ eo _ fun v d G1 H1 r1 rep k1 => ?_
  obtain ⟨hd, k1⟩ := k1
  refine k1.run X F B G1 H1 σ (eo.grow r1) _ fun v2 d2 G2 H2 r2 rep2 k2 => ?_
  obtain ⟨i, z, rfl, hz, k2⟩ := k2
  obtain ⟨l, rfl, hq⟩ := script_at (K := C.K) r2.mt (rep.mono r2.ex) hd
  have hi : i < xs.length := (List.getElem?_eq_some_iff.mp hz).1
  refine .inl ⟨l, xs.map V.int, i, .int z, rfl, rep_int rep2, by rw [F.hK]; exact hq, ?_, q _ (.int z) G2 H2 (r1.trans r2) (.int z) k2⟩
  unfold L2.atI L2.ixN
  rw [List.length_map, if_pos (by omega), if_pos (by omega), Int.toNat_natCast]
  show (xs.map V.int)[i]? = _
  rw [List.getElem?_map, hz]
  rfl⟩
theorem cd_lenS {xs : List Int} {d : D} (hd : Script C.K xs d) (k : P (.int (xs.length : Nat))) : CallD C (.builtin "len") [d] P := ⟨fun X F G H vs mt r Q q => by
  cases r with
  | cons r t =>
    cases t
    obtain ⟨a, rfl, hq⟩ := script_at (K := C.K) mt r hd
    refine RC.of call_len_seq ⟨a, xs.map V.int, rfl, .inl (by rw [F.hK]; exact hq), ?_⟩
    rw [List.length_map]
    exact q _ _ G H (.rfl' mt) (.int _) k⟩
end
end DK

-- part M1
set_option maxHeartbeats 4000000
/-! # The program's defs, one by one: numbers. -/
namespace SF
open PySem PySem.Spec PyProof.Rows L2 DK

/-! ### the text by places -/
def topS (i : Nat) : Stmt := PySem.Challenge.pw_similarforms_k36_whole_double_commutants.main.body.getD i (.Pass ⟨0, 0, 0, 0⟩)
abbrev inC (i j : Nat) : Stmt := inClass (topS i) j
/-- what the top has written, as the walk asks for it -/
structure Tx (M : Md) : Prop where
  c4 : ∀ c, ClsD M c
  ne : ∀ c, PySem.W.findIn M.K (.ref (M.cA c)) "__ne__" = some (some (.builtin "object.__ne__"))
  res_int : PySem.W.kitOne M.K (.ref (M.cA .res)) (.type "int") = some false
  g_res : M.mg "Residue" = some (.ref (M.cA .res))
  g_gr : M.mg "Ground" = some (.ref (M.cA .gr))
  g_pol : M.mg "Poly" = some (.ref (M.cA .pol))
  g_mat : M.mg "Matrix" = some (.ref (M.cA .mat))
  primes : ∃ a, M.mg "PRIMES" = some (.ref a) ∧ ∀ H, SqT M.K H a (([2, 3, 5, 7, 11, 13, 17, 19, 23, 29, 31] : List Int).map V.int)
  most_rows : ∃ t, M.mg "MOST_ROWS" = some (.int 8 t)
  most_width : ∃ t, M.mg "MOST_WIDTH" = some (.int 64 t)
  g_isi : M.mg "isinstance" = none
  g_int : M.mg "int" = none
  g_bool : M.mg "bool" = none
  g_len : M.mg "len" = none
  g_range : M.mg "range" = none
  g_list : M.mg "list" = none
  g_tuple : M.mg "tuple" = none
  g_zip : M.mg "zip" = none
  g_max : M.mg "max" = none
  g_min : M.mg "min" = none
  g_sum : M.mg "sum" = none
  g_all : M.mg "all" = none
  g_abs : M.mg "abs" = none
/-- the def st stands at the module's name x; at the class's name m; is the class's __init__ -/
def DefAt (M : Md) (x nm q : Str) (st : Stmt) : Prop := ∃ f fd, FunD M.K nm q (defArgs st) (defBody st) (defScope st) [] [] f fd ∧ M.mg x = some (.ref f)
def MetAt (M : Md) (c : Cl) (m q : Str) (st : Stmt) : Prop := ∃ f fd, FunD M.K m q (defArgs st) (defBody st) (defScope st) [] [] f fd ∧ Meth M.K (M.cA c) m f
def IniAt (M : Md) (c : Cl) (x q : Str) (st : Stmt) : Prop := ∃ f fd, FunD M.K "__init__" q (defArgs st) (defBody st) (defScope st) [] [] f fd ∧ Mk M.K (M.cA c) f ∧ M.mg x = some (.ref (M.cA c))
section
variable {M : Md} {x nm m q : Str} {c : Cl} {st : Stmt} {N ps : List Str} {n k : Nat} {pr : List D → (D → Prop) → Prop}
def BindsB (nm q : Str) (st : Stmt) (ps : List Str) : Prop := ∀ (kV doc pm : Value) (an : Option Addr) (cdv ct : Value) (us : List Value), us.length = ps.length → bindArgs (PySem.W.fnOf nm q (defArgs st) (defBody st) (defScope st) .none kV doc pm an cdv ct) ⟨us, []⟩ = pure (ps.zip us)
theorem fn_intro (h : DefAt M x nm q st) (S : FnScope N ps (defScope st)) (hn : ps.length = n) (hb : BindsB nm q st ps) (ar : ∀ ds P, pr ds P → ds.length = n)
    (body : ∀ ds P, pr ds P → ds.length = n → DSs ⟨M, N, defScope st, defScope st, k⟩ (defBody st) (startS N ds) { nx := fun _ => P .non, rt := P }) : Fn M x n (k + 1) [] pr := by
  obtain ⟨f, fd, FD, hm⟩ := h
  exact ⟨⟨f, fd, ps, [], [], fn_body FD S hn body, hm, FD.kp, FD.bindsN hb, .nil, fun _ => .nil⟩, ar⟩
theorem me_intro (h : MetAt M c m q st) (S : FnScope N ps (defScope st)) (hn : ps.length = n) (hb : BindsB m q st ps) (ar : ∀ ds P, pr ds P → ds.length = n)
    (body : ∀ ds P, pr ds P → ds.length = n → DSs ⟨M, N, defScope st, defScope st, k⟩ (defBody st) (startS N ds) { nx := fun _ => P .non, rt := P }) : Me M c m n (k + 1) [] pr := by
  obtain ⟨f, fd, FD, hm⟩ := h
  exact ⟨⟨f, fd, ps, [], [], fn_body FD S hn body, hm, FD.bindsN hb, .nil, fun _ => .nil⟩, ar⟩
theorem ct_intro (h : IniAt M c x q st) (S : FnScope N ps (defScope st)) (hn : ps.length = n + 1) (hb : BindsB "__init__" q st ps) (ar : ∀ ds P, pr ds P → ds.length = n)
    (body : ∀ q ds P, pr ds P → ds.length = n → DSs ⟨M, N, defScope st, defScope st, k⟩ (defBody st) (some (.obj q c []) :: (ds.map (fun d => some (Ent.dat d)) ++ List.replicate (N.length - (ds.length + 1)) none))
      { nx := fun Γ => ∃ es, Γ[0]? = some (some (.obj q c es)) ∧ es.length = (flds c).length ∧ P (.ins c es), rt := fun _ => False }) : Ct M x c n (k + 1) [] pr := by
  obtain ⟨f, fd, FD, mk, hm⟩ := h
  exact ⟨⟨f, fd, ps, [], [], init_body FD S hn body, mk, hm, FD.bindsN hb, .nil, fun _ => .nil⟩, ar⟩
end
/-- o.f, the class read off the data -/
theorem de_fldA {C : DK.Ctx} {e : Expr} {Γ : Sl} {P : D → Prop} {pos : Pos} {m : Str} (T : ∀ c, ClsD C.toMd c) (i : Nat) (h : DE C e Γ fun d => ∃ c ds y, d = .ins c ds ∧ (flds c)[i]? = some m ∧ ds[i]? = some y ∧ P y) (hb : ∀ env, attributeBase e m env (eval e env) = eval e env := by intro _; rfl) : DE C (.Attribute e m pos) Γ P := ⟨fun X F B G H σ eo Q q => by
  refine U.of (pe_fld pe_U (hb _)) ?_
  refine h.run X F B G H σ eo _ fun v d G1 H1 r1 rep k1 => ?_
  obtain ⟨c, ds, y, rfl, hi, hy, k1⟩ := k1
  obtain ⟨a, dx, vs, rfl, hg, ha, hl, hr⟩ := rep_ins r1.mt rep
  obtain ⟨w, hw, rw'⟩ := hr.getD hy
  exact ⟨a, C.cA c, dx, _, w, rfl, ha, by rw [F.hK]; exact (T c).cl, by rw [F.hK]; exact (T c).no m (List.mem_of_getElem? hi), lookup_zip (fs := []) (flds_nd c) hi hw, q w y G1 H1 r1 rw' k1⟩⟩
theorem kit_self {K : PySem.W.Frag} {t : Value} : PySem.W.kitOne K t t = some true := by
  unfold PySem.W.kitOne
  rw [if_pos (beq_self_eq_true t)]
theorem no_true {b : Bool} {A : Prop} (h : b = false) : b = true → A := fun e => by rw [h] at e; cases e
theorem no_false {b : Bool} {A : Prop} (h : b = true) : b = false → A := fun e => by rw [h] at e; cases e

/-! ### the numbers: the prime is 2 or 3 -/
def okp (p : Nat) : Prop := p = 2 ∨ p = 3
theorem okp.pos {p : Nat} (h : okp p) : (0 : Int) < p := by rcases h with rfl | rfl <;> decide
theorem okp.ne {p : Nat} (h : okp p) : ¬ (p : Int) = 0 := by rcases h with rfl | rfl <;> decide
theorem okp.le {p : Nat} (h : okp p) : p ≤ 3 := by rcases h with rfl | rfl <;> decide
theorem okp.prime {p : Nat} (h : okp p) : inV (.int (p : Int)) (([2, 3, 5, 7, 11, 13, 17, 19, 23, 29, 31] : List Int).map V.int) = true := by rcases h with rfl | rfl <;> rfl
/-- a Residue, by any int of its class -/
def rz (p : Nat) (n : Int) : D := .ins .res [.int (p : Int), .int (n % (p : Int))]
def gr (p : Nat) : D := .ins .gr [.int (p : Int)]
theorem rz_eq {p : Nat} {a b : Int} (h : a % (p : Int) = b % (p : Int)) : rz p a = rz p b := by unfold rz; rw [h]

/-! ### is_integer, is_small_prime -/
abbrev s_isint : Stmt := topS 11
abbrev N_isint : List Str := ["value"]
theorem sc_isint : FnScope N_isint ["value"] (defScope s_isint) := ⟨rfl, rfl, rfl, by decide +kernel, rfl, by decide +kernel, by decide +kernel⟩
def pr_isint (ds : List D) (P : D → Prop) : Prop := ∃ d, ds = [d] ∧ (((∃ i, d = .int i) ∧ P (.bl true)) ∨ ((∃ xs, d = .ins .res xs) ∧ P (.bl false)))
theorem ar_isint (ds : List D) (P : D → Prop) (h : pr_isint ds P) : ds.length = 1 := by obtain ⟨d, rfl, _⟩ := h; rfl
theorem ok_isint {M : Md} (T : Tx M) (h : DefAt M "is_integer" "is_integer" "is_integer" s_isint) : Fn M "is_integer" 1 1 [] pr_isint := by
  refine fn_intro h sc_isint rfl (fun _ _ _ _ _ _ us hl => match us, hl with | [_], _ => rfl) ar_isint fun ds P hp _ => ?_
  obtain ⟨d, rfl, hp⟩ := hp
  refine dss_one ?_
  refine ds_ret ?_
  refine de_and ?_
  refine de_isiT (T := "int") T.c4 rfl T.g_isi rfl T.g_int (by decide +kernel) ?_
  refine de_var 0 rfl rfl rfl ?_
  rcases hp with ⟨⟨i, rfl⟩, hp⟩ | ⟨⟨xs, rfl⟩, hp⟩
  · refine ⟨_, true, rfl, kit_ty (by decide +kernel), true, rfl, fun _ => ?_, fun h => by cases h⟩
    refine de_one ?_
    refine de_notV ?_
    refine de_isiT (T := "bool") T.c4 rfl T.g_isi rfl T.g_bool (by decide +kernel) ?_
    refine de_var 0 rfl rfl rfl ?_
    exact ⟨_, false, rfl, kit_ty (by decide +kernel), false, rfl, hp⟩
  · exact ⟨_, false, rfl, T.res_int, false, rfl, (fun h => by cases h), fun _ => hp⟩
abbrev s_small : Stmt := topS 15
abbrev N_small : List Str := ["value"]
theorem sc_small : FnScope N_small ["value"] (defScope s_small) := ⟨rfl, rfl, rfl, by decide +kernel, rfl, by decide +kernel, by decide +kernel⟩
def pr_small (ds : List D) (P : D → Prop) : Prop := ∃ p, okp p ∧ ds = [.int (p : Nat)] ∧ P (.bl true)
theorem ar_small (ds : List D) (P : D → Prop) (h : pr_small ds P) : ds.length = 1 := by obtain ⟨p, _, rfl, _⟩ := h; rfl
theorem ok_small {M : Md} (T : Tx M) (h : DefAt M "is_small_prime" "is_small_prime" "is_small_prime" s_small) (f1 : Fn M "is_integer" 1 1 [] pr_isint) : Fn M "is_small_prime" 1 2 [] pr_small := by
  refine fn_intro h sc_small rfl (fun _ _ _ _ _ _ us hl => match us, hl with | [_], _ => rfl) ar_small fun ds P hp _ => ?_
  obtain ⟨p, hp, rfl, k⟩ := hp
  obtain ⟨a, ha, hq⟩ := T.primes
  refine dss_one ?_
  refine ds_ret ?_
  refine de_and ?_
  refine de_call f1 rfl (Nat.le_of_ble_eq_true rfl) ?_
  refine da_cons ?_
  refine de_var 0 rfl rfl rfl ?_
  refine da_nil ?_
  refine ⟨_, rfl, .inl ⟨⟨_, rfl⟩, true, rfl, fun _ => ?_, fun h => by cases h⟩⟩
  refine de_one ?_
  refine de_inC (a := a) ha rfl hq ?_
  refine de_var 0 rfl rfl rfl ?_
  refine ⟨_, rfl, ?_⟩
  rw [hp.prime]
  exact k

/-! ### Residue -/
abbrev s_rinit : Stmt := inC 16 0
abbrev N_rinit : List Str := ["self", "p", "n"]
theorem sc_rinit : FnScope N_rinit ["self", "p", "n"] (defScope s_rinit) := ⟨rfl, rfl, rfl, by decide +kernel, rfl, by decide +kernel, by decide +kernel⟩
def pr_rinit (ds : List D) (P : D → Prop) : Prop := ∃ (p : Nat) (n : Int), okp p ∧ ds = [.int (p : Nat), .int n] ∧ P (rz p n)
theorem ar_rinit (ds : List D) (P : D → Prop) (h : pr_rinit ds P) : ds.length = 2 := by obtain ⟨p, n, _, rfl, _⟩ := h; rfl
theorem ok_rinit {M : Md} (T : Tx M) (h : IniAt M .res "Residue" "Residue.__init__" s_rinit) (f1 : Fn M "is_integer" 1 1 [] pr_isint) (f2 : Fn M "is_small_prime" 1 2 [] pr_small) : Ct M "Residue" .res 2 3 [] pr_rinit := by
  refine ct_intro h sc_rinit rfl (fun _ _ _ _ _ _ us hl => match us, hl with | [_, _, _], _ => rfl) ar_rinit fun q ds P hp _ => ?_
  obtain ⟨p, n, hp, rfl, k⟩ := hp
  refine dss_cons ?_
  refine ds_if ?_
  refine dt_w ?_
  refine dw_or ?_
  refine dt_not ?_
  refine dt_val ?_
  refine de_call f2 rfl (Nat.le_of_ble_eq_true rfl) ?_
  refine da_cons ?_
  refine de_var 1 rfl rfl rfl ?_
  refine da_nil ?_
  refine ⟨p, hp, rfl, true, rfl, fun _ => ?_, fun h => by cases h⟩
  refine dw_or1 ?_
  refine dt_not ?_
  refine dt_val ?_
  refine de_call f1 rfl (Nat.le_of_ble_eq_true rfl) ?_
  refine da_cons ?_
  refine de_var 2 rfl rfl rfl ?_
  refine da_nil ?_
  refine ⟨_, rfl, .inl ⟨⟨_, rfl⟩, true, rfl, (fun h => by cases h), fun _ => ?_⟩⟩
  refine dss_nil ?_
  refine dss_cons ?_
  refine ds_self 0 (T.c4 _) rfl rfl rfl rfl ?_
  refine de_var 1 rfl rfl rfl ?_
  refine dss_one ?_
  refine ds_self 0 (T.c4 _) rfl rfl rfl rfl ?_
  refine de_op ?_
  refine de_var 2 rfl rfl rfl ?_
  refine de_var 1 rfl rfl rfl ?_
  refine opd_mod hp.pos ?_
  exact ⟨_, rfl, rfl, k⟩
abbrev s_req : Stmt := inC 16 1
abbrev N_req : List Str := ["self", "other"]
theorem sc_req : FnScope N_req ["self", "other"] (defScope s_req) := ⟨rfl, rfl, rfl, by decide +kernel, rfl, by decide +kernel, by decide +kernel⟩
def pr_req (ds : List D) (P : D → Prop) : Prop := ∃ (p : Nat) (a b : Int), ds = [rz p a, rz p b] ∧ P (.bl (decide (a % (p : Int) = b % (p : Int))))
theorem ar_req (ds : List D) (P : D → Prop) (h : pr_req ds P) : ds.length = 2 := by obtain ⟨p, n, _, rfl, _⟩ := h; rfl
theorem ok_req {M : Md} (T : Tx M) (h : MetAt M .res "__eq__" "Residue.__eq__" s_req) : Me M .res "__eq__" 2 1 [] pr_req := by
  refine me_intro h sc_req rfl (fun _ _ _ _ _ _ us hl => match us, hl with | [_, _], _ => rfl) ar_req fun ds P hp _ => ?_
  obtain ⟨p, a, b, rfl, k⟩ := hp
  refine dss_one ?_
  refine ds_ret ?_
  refine de_and ?_
  refine de_isiC (c := .res) T.c4 rfl T.g_isi rfl T.g_res ?_
  refine de_var 1 rfl rfl rfl ?_
  refine ⟨_, true, rfl, kit_self, true, rfl, fun _ => ?_, fun h => by cases h⟩
  refine de_and ?_
  refine de_cmp (nomark _) ?_
  refine de_fldA T.c4 0 ?_
  refine de_var 0 rfl rfl rfl ?_
  refine ⟨_, _, _, rfl, rfl, rfl, ?_⟩
  refine de_fldA T.c4 0 ?_
  refine de_var 1 rfl rfl rfl ?_
  refine ⟨_, _, _, rfl, rfl, rfl, ?_⟩
  refine opd_eqI ?_
  refine ⟨_, rfl, fun _ => ?_, no_false (decide_eq_true rfl)⟩
  refine de_one ?_
  refine de_cmp (nomark _) ?_
  refine de_fldA T.c4 1 ?_
  refine de_var 0 rfl rfl rfl ?_
  refine ⟨_, _, _, rfl, rfl, rfl, ?_⟩
  refine de_fldA T.c4 1 ?_
  refine de_var 1 rfl rfl rfl ?_
  refine ⟨_, _, _, rfl, rfl, rfl, ?_⟩
  refine opd_eqI ?_
  exact k
def pr_bin (g : Int → Int → Int) (ds : List D) (P : D → Prop) : Prop := ∃ (p : Nat) (a b : Int), okp p ∧ ds = [rz p a, rz p b] ∧ P (rz p (g a b))
theorem ar_bin {g : Int → Int → Int} (ds : List D) (P : D → Prop) (h : pr_bin g ds P) : ds.length = 2 := by obtain ⟨p, n, _, _, rfl, _⟩ := h; rfl
abbrev s_radd : Stmt := inC 16 2
abbrev N_radd : List Str := ["self", "other"]
theorem sc_radd : FnScope N_radd ["self", "other"] (defScope s_radd) := ⟨rfl, rfl, rfl, by decide +kernel, rfl, by decide +kernel, by decide +kernel⟩
theorem ok_radd {M : Md} (T : Tx M) (h : MetAt M .res "__add__" "Residue.__add__" s_radd) (f1 : Ct M "Residue" .res 2 3 [] pr_rinit) : Me M .res "__add__" 2 5 [] (pr_bin (· + ·)) := by
  refine me_intro h sc_radd rfl (fun _ _ _ _ _ _ us hl => match us, hl with | [_, _], _ => rfl) ar_bin fun ds P hp _ => ?_
  obtain ⟨p, a, b, hp, rfl, k⟩ := hp
  refine dss_cons ?_
  refine ds_if ?_
  refine dt_w ?_
  refine dw_or ?_
  refine dt_not ?_
  refine dt_val ?_
  refine de_isiC (c := .res) T.c4 rfl T.g_isi rfl T.g_res ?_
  refine de_var 1 rfl rfl rfl ?_
  refine ⟨_, true, rfl, kit_self, true, rfl, fun _ => ?_, fun h => by cases h⟩
  refine dw_or1 ?_
  refine dt_cmp (nomark _) ?_
  refine de_fldA T.c4 0 ?_
  refine de_var 0 rfl rfl rfl ?_
  refine ⟨_, _, _, rfl, rfl, rfl, ?_⟩
  refine de_fldA T.c4 0 ?_
  refine de_var 1 rfl rfl rfl ?_
  refine ⟨_, _, _, rfl, rfl, rfl, ?_⟩
  refine opd_neI ?_
  refine ⟨_, rfl, no_true (by simp), fun _ => ?_⟩
  refine dss_nil ?_
  refine dss_one ?_
  refine ds_ret ?_
  refine de_make f1 rfl (Nat.le_of_ble_eq_true rfl) ?_
  refine da_cons ?_
  refine de_fldA T.c4 0 ?_
  refine de_var 0 rfl rfl rfl ?_
  refine ⟨_, _, _, rfl, rfl, rfl, ?_⟩
  refine da_cons ?_
  refine de_op ?_
  refine de_fldA T.c4 1 ?_
  refine de_var 0 rfl rfl rfl ?_
  refine ⟨_, _, _, rfl, rfl, rfl, ?_⟩
  refine de_fldA T.c4 1 ?_
  refine de_var 1 rfl rfl rfl ?_
  refine ⟨_, _, _, rfl, rfl, rfl, ?_⟩
  refine opd_add ?_
  refine da_nil ?_
  refine ⟨p, _, hp, rfl, ?_⟩
  rw [rz_eq (show (a % (p : Int) + b % (p : Int)) % (p : Int) = (a + b) % (p : Int) from (Int.add_emod _ _ _).symm)]
  exact k
abbrev s_rsub : Stmt := inC 16 3
abbrev N_rsub : List Str := ["self", "other"]
theorem sc_rsub : FnScope N_rsub ["self", "other"] (defScope s_rsub) := ⟨rfl, rfl, rfl, by decide +kernel, rfl, by decide +kernel, by decide +kernel⟩
theorem ok_rsub {M : Md} (T : Tx M) (h : MetAt M .res "__sub__" "Residue.__sub__" s_rsub) (f1 : Ct M "Residue" .res 2 3 [] pr_rinit) : Me M .res "__sub__" 2 5 [] (pr_bin (· - ·)) := by
  refine me_intro h sc_rsub rfl (fun _ _ _ _ _ _ us hl => match us, hl with | [_, _], _ => rfl) ar_bin fun ds P hp _ => ?_
  obtain ⟨p, a, b, hp, rfl, k⟩ := hp
  refine dss_cons ?_
  refine ds_if ?_
  refine dt_w ?_
  refine dw_or ?_
  refine dt_not ?_
  refine dt_val ?_
  refine de_isiC (c := .res) T.c4 rfl T.g_isi rfl T.g_res ?_
  refine de_var 1 rfl rfl rfl ?_
  refine ⟨_, true, rfl, kit_self, true, rfl, fun _ => ?_, fun h => by cases h⟩
  refine dw_or1 ?_
  refine dt_cmp (nomark _) ?_
  refine de_fldA T.c4 0 ?_
  refine de_var 0 rfl rfl rfl ?_
  refine ⟨_, _, _, rfl, rfl, rfl, ?_⟩
  refine de_fldA T.c4 0 ?_
  refine de_var 1 rfl rfl rfl ?_
  refine ⟨_, _, _, rfl, rfl, rfl, ?_⟩
  refine opd_neI ?_
  refine ⟨_, rfl, no_true (by simp), fun _ => ?_⟩
  refine dss_nil ?_
  refine dss_one ?_
  refine ds_ret ?_
  refine de_make f1 rfl (Nat.le_of_ble_eq_true rfl) ?_
  refine da_cons ?_
  refine de_fldA T.c4 0 ?_
  refine de_var 0 rfl rfl rfl ?_
  refine ⟨_, _, _, rfl, rfl, rfl, ?_⟩
  refine da_cons ?_
  refine de_op ?_
  refine de_fldA T.c4 1 ?_
  refine de_var 0 rfl rfl rfl ?_
  refine ⟨_, _, _, rfl, rfl, rfl, ?_⟩
  refine de_fldA T.c4 1 ?_
  refine de_var 1 rfl rfl rfl ?_
  refine ⟨_, _, _, rfl, rfl, rfl, ?_⟩
  refine opd_sub ?_
  refine da_nil ?_
  refine ⟨p, _, hp, rfl, ?_⟩
  rw [rz_eq (show (a % (p : Int) - b % (p : Int)) % (p : Int) = (a - b) % (p : Int) from (Int.sub_emod _ _ _).symm)]
  exact k
abbrev s_rmul : Stmt := inC 16 4
abbrev N_rmul : List Str := ["self", "other"]
theorem sc_rmul : FnScope N_rmul ["self", "other"] (defScope s_rmul) := ⟨rfl, rfl, rfl, by decide +kernel, rfl, by decide +kernel, by decide +kernel⟩
theorem ok_rmul {M : Md} (T : Tx M) (h : MetAt M .res "__mul__" "Residue.__mul__" s_rmul) (f1 : Ct M "Residue" .res 2 3 [] pr_rinit) : Me M .res "__mul__" 2 5 [] (pr_bin (· * ·)) := by
  refine me_intro h sc_rmul rfl (fun _ _ _ _ _ _ us hl => match us, hl with | [_, _], _ => rfl) ar_bin fun ds P hp _ => ?_
  obtain ⟨p, a, b, hp, rfl, k⟩ := hp
  refine dss_cons ?_
  refine ds_if ?_
  refine dt_w ?_
  refine dw_or ?_
  refine dt_not ?_
  refine dt_val ?_
  refine de_isiC (c := .res) T.c4 rfl T.g_isi rfl T.g_res ?_
  refine de_var 1 rfl rfl rfl ?_
  refine ⟨_, true, rfl, kit_self, true, rfl, fun _ => ?_, fun h => by cases h⟩
  refine dw_or1 ?_
  refine dt_cmp (nomark _) ?_
  refine de_fldA T.c4 0 ?_
  refine de_var 0 rfl rfl rfl ?_
  refine ⟨_, _, _, rfl, rfl, rfl, ?_⟩
  refine de_fldA T.c4 0 ?_
  refine de_var 1 rfl rfl rfl ?_
  refine ⟨_, _, _, rfl, rfl, rfl, ?_⟩
  refine opd_neI ?_
  refine ⟨_, rfl, no_true (by simp), fun _ => ?_⟩
  refine dss_nil ?_
  refine dss_one ?_
  refine ds_ret ?_
  refine de_make f1 rfl (Nat.le_of_ble_eq_true rfl) ?_
  refine da_cons ?_
  refine de_fldA T.c4 0 ?_
  refine de_var 0 rfl rfl rfl ?_
  refine ⟨_, _, _, rfl, rfl, rfl, ?_⟩
  refine da_cons ?_
  refine de_op ?_
  refine de_fldA T.c4 1 ?_
  refine de_var 0 rfl rfl rfl ?_
  refine ⟨_, _, _, rfl, rfl, rfl, ?_⟩
  refine de_fldA T.c4 1 ?_
  refine de_var 1 rfl rfl rfl ?_
  refine ⟨_, _, _, rfl, rfl, rfl, ?_⟩
  refine opd_mul (.inl ?_) ?_
  · have h1 := Int.emod_nonneg a hp.ne
    have h2 := Int.emod_lt_of_pos a hp.pos
    have h3 := hp.le
    omega
  refine da_nil ?_
  refine ⟨p, _, hp, rfl, ?_⟩
  rw [rz_eq (show (a % (p : Int) * (b % (p : Int))) % (p : Int) = (a * b) % (p : Int) from (Int.mul_emod _ _ _).symm)]
  exact k
abbrev s_rneg : Stmt := inC 16 5
abbrev N_rneg : List Str := ["self"]
theorem sc_rneg : FnScope N_rneg ["self"] (defScope s_rneg) := ⟨rfl, rfl, rfl, by decide +kernel, rfl, by decide +kernel, by decide +kernel⟩
def pr_rneg (ds : List D) (P : D → Prop) : Prop := ∃ (p : Nat) (a : Int), okp p ∧ ds = [rz p a] ∧ P (rz p (-a))
theorem ar_rneg (ds : List D) (P : D → Prop) (h : pr_rneg ds P) : ds.length = 1 := by obtain ⟨p, n, _, rfl, _⟩ := h; rfl
theorem ok_rneg {M : Md} (T : Tx M) (h : MetAt M .res "__neg__" "Residue.__neg__" s_rneg) (f1 : Ct M "Residue" .res 2 3 [] pr_rinit) : Me M .res "__neg__" 1 5 [] pr_rneg := by
  refine me_intro h sc_rneg rfl (fun _ _ _ _ _ _ us hl => match us, hl with | [_], _ => rfl) ar_rneg fun ds P hp _ => ?_
  obtain ⟨p, a, hp, rfl, k⟩ := hp
  refine dss_one ?_
  refine ds_ret ?_
  refine de_make f1 rfl (Nat.le_of_ble_eq_true rfl) ?_
  refine da_cons ?_
  refine de_fldA T.c4 0 ?_
  refine de_var 0 rfl rfl rfl ?_
  refine ⟨_, _, _, rfl, rfl, rfl, ?_⟩
  refine da_cons ?_
  refine de_un ?_
  refine de_fldA T.c4 1 ?_
  refine de_var 0 rfl rfl rfl ?_
  refine ⟨_, _, _, rfl, rfl, rfl, ?_⟩
  refine und_negI ?_
  refine da_nil ?_
  refine ⟨p, _, hp, rfl, ?_⟩
  rw [rz_eq (show (-(a % (p : Int))) % (p : Int) = (-a) % (p : Int) by rw [← Int.zero_sub, ← Int.zero_sub a, Int.sub_emod, Int.emod_emod, ← Int.sub_emod])]
  exact k
abbrev s_rzero : Stmt := inC 16 7
abbrev N_rzero : List Str := ["self"]
theorem sc_rzero : FnScope N_rzero ["self"] (defScope s_rzero) := ⟨rfl, rfl, rfl, by decide +kernel, rfl, by decide +kernel, by decide +kernel⟩
def pr_rzero (ds : List D) (P : D → Prop) : Prop := ∃ (p : Nat) (a : Int), ds = [rz p a] ∧ P (.bl (decide (a % (p : Int) = 0)))
theorem ar_rzero (ds : List D) (P : D → Prop) (h : pr_rzero ds P) : ds.length = 1 := by obtain ⟨p, n, rfl, _⟩ := h; rfl
theorem ok_rzero {M : Md} (T : Tx M) (h : MetAt M .res "is_zero" "Residue.is_zero" s_rzero) : Me M .res "is_zero" 1 1 [] pr_rzero := by
  refine me_intro h sc_rzero rfl (fun _ _ _ _ _ _ us hl => match us, hl with | [_], _ => rfl) ar_rzero fun ds P hp _ => ?_
  obtain ⟨p, a, rfl, k⟩ := hp
  refine dss_one ?_
  refine ds_ret ?_
  refine de_cmp (nomark _) ?_
  refine de_fldA T.c4 1 ?_
  refine de_var 0 rfl rfl rfl ?_
  refine ⟨_, _, _, rfl, rfl, rfl, ?_⟩
  refine de_int ?_
  refine opd_eqI ?_
  exact k
abbrev s_rinv : Stmt := inC 16 8
abbrev N_rinv : List Str := ["self", "total", "_"]
theorem sc_rinv : FnScope N_rinv ["self"] (defScope s_rinv) := ⟨rfl, rfl, rfl, by decide +kernel, rfl, by decide +kernel, by decide +kernel⟩
/-- of 2 and 3: every number but 0 is its own inverse -/
def pr_rinv (ds : List D) (P : D → Prop) : Prop := ∃ (p : Nat) (a : Int), okp p ∧ ¬ a % (p : Int) = 0 ∧ ds = [rz p a] ∧ P (rz p a)
theorem ar_rinv (ds : List D) (P : D → Prop) (h : pr_rinv ds P) : ds.length = 1 := by obtain ⟨p, n, _, _, rfl, _⟩ := h; rfl
theorem ok_rinv {M : Md} (T : Tx M) (h : MetAt M .res "inverse" "Residue.inverse" s_rinv) (f1 : Ct M "Residue" .res 2 3 [] pr_rinit) : Me M .res "inverse" 1 5 [] pr_rinv := by
  refine me_intro h sc_rinv rfl (fun _ _ _ _ _ _ us hl => match us, hl with | [_], _ => rfl) ar_rinv fun ds P hp _ => ?_
  obtain ⟨p, a, hp, h0, rfl, k⟩ := hp
  have hp3 := hp.le
  refine dss_cons ?_
  refine ds_if ?_
  refine dt_cmp (nomark _) ?_
  refine de_fldA T.c4 1 ?_
  refine de_var 0 rfl rfl rfl ?_
  refine ⟨_, _, _, rfl, rfl, rfl, ?_⟩
  refine de_int ?_
  refine opd_eqI ?_
  refine ⟨_, rfl, no_true (decide_eq_false h0), fun _ => ?_⟩
  refine dss_nil ?_
  refine dss_cons ?_
  refine ds_set 1 rfl rfl ?_
  refine de_int ?_
  refine dss_cons ?_
  refine ds_for (.nm 2) (dg_nm rfl rfl) (di_rng1 rfl T.g_range ?_)
  refine de_op ?_
  refine de_fldA T.c4 0 ?_
  refine de_var 0 rfl rfl rfl ?_
  refine ⟨_, _, _, rfl, rfl, rfl, ?_⟩
  refine de_int ?_
  refine opd_sub ?_
  refine ⟨_, rfl, by omega, by omega, fun i Γ => ∃ (t : Int) (e : Option Ent), Γ = [some (.dat (rz p a)), some (.dat (.int t)), e] ∧ t % (p : Int) = (if i = 0 then 1 else a) % (p : Int), ⟨1, none, rfl, rfl⟩, ?_, ?_⟩
  · rintro i d Γ hi ⟨t, e, rfl, ht⟩
    obtain ⟨hlt, rfl⟩ := rgD_get hi
    have hi0 : i = 0 := by omega
    subst hi0
    refine dss_one ?_
    refine ds_set 1 rfl rfl ?_
    refine de_op ?_
    refine de_op ?_
    refine de_var 1 rfl rfl rfl ?_
    refine de_fldA T.c4 1 ?_
    refine de_var 0 rfl rfl rfl ?_
    refine ⟨_, _, _, rfl, rfl, rfl, ?_⟩
    refine opd_mul (.inr ?_) ?_
    · have h1 := Int.emod_nonneg a hp.ne
      have h2 := Int.emod_lt_of_pos a hp.pos
      omega
    refine de_fldA T.c4 0 ?_
    refine de_var 0 rfl rfl rfl ?_
    refine ⟨_, _, _, rfl, rfl, rfl, ?_⟩
    refine opd_mod hp.pos ?_
    refine ⟨_, _, rfl, ?_⟩
    rw [if_neg (by omega), Int.emod_emod, Int.mul_emod, ht]
    simp
    rcases hp with rfl | rfl <;> omega
  · rintro Γ ⟨t, e, rfl, ht⟩
    rw [rgD_length] at ht
    refine dss_one ?_
    refine ds_ret ?_
    refine de_make f1 rfl (Nat.le_of_ble_eq_true rfl) ?_
    refine da_cons ?_
    refine de_fldA T.c4 0 ?_
    refine de_var 0 rfl rfl rfl ?_
    refine ⟨_, _, _, rfl, rfl, rfl, ?_⟩
    refine da_cons ?_
    refine de_var 1 rfl rfl rfl ?_
    refine da_nil ?_
    refine ⟨p, t, hp, rfl, ?_⟩
    rw [rz_eq (show t % (p : Int) = a % (p : Int) from ?_)]
    · exact k
    · rcases hp with rfl | rfl
      · simp at ht h0
        omega
      · simp at ht
        exact ht
abbrev s_rover : Stmt := inC 16 9
abbrev N_rover : List Str := ["self", "other"]
theorem sc_rover : FnScope N_rover ["self", "other"] (defScope s_rover) := ⟨rfl, rfl, rfl, by decide +kernel, rfl, by decide +kernel, by decide +kernel⟩
def pr_rover (ds : List D) (P : D → Prop) : Prop := ∃ (p : Nat) (a b : Int), okp p ∧ ¬ b % (p : Int) = 0 ∧ ds = [rz p a, rz p b] ∧ P (rz p (a * b))
theorem ar_rover (ds : List D) (P : D → Prop) (h : pr_rover ds P) : ds.length = 2 := by obtain ⟨p, n, _, _, _, rfl, _⟩ := h; rfl
theorem ok_rover {M : Md} (T : Tx M) (h : MetAt M .res "over" "Residue.over" s_rover) (f1 : Me M .res "inverse" 1 5 [] pr_rinv) (f2 : Me M .res "__mul__" 2 5 [] (pr_bin (· * ·))) : Me M .res "over" 2 6 [] pr_rover := by
  refine me_intro h sc_rover rfl (fun _ _ _ _ _ _ us hl => match us, hl with | [_, _], _ => rfl) ar_rover fun ds P hp _ => ?_
  obtain ⟨p, a, b, hp, h0, rfl, k⟩ := hp
  refine dss_one ?_
  refine ds_ret ?_
  refine de_op ?_
  refine de_var 0 rfl rfl rfl ?_
  refine de_meth0 (T.c4 .res) f1 (by decide +kernel) (Nat.le_of_ble_eq_true rfl) ?_ _ (fun _ => rfl)
  refine de_var 1 rfl rfl rfl ?_
  refine ⟨_, rfl, p, b, hp, h0, rfl, ?_⟩
  refine opd_own (op := .Mult) (T.c4 .res) f2 (by decide +kernel) (Nat.le_of_ble_eq_true rfl) ?_
  exact ⟨p, a, b, hp, rfl, k⟩
end SF

-- part M2
set_option maxHeartbeats 4000000
/-! # The program's defs, one by one: the ground. -/
namespace SF
open PySem PySem.Spec PyProof.Rows L2 DK

/-! ### defs with one default -/
def MetAtD (M : Md) (c : Cl) (m q : Str) (st : Stmt) (dv : V) : Prop := ∃ f fd, FunD M.K m q (defArgs st) (defBody st) (defScope st) [dv] [] f fd ∧ Meth M.K (M.cA c) m f
def IniAtD (M : Md) (c : Cl) (x q : Str) (st : Stmt) (dv : V) : Prop := ∃ f fd, FunD M.K "__init__" q (defArgs st) (defBody st) (defScope st) [dv] [] f fd ∧ Mk M.K (M.cA c) f ∧ M.mg x = some (.ref (M.cA c))
section
variable {M : Md} {x nm m q : Str} {c : Cl} {st : Stmt} {N ps : List Str} {n k : Nat} {pr : List D → (D → Prop) → Prop} {dv : V}
def BindsD1 (nm q : Str) (st : Stmt) (ps : List Str) (n j : Nat) : Prop := ∀ (T : Addr) (kV doc pm : Value) (an : Option Addr) (cdv ct : Value) (us its : List Value), us.length = n → its.length = 1 →
      ∃ k, bindArgs (PySem.W.fnOf nm q (defArgs st) (defBody st) (defScope st) (.ref T) kV doc pm an cdv ct) ⟨us, []⟩ = seqItems? (.ref T) >>= k ∧ k (some its.toArray) = pure (ps.zip (us ++ its.drop j))
/-- a method, its last argument left out -/
theorem me_introD (h : MetAtD M c m q st dv) (S : FnScope N ps (defScope st)) (hn : ps.length = n + 1) {dd : D} (hd : ∀ G, Rep M.cA G dv dd) (hb : BindsD1 m q st ps n 0) (ar : ∀ ds P, pr ds P → ds.length = n + 1)
    (body : ∀ ds P, pr ds P → ds.length = n + 1 → DSs ⟨M, N, defScope st, defScope st, k⟩ (defBody st) (startS N ds) { nx := fun _ => P .non, rt := P }) : Me M c m (n + 1) (k + 1) [dd] pr := by
  obtain ⟨f, fd, FD, hm⟩ := h
  obtain ⟨us, hv, hB⟩ := FD.binds1 (ps := ps) n 0 (by simp) (by simp [hn]) hb
  exact ⟨⟨f, fd, ps, [dv], us, fn_body FD S hn body, hm, hB, hv, fun G => .one (hd G)⟩, ar⟩
/-- a class, its last argument written -/
theorem ct_introD (h : IniAtD M c x q st dv) (S : FnScope N ps (defScope st)) (hn : ps.length = n + 1) (hb : BindsD1 "__init__" q st ps (n + 1) 1) (ar : ∀ ds P, pr ds P → ds.length = n)
    (body : ∀ q ds P, pr ds P → ds.length = n → DSs ⟨M, N, defScope st, defScope st, k⟩ (defBody st) (some (.obj q c []) :: (ds.map (fun d => some (Ent.dat d)) ++ List.replicate (N.length - (ds.length + 1)) none))
      { nx := fun Γ => ∃ es, Γ[0]? = some (some (.obj q c es)) ∧ es.length = (flds c).length ∧ P (.ins c es), rt := fun _ => False }) : Ct M x c n (k + 1) [] pr := by
  obtain ⟨f, fd, FD, mk, hm⟩ := h
  obtain ⟨us, hv, hB⟩ := FD.binds1 (ps := ps) (n + 1) 1 (by simp) (by simp [hn]) hb
  have hu : us = [] := by cases hv; rfl
  subst hu
  exact ⟨⟨f, fd, ps, [], [], init_body FD S hn body, mk, hm, hB, .nil, fun _ => .nil⟩, ar⟩
end

/-! ### Ground -/
abbrev s_ginit : Stmt := inC 21 0
abbrev N_ginit : List Str := ["self", "p"]
theorem sc_ginit : FnScope N_ginit ["self", "p"] (defScope s_ginit) := ⟨rfl, rfl, rfl, by decide +kernel, rfl, by decide +kernel, by decide +kernel⟩
def pr_ginit (ds : List D) (P : D → Prop) : Prop := ∃ (p : Nat), okp p ∧ ds = [.int (p : Nat)] ∧ P (gr p)
theorem ar_ginit (ds : List D) (P : D → Prop) (h : pr_ginit ds P) : ds.length = 1 := by obtain ⟨p, _, rfl, _⟩ := h; rfl
theorem ok_ginit {M : Md} (T : Tx M) (h : IniAtD M .gr "Ground" "Ground.__init__" s_ginit (.int 0)) (f1 : Fn M "is_integer" 1 1 [] pr_isint) (f2 : Fn M "is_small_prime" 1 2 [] pr_small) : Ct M "Ground" .gr 1 3 [] pr_ginit := by
  refine ct_introD h sc_ginit rfl (fun _ _ _ _ _ _ _ us its hl hi => match us, its, hl, hi with | [_, _], [_], _, _ => ⟨_, rfl, rfl⟩) ar_ginit fun q ds P hp _ => ?_
  obtain ⟨p, hp, rfl, k⟩ := hp
  refine dss_cons ?_
  refine ds_if ?_
  refine dt_w ?_
  refine dw_or ?_
  refine dt_not ?_
  refine dt_val ?_
  refine de_call f1 rfl (Nat.le_of_ble_eq_true rfl) ?_
  refine da_cons ?_
  refine de_var 1 rfl rfl rfl ?_
  refine da_nil ?_
  refine ⟨_, rfl, .inl ⟨⟨_, rfl⟩, true, rfl, fun _ => ?_, fun h => by cases h⟩⟩
  refine dw_or1 ?_
  refine dt_w ?_
  refine dw_and ?_
  refine dt_cmp (nomark _) ?_
  refine de_var 1 rfl rfl rfl ?_
  refine de_int ?_
  refine opd_neI ?_
  refine ⟨_, rfl, fun _ => ?_, no_false (by rw [decide_eq_false hp.ne]; rfl)⟩
  refine dw_and1 ?_
  refine dt_not ?_
  refine dt_val ?_
  refine de_call f2 rfl (Nat.le_of_ble_eq_true rfl) ?_
  refine da_cons ?_
  refine de_var 1 rfl rfl rfl ?_
  refine da_nil ?_
  refine ⟨p, hp, rfl, true, rfl, (fun h => by cases h), fun _ => ?_⟩
  refine dss_nil ?_
  refine dss_one ?_
  refine ds_self 0 (T.c4 _) rfl rfl rfl rfl ?_
  refine de_var 1 rfl rfl rfl ?_
  exact ⟨_, rfl, rfl, k⟩
abbrev s_geq : Stmt := inC 21 1
abbrev N_geq : List Str := ["self", "other"]
theorem sc_geq : FnScope N_geq ["self", "other"] (defScope s_geq) := ⟨rfl, rfl, rfl, by decide +kernel, rfl, by decide +kernel, by decide +kernel⟩
def pr_geq (ds : List D) (P : D → Prop) : Prop := ∃ (p q : Nat), ds = [gr p, gr q] ∧ P (.bl (decide (p = q)))
theorem ar_geq (ds : List D) (P : D → Prop) (h : pr_geq ds P) : ds.length = 2 := by obtain ⟨p, n, rfl, _⟩ := h; rfl
theorem ok_geq {M : Md} (T : Tx M) (h : MetAt M .gr "__eq__" "Ground.__eq__" s_geq) : Me M .gr "__eq__" 2 1 [] pr_geq := by
  refine me_intro h sc_geq rfl (fun _ _ _ _ _ _ us hl => match us, hl with | [_, _], _ => rfl) ar_geq fun ds P hp _ => ?_
  obtain ⟨p, a, rfl, k⟩ := hp
  refine dss_one ?_
  refine ds_ret ?_
  refine de_and ?_
  refine de_isiC (c := .gr) T.c4 rfl T.g_isi rfl T.g_gr ?_
  refine de_var 1 rfl rfl rfl ?_
  refine ⟨_, true, rfl, kit_self, true, rfl, fun _ => ?_, fun h => by cases h⟩
  refine de_one ?_
  refine de_cmp (nomark _) ?_
  refine de_fldA T.c4 0 ?_
  refine de_var 0 rfl rfl rfl ?_
  refine ⟨_, _, _, rfl, rfl, rfl, ?_⟩
  refine de_fldA T.c4 0 ?_
  refine de_var 1 rfl rfl rfl ?_
  refine ⟨_, _, _, rfl, rfl, rfl, ?_⟩
  refine opd_eqI ?_
  rw [show decide ((p : Int) = (a : Int)) = decide (p = a) from decide_eq_decide.mpr Int.ofNat_inj]
  exact k
abbrev s_gnum : Stmt := inC 21 2
abbrev N_gnum : List Str := ["self", "n", "d"]
theorem sc_gnum : FnScope N_gnum ["self", "n", "d"] (defScope s_gnum) := ⟨rfl, rfl, rfl, by decide +kernel, rfl, by decide +kernel, by decide +kernel⟩
def pr_gnum (ds : List D) (P : D → Prop) : Prop := ∃ (p : Nat) (n : Int), okp p ∧ ds = [gr p, .int n, .int 1] ∧ P (rz p n)
theorem ar_gnum (ds : List D) (P : D → Prop) (h : pr_gnum ds P) : ds.length = 3 := by obtain ⟨p, n, _, rfl, _⟩ := h; rfl
theorem ok_gnum {M : Md} (T : Tx M) (h : MetAtD M .gr "number" "Ground.number" s_gnum (.int 1)) (f1 : Ct M "Residue" .res 2 3 [] pr_rinit) (f2 : Me M .res "over" 2 6 [] pr_rover) : Me M .gr "number" 3 7 [.int 1] pr_gnum := by
  refine me_introD h sc_gnum rfl (fun _ => .int 1) (fun _ _ _ _ _ _ _ us its hl hi => match us, its, hl, hi with | [_, _], [_], _, _ => ⟨_, rfl, rfl⟩) ar_gnum fun ds P hp _ => ?_
  obtain ⟨p, n, hp, rfl, k⟩ := hp
  have h1 : ¬ (1 : Int) % (p : Int) = 0 := by rcases hp with rfl | rfl <;> decide
  refine dss_cons ?_
  refine ds_if ?_
  refine dt_cmp (nomark _) ?_
  refine de_fldA T.c4 0 ?_
  refine de_var 0 rfl rfl rfl ?_
  refine ⟨_, _, _, rfl, rfl, rfl, ?_⟩
  refine de_int ?_
  refine opd_eqI ?_
  refine ⟨_, rfl, no_true (decide_eq_false hp.ne), fun _ => ?_⟩
  refine dss_nil ?_
  refine dss_cons ?_
  refine ds_if ?_
  refine dt_cmp (nomark _) ?_
  refine de_op ?_
  refine de_var 2 rfl rfl rfl ?_
  refine de_fldA T.c4 0 ?_
  refine de_var 0 rfl rfl rfl ?_
  refine ⟨_, _, _, rfl, rfl, rfl, ?_⟩
  refine opd_mod hp.pos ?_
  refine de_int ?_
  refine opd_eqI ?_
  refine ⟨_, rfl, no_true (decide_eq_false h1), fun _ => ?_⟩
  refine dss_nil ?_
  refine dss_one ?_
  refine ds_ret ?_
  refine de_meth (T.c4 .res) f2 (by decide +kernel) (Nat.le_of_ble_eq_true rfl) ?_ _ (fun _ => rfl)
  refine de_make f1 rfl (Nat.le_of_ble_eq_true rfl) ?_
  refine da_cons ?_
  refine de_fldA T.c4 0 ?_
  refine de_var 0 rfl rfl rfl ?_
  refine ⟨_, _, _, rfl, rfl, rfl, ?_⟩
  refine da_cons ?_
  refine de_var 1 rfl rfl rfl ?_
  refine da_nil ?_
  refine ⟨p, n, hp, rfl, _, rfl, ?_⟩
  refine da_cons ?_
  refine de_make f1 rfl (Nat.le_of_ble_eq_true rfl) ?_
  refine da_cons ?_
  refine de_fldA T.c4 0 ?_
  refine de_var 0 rfl rfl rfl ?_
  refine ⟨_, _, _, rfl, rfl, rfl, ?_⟩
  refine da_cons ?_
  refine de_var 2 rfl rfl rfl ?_
  refine da_nil ?_
  refine ⟨p, 1, hp, rfl, ?_⟩
  refine da_nil ?_
  refine ⟨p, n, 1, hp, h1, rfl, ?_⟩
  rw [Int.mul_one]
  exact k
abbrev s_gzero : Stmt := inC 21 3
abbrev N_gzero : List Str := ["self"]
theorem sc_gzero : FnScope N_gzero ["self"] (defScope s_gzero) := ⟨rfl, rfl, rfl, by decide +kernel, rfl, by decide +kernel, by decide +kernel⟩
def pr_gc (i : Int) (ds : List D) (P : D → Prop) : Prop := ∃ (p : Nat), okp p ∧ ds = [gr p] ∧ P (rz p i)
theorem ar_gc {i : Int} (ds : List D) (P : D → Prop) (h : pr_gc i ds P) : ds.length = 1 := by obtain ⟨p, _, rfl, _⟩ := h; rfl
theorem ok_gzero {M : Md} (T : Tx M) (h : MetAt M .gr "zero" "Ground.zero" s_gzero) (f1 : Me M .gr "number" 3 7 [.int 1] pr_gnum) : Me M .gr "zero" 1 8 [] (pr_gc 0) := by
  refine me_intro h sc_gzero rfl (fun _ _ _ _ _ _ us hl => match us, hl with | [_], _ => rfl) ar_gc fun ds P hp _ => ?_
  obtain ⟨p, hp, rfl, k⟩ := hp
  refine dss_one ?_
  refine ds_ret ?_
  refine de_meth (T.c4 .gr) f1 (by decide +kernel) (Nat.le_of_ble_eq_true rfl) ?_ _ (fun _ => rfl)
  refine de_var 0 rfl rfl rfl ?_
  refine ⟨_, rfl, ?_⟩
  refine da_cons ?_
  refine de_int ?_
  refine da_nil ?_
  exact ⟨p, 0, hp, rfl, k⟩
abbrev s_gone : Stmt := inC 21 4
abbrev N_gone : List Str := ["self"]
theorem sc_gone : FnScope N_gone ["self"] (defScope s_gone) := ⟨rfl, rfl, rfl, by decide +kernel, rfl, by decide +kernel, by decide +kernel⟩
theorem ok_gone {M : Md} (T : Tx M) (h : MetAt M .gr "one" "Ground.one" s_gone) (f1 : Me M .gr "number" 3 7 [.int 1] pr_gnum) : Me M .gr "one" 1 8 [] (pr_gc 1) := by
  refine me_intro h sc_gone rfl (fun _ _ _ _ _ _ us hl => match us, hl with | [_], _ => rfl) ar_gc fun ds P hp _ => ?_
  obtain ⟨p, hp, rfl, k⟩ := hp
  refine dss_one ?_
  refine ds_ret ?_
  refine de_meth (T.c4 .gr) f1 (by decide +kernel) (Nat.le_of_ble_eq_true rfl) ?_ _ (fun _ => rfl)
  refine de_var 0 rfl rfl rfl ?_
  refine ⟨_, rfl, ?_⟩
  refine da_cons ?_
  refine de_int ?_
  refine da_nil ?_
  exact ⟨p, 1, hp, rfl, k⟩
abbrev s_gmem : Stmt := inC 21 5
abbrev N_gmem : List Str := ["self", "value"]
theorem sc_gmem : FnScope N_gmem ["self", "value"] (defScope s_gmem) := ⟨rfl, rfl, rfl, by decide +kernel, rfl, by decide +kernel, by decide +kernel⟩
def pr_gmem (ds : List D) (P : D → Prop) : Prop := ∃ (p : Nat) (n : Int), okp p ∧ ds = [gr p, rz p n] ∧ P (.bl true)
theorem ar_gmem (ds : List D) (P : D → Prop) (h : pr_gmem ds P) : ds.length = 2 := by obtain ⟨p, n, _, rfl, _⟩ := h; rfl
theorem ok_gmem {M : Md} (T : Tx M) (h : MetAt M .gr "is_member" "Ground.is_member" s_gmem) : Me M .gr "is_member" 2 1 [] pr_gmem := by
  refine me_intro h sc_gmem rfl (fun _ _ _ _ _ _ us hl => match us, hl with | [_, _], _ => rfl) ar_gmem fun ds P hp _ => ?_
  obtain ⟨p, n, hp, rfl, k⟩ := hp
  refine dss_cons ?_
  refine ds_if ?_
  refine dt_cmp (nomark _) ?_
  refine de_fldA T.c4 0 ?_
  refine de_var 0 rfl rfl rfl ?_
  refine ⟨_, _, _, rfl, rfl, rfl, ?_⟩
  refine de_int ?_
  refine opd_eqI ?_
  refine ⟨_, rfl, no_true (decide_eq_false hp.ne), fun _ => ?_⟩
  refine dss_nil ?_
  refine dss_one ?_
  refine ds_ret ?_
  refine de_and ?_
  refine de_isiC (c := .res) T.c4 rfl T.g_isi rfl T.g_res ?_
  refine de_var 1 rfl rfl rfl ?_
  refine ⟨_, true, rfl, kit_self, true, rfl, fun _ => ?_, fun h => by cases h⟩
  refine de_one ?_
  refine de_cmp (nomark _) ?_
  refine de_fldA T.c4 0 ?_
  refine de_var 1 rfl rfl rfl ?_
  refine ⟨_, _, _, rfl, rfl, rfl, ?_⟩
  refine de_fldA T.c4 0 ?_
  refine de_var 0 rfl rfl rfl ?_
  refine ⟨_, _, _, rfl, rfl, rfl, ?_⟩
  refine opd_eqI ?_
  rw [decide_eq_true rfl]
  exact k
abbrev s_taken : Stmt := topS 22
abbrev N_taken : List Str := ["ground", "item"]
theorem sc_taken : FnScope N_taken ["ground", "item"] (defScope s_taken) := ⟨rfl, rfl, rfl, by decide +kernel, rfl, by decide +kernel, by decide +kernel⟩
def pr_taken (ds : List D) (P : D → Prop) : Prop := ∃ (p : Nat) (n : Int) (d : D), okp p ∧ (d = .int n ∨ d = rz p n) ∧ ds = [gr p, d] ∧ P (rz p n)
theorem ar_taken (ds : List D) (P : D → Prop) (h : pr_taken ds P) : ds.length = 2 := by obtain ⟨p, n, _, _, _, rfl, _⟩ := h; rfl
theorem ok_taken {M : Md} (T : Tx M) (h : DefAt M "taken" "taken" "taken" s_taken) (f1 : Fn M "is_integer" 1 1 [] pr_isint) (f2 : Me M .gr "number" 3 7 [.int 1] pr_gnum) (f3 : Me M .gr "is_member" 2 1 [] pr_gmem) : Fn M "taken" 2 8 [] pr_taken := by
  refine fn_intro h sc_taken rfl (fun _ _ _ _ _ _ us hl => match us, hl with | [_, _], _ => rfl) ar_taken fun ds P hp _ => ?_
  obtain ⟨p, n, d, hp, hd, rfl, k⟩ := hp
  rcases hd with rfl | rfl
  · refine dss_cons ?_
    refine ds_if ?_
    refine dt_val ?_
    refine de_call f1 rfl (Nat.le_of_ble_eq_true rfl) ?_
    refine da_cons ?_
    refine de_var 1 rfl rfl rfl ?_
    refine da_nil ?_
    refine ⟨_, rfl, .inl ⟨⟨_, rfl⟩, true, rfl, fun _ => ?_, fun h => by cases h⟩⟩
    refine dss_one ?_
    refine ds_ret ?_
    refine de_meth (T.c4 .gr) f2 (by decide +kernel) (Nat.le_of_ble_eq_true rfl) ?_ _ (fun _ => rfl)
    refine de_var 0 rfl rfl rfl ?_
    refine ⟨_, rfl, ?_⟩
    refine da_cons ?_
    refine de_var 1 rfl rfl rfl ?_
    refine da_nil ?_
    exact ⟨p, n, hp, rfl, k⟩
  · refine dss_cons ?_
    refine ds_if ?_
    refine dt_val ?_
    refine de_call f1 rfl (Nat.le_of_ble_eq_true rfl) ?_
    refine da_cons ?_
    refine de_var 1 rfl rfl rfl ?_
    refine da_nil ?_
    refine ⟨_, rfl, .inr ⟨⟨_, rfl⟩, false, rfl, (fun h => by cases h), fun _ => ?_⟩⟩
    refine dss_nil ?_
    refine dss_cons ?_
    refine ds_if ?_
    refine dt_val ?_
    refine de_meth (T.c4 .gr) f3 (by decide +kernel) (Nat.le_of_ble_eq_true rfl) ?_ _ (fun _ => rfl)
    refine de_var 0 rfl rfl rfl ?_
    refine ⟨_, rfl, ?_⟩
    refine da_cons ?_
    refine de_var 1 rfl rfl rfl ?_
    refine da_nil ?_
    refine ⟨p, n, hp, rfl, true, rfl, fun _ => ?_, fun h => by cases h⟩
    refine dss_one ?_
    refine ds_ret ?_
    refine de_var 1 rfl rfl rfl ?_
    exact k
end SF

-- part MR
/-! # The mirror: what each def computes, over lists of numbers (plain Lean, no program in sight). -/
namespace MR
def fsub (p a b : Nat) : Nat := (a + (p - b % p)) % p
def fneg (p a : Nat) : Nat := (p - a % p) % p
def fmul (p a b : Nat) : Nat := (a * b) % p
def fadd (p a b : Nat) : Nat := (a + b) % p
/-- less: a row less the multiple of another one -/
def less (p : Nat) (row own : List Nat) (col : Nat) : List Nat :=
  if row.getD col 0 % p = 0 then row else List.zipWith (fun x y => fsub p x (fmul p (row.getD col 0) y)) row own
/-- one column of reduce_rows: (rest, found, pivots) -/
def redStep (p : Nat) (s : List (List Nat) × List (List Nat) × List Nat) (col : Nat) : List (List Nat) × List (List Nat) × List Nat :=
  match s.1.findIdx? fun r => !(r.getD col 0 % p == 0) with
  | none => s
  | some i =>
    let own0 := s.1.getD i []
    let own := own0.map fun x => fmul p (own0.getD col 0) x
    ((s.1.take i ++ s.1.drop (i + 1)).map fun r => less p r own col, (s.2.1.map fun r => less p r own col) ++ [own], s.2.2 ++ [col])
def reduce (p : Nat) (rows : List (List Nat)) (w : Nat) : List (List Nat) × List Nat :=
  ((List.range w).foldl (redStep p) (rows, [], [])).2
def wide (h : Nat) (rows : List (List Nat)) : List (List Nat) :=
  rows.zipIdx.map fun r => r.1 ++ (List.range h).map fun j => if r.2 = j then 1 else 0
def kernel (p : Nat) (rows : List (List Nat)) (w : Nat) : List (List Nat) :=
  let r := reduce p (wide rows.length rows) (w + rows.length)
  ((r.1.zip r.2).filter fun q => decide (w ≤ q.2)).map fun q => q.1.drop w
def lastD (r : List Nat) : Nat := r.getD (r.length - 1) 0
/-- solve, polynomial_of: the first kernel row that does not end in 0, divided by its end -/
def firstSol (p : Nat) : List (List Nat) → Option (List Nat)
  | [] => none
  | r :: rs => if lastD r % p = 0 then firstSol p rs else some ((r.dropLast).map fun x => fmul p x (lastD r))
def solve (p : Nat) (m : List (List Nat)) (width : Nat) (w : List Nat) : Option (List Nat) :=
  firstSol p (kernel p (m ++ [w.map (fneg p)]) width)
def rowTimes (p : Nat) (row : List Nat) (rows : List (List Nat)) (w : Nat) : List Nat :=
  (row.zip rows).foldl (fun t q => if q.1 % p = 0 then t else List.zipWith (fun x y => fadd p x (fmul p q.1 y)) t q.2) (List.replicate w 0)
def mul (p : Nat) (a b : List (List Nat)) (w : Nat) : List (List Nat) := a.map fun r => rowTimes p r b w
def unit (n : Nat) : List (List Nat) := (List.range n).map fun i => (List.range n).map fun j => if i = j then 1 else 0
def eqRow (p : Nat) (r s : List Nat) : Bool := (List.zipWith (fun a b => a % p == b % p) r s).all fun b => b
def eqMat (p : Nat) (a b : List (List Nat)) : Bool := (List.zipWith (eqRow p) a b).all fun b => b
/-! polynomials: rows, the constant first -/
def trim (p : Nat) (row : List Nat) : List Nat := (row.reverse.dropWhile fun x => x % p == 0).reverse
def prodAt (p : Nat) (a b : List Nat) (k : Nat) : Nat :=
  ((List.range (min (k + 1) a.length)).drop (k + 1 - b.length)).foldl (fun t i => fadd p t (fmul p (a.getD i 0) (b.getD (k - i) 0))) 0
def prod (p : Nat) (a b : List Nat) : List Nat := (List.range (a.length + b.length - 1)).map (prodAt p a b)
/-- one turn of division: (quotient, rest) at the power k -/
def divStep (p : Nat) (b : List Nat) (s : List Nat × List Nat) (k : Nat) : List Nat × List Nat :=
  let f := fmul p (lastD s.2) (lastD b)
  (f :: s.1, s.2.take k ++ (List.range (b.length - 1)).map fun i => fsub p (s.2.getD (k + i) 0) (fmul p f (b.getD i 0)))
def division (p : Nat) (a b : List Nat) : List Nat × List Nat :=
  ((List.range (a.length + 1 - b.length)).reverse).foldl (divStep p b) ([], a)
def fdiv (p : Nat) (a b : List Nat) : List Nat := trim p (division p a b).1
def fmod (p : Nat) (a b : List Nat) : List Nat := trim p (division p a b).2
def monic (p : Nat) (f : List Nat) : List Nat := match f with
  | [] => []
  | _ => trim p (f.map fun x => fmul p (lastD f) x)
def gcd (p : Nat) : Nat → List Nat → List Nat → Option (List Nat)
  | 0, _, _ => none
  | n + 1, f, g => match g with
    | [] => some (monic p f)
    | _ => if lastD g % p = 0 then none else gcd p n g (fmod p f g)
def lcm (p : Nat) (f g : List Nat) : Option (List Nat) :=
  if f.isEmpty || g.isEmpty then none else
  match gcd p 9 f g with
  | none => none
  | some c => if c.isEmpty || lastD c % p = 0 then none else some (monic p (fdiv p (trim p (prod p f g)) c))
/-! Krylov -/
def krylov (p : Nat) (a : List (List Nat)) (n : Nat) : Nat → List (List Nat) → List Nat → Option (List (List Nat) × List Nat)
  | 0, _, _ => none
  | k + 1, rows, row => match solve p rows n row with
    | some _ => some (rows, row)
    | none => krylov p a n k (rows ++ [row]) (rowTimes p row a n)
def annih (p : Nat) (a : List (List Nat)) (n : Nat) (v : List Nat) : Option (List Nat) :=
  match krylov p a n (n + 1) [] v with
  | none => none
  | some (rows, row) => match solve p rows n row with
    | none => none
    | some w => some (trim p (w.map (fneg p) ++ [1]))
def minpoly (p : Nat) (a : List (List Nat)) (n : Nat) : Option (List Nat) :=
  (unit n).foldl (fun t r => match t with
    | none => none
    | some t => match annih p a n r with
      | none => none
      | some g => lcm p t g) (some [1])
/-! commuting -/
def condRow (p : Nat) (a : List (List Nat)) (n i j : Nat) : List Nat :=
  let r1 := (List.range n).foldl (fun r k => r.set (k * n + j) (fadd p (r.getD (k * n + j) 0) ((a.getD k []).getD i 0))) (List.replicate (n * n) 0)
  (List.range n).foldl (fun r k => r.set (i * n + k) (fsub p (r.getD (i * n + k) 0) ((a.getD j []).getD k 0))) r1
def condRows (p : Nat) (a : List (List Nat)) (n : Nat) : List (List Nat) := (List.range n).flatMap fun i => (List.range n).map fun j => condRow p a n i j
def cut (row : List Nat) (i n : Nat) : List Nat := (row.drop (i * n)).take n
def commutant (p : Nat) (a : List (List Nat)) (n : Nat) : List (List (List Nat)) :=
  ((reduce p (kernel p (condRows p a n) (n * n)) (n * n)).1).map fun row => (List.range n).map fun i => cut row i n
def commute (p : Nat) (a b : List (List Nat)) (n : Nat) : Bool := eqMat p (mul p a b n) (mul p b a n)
def powers (p : Nat) (a : List (List Nat)) (n : Nat) : Nat → List (List Nat) → List (List Nat)
  | 0, _ => []
  | k + 1, pw => pw.flatten :: powers p a n k (mul p pw a n)
def polyOf (p : Nat) (a x : List (List Nat)) (n : Nat) : Option (Option (List Nat)) :=
  match minpoly p a n with
  | none => none
  | some m => some ((firstSol p (kernel p (powers p a n (m.length - 1) (unit n) ++ [x.flatten.map (fneg p)]) (n * n))).map (trim p))
/-! the law -/
def lines (p : Nat) : Nat → List (List Nat)
  | 0 => [[]]
  | n + 1 => (lines p n).flatMap fun r => (List.range p).map fun x => r ++ [x]
def allMats (p n : Nat) : List (List (List Nat)) := (lines p (n * n)).map fun row => (List.range n).map fun i => cut row i n
def combos (p n : Nat) (ms : List (List (List Nat))) : List (List (List Nat)) :=
  ms.foldl (fun ts m => ts.flatMap fun t => (List.range p).map fun c => List.zipWith (List.zipWith fun x y => (x + c * y) % p) t m) [List.replicate n (List.replicate n 0)]
def fine (p n : Nat) (a x : List (List Nat)) (ms : List (List (List Nat))) : Bool :=
  if ms.all fun m => commute p x m n then match polyOf p a x n with
    | some (some _) => true
    | _ => false else true
def small (p n : Nat) (a : List (List Nat)) : Bool :=
  let ms := commutant p a n
  ((allMats p n).all fun x => fine p n a x ms) && (((allMats p n).filter fun x => commute p a x n).length == p ^ ms.length)
def big (p n : Nat) (a : List (List Nat)) : Bool :=
  let ms := commutant p a n
  (combos p n ms).all fun x => fine p n a x ms
end MR

-- part M0
set_option maxHeartbeats 4000000
/-! # Helpers: comprehensions by values, numbers and the mirror. -/
namespace SF
open PySem PySem.Spec PyProof.Rows L2 DK

theorem bind_imp {b : Tg} {d : D} {Γ : Sl} {k k' : Sl → Prop} (h : b.bind d Γ k) (hk : ∀ Γ, k Γ → k' Γ) : b.bind d Γ k' := by
  cases b with
  | nm j => exact hk _ h
  | pr j l => obtain ⟨x, y, e, h⟩ := h; exact ⟨x, y, e, hk _ h⟩
section
variable {C : DK.Ctx} {b : Tg} {Γ : Sl} {vs : List Nat} {scope : Scope} {elt : Expr} {ifs : List Expr} {A : List D → Prop} {its : List D}
theorem lcI_map (ds : List D) (hl : ds.length = its.length) (hle : its.length ≤ 100000)
    (h : ∀ (i : Nat) d y, its[i]? = some d → ds[i]? = some y → b.bind d (wipeS Γ vs) fun Γ' => DE (C.blk scope) elt Γ' fun z => z = y) (k : A ds) : LcI C b Γ vs scope [] elt A its := by
  refine ⟨hle, fun i acc => acc = ds.take i, (List.take_zero).symm, fun i d acc hi hI _ => ?_, fun acc hI => ?_⟩
  · subst hI
    have hlt : i < its.length := (List.getElem?_eq_some_iff.mp hi).1
    have hlt' : i < ds.length := by omega
    refine bind_imp (h i d ds[i] hi (List.getElem?_eq_getElem hlt')) fun Γ' q => ?_
    refine dps_nil ⟨fun _ => de_imp q fun z e => ?_, fun e => by cases e⟩
    subst e
    rw [List.take_add_one, List.getElem?_eq_getElem hlt']
    rfl
  · rw [hI, ← hl, List.take_length]
    exact k
theorem range_filt (n : Nat) (keep : Nat → Bool) : (List.range (n + 1)).filter keep = (List.range n).filter keep ++ (if keep n then [n] else []) := by
  rw [List.range_succ, List.filter_append]
  congr 1
  cases h : keep n <;> simp [h]
theorem lcI_filt (keep : Nat → Bool) (f : Nat → D) (hle : its.length ≤ 100000)
    (h : ∀ i d, its[i]? = some d → b.bind d (wipeS Γ vs) fun Γ' => DPs (C.blk scope) ifs Γ' fun t => t = keep i ∧ (t = true → DE (C.blk scope) elt Γ' fun z => z = f i)) (k : A (((List.range its.length).filter keep).map f)) : LcI C b Γ vs scope ifs elt A its := by
  refine ⟨hle, fun i acc => acc = ((List.range i).filter keep).map f, rfl, fun i d acc hi hI _ => ?_, fun acc hI => ?_⟩
  · subst hI
    refine bind_imp (h i d hi) fun Γ' q => ?_
    refine ⟨fun X F B G H σ eo Q qq => q.run X F B G H σ eo Q fun t G' H' g z => qq t G' H' g ⟨fun ht => de_imp (z.2 ht) fun z' e => ?_, fun ht => ?_⟩⟩
    · show _ = List.map f (List.filter keep (List.range (i + 1)))
      rw [range_filt, ← z.1, ht, e]
      simp
    · show _ = List.map f (List.filter keep (List.range (i + 1)))
      rw [range_filt, ← z.1, ht]
      simp
  · subst hI
    exact k
end

/-! ### the numbers of the mirror -/
abbrev rn (p a : Nat) : D := rz p (a : Int)
abbrev rL (p : Nat) (r : List Nat) : D := .lst (r.map (rn p))
abbrev rT (p : Nat) (r : List Nat) : D := .tup (r.map (rn p))
theorem n_mod (a p : Nat) : ((a : Int) % (p : Int)) = ((a % p : Nat) : Int) := (Int.natCast_emod a p).symm
theorem dz (a p : Nat) : decide ((a : Int) % (p : Int) = 0) = decide (a % p = 0) := by
  rw [n_mod]
  exact decide_eq_decide.mpr (by omega)
theorem dq (a b p : Nat) : decide ((a : Int) % (p : Int) = (b : Int) % (p : Int)) = decide (a % p = b % p) := by
  rw [n_mod, n_mod]
  exact decide_eq_decide.mpr (by omega)
theorem rn_add (p a b : Nat) : rz p ((a : Int) + (b : Int)) = rn p (MR.fadd p a b) := rz_eq (by
  show _ = ((MR.fadd p a b : Nat) : Int) % _
  unfold MR.fadd
  rw [n_mod, Nat.mod_mod, ← n_mod, Int.natCast_add])
theorem rn_mul (p a b : Nat) : rz p ((a : Int) * (b : Int)) = rn p (MR.fmul p a b) := rz_eq (by
  unfold MR.fmul
  rw [n_mod, Nat.mod_mod, ← n_mod, Int.natCast_mul])
theorem rn_sub {p : Nat} (hp : okp p) (a b : Nat) : rz p ((a : Int) - (b : Int)) = rn p (MR.fsub p a b) := rz_eq (by
  unfold MR.fsub
  rcases hp with rfl | rfl <;> omega)
theorem rn_neg {p : Nat} (hp : okp p) (a : Nat) : rz p (-(a : Int)) = rn p (MR.fneg p a) := rz_eq (by
  unfold MR.fneg
  rcases hp with rfl | rfl <;> omega)
section
variable {P : D → Prop} {p a b : Nat}
theorem g_add (hp : okp p) (h : P (rn p (MR.fadd p a b))) : pr_bin (· + ·) [rn p a, rn p b] P := ⟨p, a, b, hp, rfl, by rw [← rn_add] at h; exact h⟩
theorem g_sub (hp : okp p) (h : P (rn p (MR.fsub p a b))) : pr_bin (· - ·) [rn p a, rn p b] P := ⟨p, a, b, hp, rfl, by rw [← rn_sub hp] at h; exact h⟩
theorem g_mul (hp : okp p) (h : P (rn p (MR.fmul p a b))) : pr_bin (· * ·) [rn p a, rn p b] P := ⟨p, a, b, hp, rfl, by rw [← rn_mul] at h; exact h⟩
theorem g_neg (hp : okp p) (h : P (rn p (MR.fneg p a))) : pr_rneg [rn p a] P := ⟨p, a, hp, rfl, by rw [← rn_neg hp] at h; exact h⟩
theorem g_zero (h : P (.bl (decide (a % p = 0)))) : pr_rzero [rn p a] P := ⟨p, a, rfl, by rw [dz]; exact h⟩
theorem g_inv (hp : okp p) (h0 : ¬ a % p = 0) (h : P (rn p a)) : pr_rinv [rn p a] P := ⟨p, a, hp, by rw [n_mod]; omega, rfl, h⟩
theorem g_over (hp : okp p) (h0 : ¬ b % p = 0) (h : P (rn p (MR.fmul p a b))) : pr_rover [rn p a, rn p b] P := ⟨p, a, b, hp, by rw [n_mod]; omega, rfl, by rw [← rn_mul] at h; exact h⟩
/-- an item as it may be given: an int or a Residue -/
def It (p : Nat) (d : D) (a : Nat) : Prop := d = rn p a ∨ ∃ i : Int, d = .int i ∧ rz p i = rn p a
theorem g_taken {d : D} (hp : okp p) (hi : It p d a) (h : P (rn p a)) : pr_taken [gr p, d] P := by
  rcases hi with rfl | ⟨i, rfl, e⟩
  · exact ⟨p, a, _, hp, .inr rfl, rfl, h⟩
  · exact ⟨p, i, _, hp, .inl rfl, rfl, by rw [e]; exact h⟩
end
def RowIt (p : Nat) (xs : List D) (r : List Nat) : Prop := xs.length = r.length ∧ ∀ (i : Nat) d a, xs[i]? = some d → r[i]? = some a → It p d a
theorem rowIt_rn (p : Nat) (r : List Nat) : RowIt p (r.map (rn p)) r := ⟨List.length_map .., fun i d a hd ha => by
  rw [List.getElem?_map, ha] at hd
  cases hd
  exact .inl rfl⟩
theorem map_get {α : Type} {r : List α} {f : α → D} {i : Nat} {d : D} (h : (r.map f)[i]? = some d) : ∃ a, r[i]? = some a ∧ d = f a := by
  rw [List.getElem?_map] at h
  cases q : r[i]? with
  | none => rw [q] at h; cases h
  | some a => rw [q] at h; cases h; exact ⟨a, rfl, rfl⟩
end SF

-- part M3
set_option maxHeartbeats 4000000
/-! # The program's defs, one by one: matrices. -/
namespace SF
open PySem PySem.Spec PyProof.Rows L2 DK

theorem isSeq_ok {K : PySem.W.Frag} {cA : Cl → Addr} {P : D → Prop} {d : D} {rs : List D} (h : seqOf d = some rs) (k : P (.bl true)) : ∃ t b, tyd cA d = some t ∧ PySem.W.kitAny K t [.type "list", .type "tuple"] = some b ∧ P (.bl b) := by
  cases d with
  | lst ds => exact ⟨_, true, rfl, by simp [PySem.W.kitAny, kit_self], k⟩
  | tup ds =>
    refine ⟨_, true, rfl, ?_, k⟩
    have e : PySem.W.kitOne K (.type "tuple") (.type "list") = some false := kit_ty (by decide +kernel)
    simp [PySem.W.kitAny, kit_self, e]
  | _ => cases h
theorem zw_get {α β γ : Type} {f : α → β → γ} {xs : List α} {ys : List β} {i : Nat} {x : α} {y : β} (hx : xs[i]? = some x) (hy : ys[i]? = some y) : (List.zipWith f xs ys)[i]? = some (f x y) := by
  rw [List.getElem?_zipWith, hx, hy]
theorem map_at {α β : Type} {f : α → β} {xs : List α} {i : Nat} {x : α} (hx : xs[i]? = some x) : (xs.map f)[i]? = some (f x) := by rw [List.getElem?_map, hx]; rfl

/-! ### taken_rows -/
def RowsIt (p : Nat) (rs : List D) (rows : List (List Nat)) : Prop := rs.length = rows.length ∧ ∀ (i : Nat) x r, rs[i]? = some x → rows[i]? = some r → ∃ xs, seqOf x = some xs ∧ RowIt p xs r
abbrev s_trows : Stmt := topS 37
abbrev N_trows : List Str := ["ground", "rows", "found", "row", "item"]
theorem sc_trows : FnScope N_trows ["ground", "rows"] (defScope s_trows) := ⟨rfl, rfl, rfl, by decide +kernel, rfl, by decide +kernel, by decide +kernel⟩
def pr_trows (ds : List D) (P : D → Prop) : Prop := ∃ (p : Nat) (d : D) (rs : List D) (rows : List (List Nat)), okp p ∧ ds = [gr p, d] ∧ seqOf d = some rs ∧ RowsIt p rs rows ∧ rows.length ≤ 100 ∧ (∀ r ∈ rows, r.length ≤ 100) ∧ P (.tup (rows.map (rT p)))
theorem ar_trows (ds : List D) (P : D → Prop) (h : pr_trows ds P) : ds.length = 2 := by obtain ⟨p, _, _, _, _, rfl, _⟩ := h; rfl
theorem di_seq {C : DK.Ctx} {tg l : Expr} {Γ : Sl} {A : List D → Prop} {d : D} {ds : List D} (hd : seqOf d = some ds) (h : DE C l Γ fun e => e = d) (k : A ds) : DI C tg l Γ A := by
  cases d with
  | lst es => cases hd; exact di_lst (de_imp h fun e q => by subst q; exact ⟨_, rfl, k⟩)
  | tup es => cases hd; exact di_tup (de_imp h fun e q => by subst q; exact ⟨_, rfl, k⟩)
  | _ => cases hd
theorem take_snoc {α : Type} {xs : List α} {i : Nat} (h : i < xs.length) : xs.take (i + 1) = xs.take i ++ [xs[i]] := by rw [List.take_add_one, List.getElem?_eq_getElem h]; rfl
theorem ok_trows {M : Md} (T : Tx M) (h : DefAt M "taken_rows" "taken_rows" "taken_rows" s_trows) (f1 : Fn M "taken" 2 8 [] pr_taken) : Fn M "taken_rows" 2 9 [] pr_trows := by
  refine fn_intro h sc_trows rfl (fun _ _ _ _ _ _ us hl => match us, hl with | [_, _], _ => rfl) ar_trows fun ds P hp _ => ?_
  obtain ⟨p, d, rs, rows, hp, rfl, hd, ⟨hl, hr⟩, hn, hw, k⟩ := hp
  refine dss_cons ?_
  refine ds_if ?_
  refine dt_not ?_
  refine dt_val ?_
  refine de_isi2 (T := "list") (T2 := "tuple") T.c4 rfl T.g_isi rfl T.g_list (by decide +kernel) rfl T.g_tuple (by decide +kernel) ?_
  refine de_var 1 rfl rfl rfl ?_
  refine isSeq_ok hd ⟨true, rfl, (fun h => by cases h), fun _ => ?_⟩
  refine dss_nil ?_
  refine dss_cons ?_
  refine ds_setG 2 rfl rfl ?_
  refine df_lst ?_
  refine da_nil ?_
  refine ⟨by simp, ?_⟩
  refine dss_cons ?_
  refine ds_for (.nm 3) (dg_nm rfl rfl) ?_
  refine di_seq hd (de_var 1 rfl rfl rfl rfl) ?_
  refine ⟨fun i Γ => ∃ e, Γ = [some (.dat (gr p)), some (.dat d), some (.grw ((rows.take i).map (rT p))), e, none], ⟨none, rfl⟩, ?_, ?_⟩
  · rintro i x Γ hi ⟨e, rfl⟩
    have hlt : i < rows.length := by rw [← hl]; exact (List.getElem?_eq_some_iff.mp hi).1
    obtain ⟨xs, hx, hxl, hxi⟩ := hr i x rows[i] hi (List.getElem?_eq_getElem hlt)
    have hwi := hw rows[i] (List.getElem_mem hlt)
    refine dss_cons ?_
    refine ds_if ?_
    refine dt_not ?_
    refine dt_val ?_
    refine de_isi2 (T := "list") (T2 := "tuple") T.c4 rfl T.g_isi rfl T.g_list (by decide +kernel) rfl T.g_tuple (by decide +kernel) ?_
    refine de_var 3 rfl rfl rfl ?_
    refine isSeq_ok hx ⟨true, rfl, (fun h => by cases h), fun _ => ?_⟩
    refine dss_nil ?_
    refine dss_one ?_
    refine ds_app 2 rfl rfl rfl (by simp <;> omega) ?_
    refine de_callTy (T := "tuple") rfl T.g_tuple (by decide +kernel) ?_
    refine da_cons ?_
    refine de_df ?_
    refine df_lc (.nm 4) [("item", 4)] (by kernel_rfl) rfl (dg_nm rfl rfl) ?_
    refine di_seq hx (de_var 3 rfl rfl rfl rfl) ?_
    refine lcI_map (rows[i].map (rn p)) (by simp [hxl]) (by omega) (fun j y z hy hz => ?_) ?_
    · refine de_call f1 rfl (Nat.le_of_ble_eq_true rfl) ?_
      refine da_cons ?_
      refine de_var 0 rfl rfl rfl ?_
      refine da_cons ?_
      refine de_var 4 rfl rfl rfl ?_
      refine da_nil ?_
      obtain ⟨a, ha, rfl⟩ := map_get hz
      exact g_taken hp (hxi j y a hy ha) rfl
    refine da_nil ?_
    refine cd_tupL ⟨some (.dat x), ?_⟩
    rw [take_snoc hlt, List.map_append]
    rfl
  · rintro Γ ⟨e, rfl⟩
    refine ds_freeze 2 rfl ?_
    refine dss_one ?_
    refine ds_ret ?_
    refine de_callTy (T := "tuple") rfl T.g_tuple (by decide +kernel) ?_
    refine da_cons ?_
    refine de_var 2 rfl rfl rfl ?_
    refine da_nil ?_
    refine cd_tupL ?_
    rw [hl, List.take_length]
    exact k

/-! ### row_times -/
theorem rt_len (p w : Nat) (l : List (Nat × List Nat)) : ∀ (t : List Nat), t.length ≤ w → (l.foldl (fun t q => if q.1 % p = 0 then t else List.zipWith (fun x y => MR.fadd p x (MR.fmul p q.1 y)) t q.2) t).length ≤ w := by
  induction l with
  | nil => exact fun t h => h
  | cons q l ih =>
    intro t h
    rw [List.foldl_cons]
    refine ih _ ?_
    split
    · exact h
    · rw [List.length_zipWith]; omega
theorem rt_len_eq (p w : Nat) (l : List (Nat × List Nat)) : ∀ (t : List Nat), t.length = w → (∀ q ∈ l, q.2.length = w) → (l.foldl (fun t q => if q.1 % p = 0 then t else List.zipWith (fun x y => MR.fadd p x (MR.fmul p q.1 y)) t q.2) t).length = w := by
  induction l with
  | nil => exact fun t h _ => h
  | cons q l ih =>
    intro t h hq
    rw [List.foldl_cons]
    refine ih _ ?_ fun q' h' => hq q' (List.mem_cons_of_mem _ h')
    split
    · exact h
    · rw [List.length_zipWith, hq q (List.mem_cons_self ..)]; omega
theorem rowTimes_len {p w : Nat} {row : List Nat} {rows : List (List Nat)} (h : ∀ r ∈ rows, r.length = w) : (MR.rowTimes p row rows w).length = w :=
  rt_len_eq p w _ _ (by simp) fun q hq => h _ (List.of_mem_zip hq).2
abbrev s_rowt : Stmt := topS 38
abbrev N_rowt : List Str := ["ground", "row", "rows", "width", "total", "c", "line", "x", "y"]
theorem sc_rowt : FnScope N_rowt ["ground", "row", "rows", "width"] (defScope s_rowt) := ⟨rfl, rfl, rfl, by decide +kernel, rfl, by decide +kernel, by decide +kernel⟩
def pr_rowt (ds : List D) (P : D → Prop) : Prop := ∃ (p : Nat) (row : List Nat) (rows : List (List Nat)) (w : Nat), okp p ∧ ds = [gr p, rT p row, .tup (rows.map (rT p)), .int (w : Nat)] ∧ w ≤ 100 ∧ P (rT p (MR.rowTimes p row rows w))
theorem ar_rowt (ds : List D) (P : D → Prop) (h : pr_rowt ds P) : ds.length = 4 := by obtain ⟨p, _, _, _, _, rfl, _⟩ := h; rfl
theorem ok_rowt {M : Md} (T : Tx M) (h : DefAt M "row_times" "row_times" "row_times" s_rowt) (f1 : Me M .gr "zero" 1 8 [] (pr_gc 0)) (f2 : Me M .res "is_zero" 1 1 [] pr_rzero) (f3 : Me M .res "__add__" 2 5 [] (pr_bin (· + ·))) (f4 : Me M .res "__mul__" 2 5 [] (pr_bin (· * ·))) : Fn M "row_times" 4 9 [] pr_rowt := by
  refine fn_intro h sc_rowt rfl (fun _ _ _ _ _ _ us hl => match us, hl with | [_, _, _, _], _ => rfl) ar_rowt fun ds P hp _ => ?_
  obtain ⟨p, row, rows, w, hp, rfl, hw, k⟩ := hp
  refine dss_cons ?_
  refine ds_set 4 rfl rfl ?_
  refine de_df ?_
  refine df_rep ?_
  refine de_df ?_
  refine df_lst ?_
  refine da_cons ?_
  refine de_meth0 (T.c4 _) f1 (by decide +kernel) (Nat.le_of_ble_eq_true rfl) ?_ _ (fun _ => rfl)
  refine de_var 0 rfl rfl rfl ?_
  refine ⟨_, rfl, ?_⟩
  refine ⟨p, hp, rfl, ?_⟩
  refine da_nil ?_
  refine ⟨by simp, _, rfl, ?_⟩
  refine de_var 3 rfl rfl rfl ?_
  refine ⟨w, rfl, by omega, by simp; omega, by omega, ?_⟩
  refine dss_cons ?_
  refine ds_for (.pr 5 6) (dg_pr rfl rfl rfl rfl) ?_
  refine di_zipT rfl T.g_zip ?_
  refine de_var 1 rfl rfl rfl ?_
  refine ⟨_, rfl, ?_⟩
  refine de_var 2 rfl rfl rfl ?_
  refine ⟨_, rfl, ?_⟩
  refine ⟨fun i Γ => ∃ t e1 e2, Γ = [some (.dat (gr p)), some (.dat (rT p row)), some (.dat (.tup (rows.map (rT p)))), some (.dat (.int (w : Nat))), some (.dat (rL p t)), e1, e2, none, none] ∧ t.length ≤ w ∧
    t = ((row.zip rows).take i).foldl (fun t q => if q.1 % p = 0 then t else List.zipWith (fun x y => MR.fadd p x (MR.fmul p q.1 y)) t q.2) (List.replicate w 0), ⟨List.replicate w 0, none, none, by simp [rL, rn]; rfl, by simp, rfl⟩, ?_, ?_⟩
  · rintro i d Γ hi ⟨t, e1, e2, rfl, htl, ht⟩
    obtain ⟨x, y, hx, hy, rfl⟩ := zipD_get hi
    obtain ⟨c, hc, rfl⟩ := map_get hx
    obtain ⟨l, hl, rfl⟩ := map_get hy
    have hz : (row.zip rows)[i]? = some (c, l) := by rw [List.getElem?_zip_eq_some]; exact ⟨hc, hl⟩
    have hlt : i < (row.zip rows).length := (List.getElem?_eq_some_iff.mp hz).1
    have hs : ((row.zip rows).take (i + 1)).foldl (fun t q => if q.1 % p = 0 then t else List.zipWith (fun x y => MR.fadd p x (MR.fmul p q.1 y)) t q.2) (List.replicate w 0) = if c % p = 0 then t else List.zipWith (fun x y => MR.fadd p x (MR.fmul p c y)) t l := by
      rw [List.take_add_one, hz, List.foldl_append, ← ht]
      rfl
    refine ⟨_, _, rfl, ?_⟩
    refine dss_one ?_
    refine ds_if ?_
    refine dt_not ?_
    refine dt_val ?_
    refine de_meth0 (T.c4 _) f2 (by decide +kernel) (Nat.le_of_ble_eq_true rfl) ?_ _ (fun _ => rfl)
    refine de_var 5 rfl rfl rfl ?_
    refine ⟨_, rfl, ?_⟩
    refine g_zero ⟨_, rfl, fun h0 => ?_, fun h0 => ?_⟩
    · have h0' : ¬ c % p = 0 := by simpa using h0
      refine dss_one ?_
      refine ds_setLc 4 (.pr 7 8) [("x", 7), ("y", 8)] rfl rfl (by intro env h; cases env; cases h; rfl) (by kernel_rfl) rfl (dg_pr rfl rfl rfl rfl) ?_
      refine di_zipM rfl T.g_zip ?_
      refine de_var 4 rfl rfl rfl ?_
      refine ⟨_, rfl, ?_⟩
      refine de_var 6 rfl rfl rfl ?_
      refine ⟨_, rfl, ?_⟩
      refine lcI_map ((List.zipWith (fun x y => MR.fadd p x (MR.fmul p c y)) t l).map (rn p)) (by simp [zipD_length]) (by simp [zipD_length]; omega) (fun j d z hd hz => ?_) ?_
      · obtain ⟨x, y, hx, hy, rfl⟩ := zipD_get hd
        obtain ⟨a, ha, rfl⟩ := map_get hx
        obtain ⟨b, hb, rfl⟩ := map_get hy
        rw [map_at (zw_get ha hb)] at hz
        cases hz
        refine ⟨_, _, rfl, ?_⟩
        refine de_op ?_
        refine de_var 7 rfl rfl rfl ?_
        refine de_op ?_
        refine de_var 5 rfl rfl rfl ?_
        refine de_var 8 rfl rfl rfl ?_
        refine opd_own (op := .Mult) (T.c4 _) f4 (by decide +kernel) (Nat.le_of_ble_eq_true rfl) ?_
        refine g_mul hp ?_
        refine opd_own (op := .Add) (T.c4 _) f3 (by decide +kernel) (Nat.le_of_ble_eq_true rfl) ?_
        exact g_add hp rfl
      exact ⟨_, _, _, rfl, by rw [List.length_zipWith]; omega, by rw [hs, if_neg h0']⟩
    · have h0' : c % p = 0 := by simpa using h0
      refine dss_nil ?_
      exact ⟨_, _, _, rfl, htl, by rw [hs, if_pos h0']⟩
  · rintro Γ ⟨t, e1, e2, rfl, htl, ht⟩
    have e : (zipD (row.map (rn p)) (rows.map (rT p))).length = (row.zip rows).length := by rw [zipD_length, List.length_zip, List.length_map, List.length_map]
    rw [e, List.take_length] at ht
    refine dss_one ?_
    refine ds_ret ?_
    refine de_callTy (T := "tuple") rfl T.g_tuple (by decide +kernel) ?_
    refine da_cons ?_
    refine de_var 4 rfl rfl rfl ?_
    refine da_nil ?_
    refine cd_tupL ?_
    rw [ht]
    exact k
end SF

-- part M4
set_option maxHeartbeats 4000000
/-! # The program's defs, one by one: Matrix. -/
namespace SF
open PySem PySem.Spec PyProof.Rows L2 DK

def matD (p : Nat) (rows : List (List Nat)) (w : Nat) : D := .ins .mat [gr p, .tup (rows.map (rT p)), .int (w : Nat)]
abbrev s_minit : Stmt := inC 39 0
abbrev N_minit : List Str := ["self", "ground", "rows", "width", "own", "row"]
theorem sc_minit : FnScope N_minit ["self", "ground", "rows", "width"] (defScope s_minit) := ⟨rfl, rfl, rfl, by decide +kernel, rfl, by decide +kernel, by decide +kernel⟩
def pr_minit (ds : List D) (P : D → Prop) : Prop := ∃ (p : Nat) (d : D) (rs : List D) (rows : List (List Nat)) (w : Nat), okp p ∧ ds = [gr p, d, .int (w : Nat)] ∧ seqOf d = some rs ∧ RowsIt p rs rows ∧ rows.length ≤ 8 ∧ w ≤ 64 ∧ (∀ r ∈ rows, r.length = w) ∧ P (matD p rows w)
theorem ar_minit (ds : List D) (P : D → Prop) (h : pr_minit ds P) : ds.length = 3 := by obtain ⟨p, _, _, _, _, _, rfl, _⟩ := h; rfl
theorem ok_minit {M : Md} (T : Tx M) (h : IniAtD M .mat "Matrix" "Matrix.__init__" s_minit .non) (f1 : Fn M "taken_rows" 2 9 [] pr_trows) : Ct M "Matrix" .mat 3 10 [] pr_minit := by
  refine ct_introD h sc_minit rfl (fun _ _ _ _ _ _ _ us its hl hi => match us, its, hl, hi with | [_, _, _, _], [_], _, _ => ⟨_, rfl, rfl⟩) ar_minit fun q ds P hp _ => ?_
  obtain ⟨p, d, rs, rows, w, hp, rfl, hd, hr, hn, hw, hl, k⟩ := hp
  obtain ⟨tr, htr⟩ := T.most_rows
  obtain ⟨tw, htw⟩ := T.most_width
  refine dss_cons ?_
  refine ds_set 4 rfl rfl ?_
  refine de_call f1 rfl (Nat.le_of_ble_eq_true rfl) ?_
  refine da_cons ?_
  refine de_var 1 rfl rfl rfl ?_
  refine da_cons ?_
  refine de_var 2 rfl rfl rfl ?_
  refine da_nil ?_
  refine ⟨p, d, rs, rows, hp, rfl, hd, hr, by omega, fun r hr => by rw [hl r hr]; omega, ?_⟩
  refine dss_cons ?_
  refine ds_if ?_
  refine dt_cmp (nomark _) ?_
  refine de_var 3 rfl rfl rfl ?_
  refine de_non ?_
  refine opd_isN ?_
  refine ⟨_, rfl, (fun h => by cases h), fun _ => ?_⟩
  refine dss_nil ?_
  refine dss_cons ?_
  refine ds_for (.nm 5) (dg_nm rfl rfl) ?_
  refine di_tup ?_
  refine de_var 4 rfl rfl rfl ?_
  refine ⟨_, rfl, ?_⟩
  refine ⟨fun i Γ => ∃ e, Γ = [some (.obj q .mat []), some (.dat (gr p)), some (.dat d), some (.dat (.int (w : Nat))), some (.dat (.tup (rows.map (rT p)))), e], ⟨none, rfl⟩, ?_, ?_⟩
  · rintro i x Γ hi ⟨e, rfl⟩
    obtain ⟨r, hr, rfl⟩ := map_get hi
    refine dss_one ?_
    refine ds_if ?_
    refine dt_cmp (nomark _) ?_
    refine de_callB rfl T.g_len PySem.boot_len (da_cons ?_)
    refine de_var 5 rfl rfl rfl ?_
    refine da_nil (cd_len rfl ?_)
    refine de_var 3 rfl rfl rfl ?_
    refine opd_neI ?_
    have e1 : r.length = w := hl r (List.mem_of_getElem? hr)
    refine ⟨_, rfl, no_true (by simp [e1]), fun _ => ?_⟩
    refine dss_nil ?_
    exact ⟨_, rfl⟩
  rintro Γ ⟨e, rfl⟩
  refine dss_cons ?_
  refine ds_if ?_
  refine dt_w ?_
  refine dw_or ?_
  refine dt_cmp (nomark _) ?_
  refine de_callB rfl T.g_len PySem.boot_len (da_cons ?_)
  refine de_var 4 rfl rfl rfl ?_
  refine da_nil (cd_len rfl ?_)
  refine de_globInt rfl htr ?_
  refine opd_gt ?_
  refine ⟨_, rfl, fun _ => ?_, no_true (by simp; omega)⟩
  refine dw_or1 ?_
  refine dt_cmp (nomark _) ?_
  refine de_var 3 rfl rfl rfl ?_
  refine de_globInt rfl htw ?_
  refine opd_gt ?_
  refine ⟨_, rfl, no_true (by simp; omega), fun _ => ?_⟩
  refine dss_nil ?_
  refine dss_cons ?_
  refine ds_self 0 (T.c4 _) rfl rfl rfl rfl ?_
  refine de_var 1 rfl rfl rfl ?_
  refine dss_cons ?_
  refine ds_self 0 (T.c4 _) rfl rfl rfl rfl ?_
  refine de_var 4 rfl rfl rfl ?_
  refine dss_one ?_
  refine ds_self 0 (T.c4 _) rfl rfl rfl rfl ?_
  refine de_var 3 rfl rfl rfl ?_
  exact ⟨_, rfl, rfl, k⟩

/-! ### == of matrices -/
def resEq : D → D → Bool
  | .ins _ [_, .int a], .ins _ [_, .int b] => decide (a = b)
  | _, _ => false
def resS (p : Nat) (d : D) : Prop := ∃ a : Nat, d = rn p a
theorem resEq_rn (p a b : Nat) : resEq (rn p a) (rn p b) = decide (a % p = b % p) := dq a b p
theorem eqc_res {C : DK.Ctx} (T : Tx C.toMd) (m : Me C.toMd .res "__eq__" 2 1 [] pr_req) (p : Nat) : EqC C 1 (resS p) resEq := by
  refine eqc_own (T.c4 .res) m (fun d ⟨a, e⟩ => ⟨_, e⟩) (fun G vs xs ys sx sy r1 r2 => ?_) (fun xs ys sx sy => ?_)
  · obtain ⟨a, e1⟩ := sx
    obtain ⟨b, e2⟩ := sy
    injection e1 with _ e1
    injection e2 with _ e2
    subst e1 e2
    cases r1 with
    | cons a1 t1 =>
      cases r2 with
      | cons a2 t2 =>
        cases t1 with
        | cons b1 u1 =>
          cases t2 with
          | cons b2 u2 =>
            have h1 := rep_int b1
            have h2 := rep_int b2
            rw [h1] at h2
            injection h2 with h2
            show decide _ = true
            exact decide_eq_true h2
  · obtain ⟨a, e1⟩ := sx
    obtain ⟨b, e2⟩ := sy
    exact ⟨p, a, b, by rw [e1, e2], by show D.bl _ = D.bl (resEq _ _); rw [e1, e2]; rfl⟩
theorem rowEq (p : Nat) : ∀ (r s : List Nat), r.length = s.length → tupEq resEq (rT p r) (rT p s) = MR.eqRow p r s
  | [], [], _ => rfl
  | a :: r, b :: s, h => by
    have ih := rowEq p r s (by simpa using h)
    simp only [tupEq, MR.eqRow, List.map_cons, List.zipWith_cons_cons, List.all_cons, resEq_rn, List.length_cons] at ih ⊢
    rw [Bool.and_assoc]
    congr 1
    · rw [← ih]
      simp
theorem matEq (p n : Nat) : ∀ (a b : List (List Nat)), a.length = b.length → (∀ r ∈ a, r.length = n) → (∀ r ∈ b, r.length = n) → tupEq (tupEq resEq) (.tup (a.map (rT p))) (.tup (b.map (rT p))) = MR.eqMat p a b
  | [], [], _, _, _ => rfl
  | r :: a, s :: b, h, ha, hb => by
    have ih := matEq p n a b (by simpa using h) (fun r hr => ha r (List.mem_cons_of_mem _ hr)) (fun r hr => hb r (List.mem_cons_of_mem _ hr))
    have e := rowEq p r s (by rw [ha r (List.mem_cons_self ..), hb s (List.mem_cons_self ..)])
    simp only [tupEq, MR.eqMat, List.map_cons, List.zipWith_cons_cons, List.all_cons, List.length_cons] at ih e ⊢
    rw [Bool.and_assoc, e]
    congr 1
    rw [← ih]
    simp
/-- n rows of n numbers -/
def Sq (n : Nat) (a : List (List Nat)) : Prop := a.length = n ∧ ∀ r ∈ a, r.length = n
abbrev s_meq : Stmt := inC 39 2
abbrev N_meq : List Str := ["self", "other"]
theorem sc_meq : FnScope N_meq ["self", "other"] (defScope s_meq) := ⟨rfl, rfl, rfl, by decide +kernel, rfl, by decide +kernel, by decide +kernel⟩
def pr_meq (ds : List D) (P : D → Prop) : Prop := ∃ (p n : Nat) (a b : List (List Nat)), okp p ∧ Sq n a ∧ Sq n b ∧ ds = [matD p a n, matD p b n] ∧ P (.bl (MR.eqMat p a b))
theorem ar_meq (ds : List D) (P : D → Prop) (h : pr_meq ds P) : ds.length = 2 := by obtain ⟨p, _, _, _, _, _, _, rfl, _⟩ := h; rfl
theorem ok_meq {M : Md} (T : Tx M) (h : MetAt M .mat "__eq__" "Matrix.__eq__" s_meq) (f1 : Me M .gr "__eq__" 2 1 [] pr_geq) (f2 : Me M .res "__eq__" 2 1 [] pr_req) : Me M .mat "__eq__" 2 4 [] pr_meq := by
  refine me_intro h sc_meq rfl (fun _ _ _ _ _ _ us hl => match us, hl with | [_, _], _ => rfl) ar_meq fun ds P hp _ => ?_
  obtain ⟨p, n, a, b, hp, ha, hb, rfl, k⟩ := hp
  refine dss_cons ?_
  refine ds_if ?_
  refine dt_not ?_
  refine dt_val ?_
  refine de_isiC (c := .mat) T.c4 rfl T.g_isi rfl T.g_mat ?_
  refine de_var 1 rfl rfl rfl ?_
  refine ⟨_, true, rfl, kit_self, true, rfl, (fun h => by cases h), fun _ => ?_⟩
  refine dss_nil ?_
  refine dss_one ?_
  refine ds_ret ?_
  refine de_and ?_
  refine de_cmp (nomark _) ?_
  refine de_fldA T.c4 0 ?_
  refine de_var 0 rfl rfl rfl ?_
  refine ⟨_, _, _, rfl, rfl, rfl, ?_⟩
  refine de_fldA T.c4 0 ?_
  refine de_var 1 rfl rfl rfl ?_
  refine ⟨_, _, _, rfl, rfl, rfl, ?_⟩
  refine opd_eq (T.c4 .gr) f1 (Nat.le_of_ble_eq_true rfl) ?_
  refine ⟨p, p, rfl, _, rfl, fun _ => ?_, no_false (by simp)⟩
  refine de_and ?_
  refine de_cmp (nomark _) ?_
  refine de_fldA T.c4 2 ?_
  refine de_var 0 rfl rfl rfl ?_
  refine ⟨_, _, _, rfl, rfl, rfl, ?_⟩
  refine de_fldA T.c4 2 ?_
  refine de_var 1 rfl rfl rfl ?_
  refine ⟨_, _, _, rfl, rfl, rfl, ?_⟩
  refine opd_eqI ?_
  refine ⟨_, rfl, fun _ => ?_, no_false (by simp)⟩
  refine de_one ?_
  refine de_cmp (nomark _) ?_
  refine de_fldA T.c4 1 ?_
  refine de_var 0 rfl rfl rfl ?_
  refine ⟨_, _, _, rfl, rfl, rfl, ?_⟩
  refine de_fldA T.c4 1 ?_
  refine de_var 1 rfl rfl rfl ?_
  refine ⟨_, _, _, rfl, rfl, rfl, ?_⟩
  refine opd_eqT (eqc_tup (eqc_res T f2 p)) (Nat.le_of_ble_eq_true rfl) (fun d hd => ?_) (fun d hd => ?_) ?_
  · obtain ⟨r, _, rfl⟩ := List.mem_map.mp hd
    exact ⟨_, rfl, fun x hx => by obtain ⟨c, _, rfl⟩ := List.mem_map.mp hx; exact ⟨c, rfl⟩⟩
  · obtain ⟨r, _, rfl⟩ := List.mem_map.mp hd
    exact ⟨_, rfl, fun x hx => by obtain ⟨c, _, rfl⟩ := List.mem_map.mp hx; exact ⟨c, rfl⟩⟩
  · rw [matEq p n a b (by rw [ha.1, hb.1]) ha.2 hb.2]
    exact k
/-! ### the product, a row before a matrix -/
theorem rowsIt_T (p : Nat) (rows : List (List Nat)) : RowsIt p (rows.map (rT p)) rows := ⟨List.length_map .., fun i x r hx hr => by
  rw [map_at hr] at hx
  cases hx
  exact ⟨_, rfl, rowIt_rn p r⟩⟩
theorem rowsIt_L (p : Nat) (rows : List (List Nat)) : RowsIt p (rows.map (rL p)) rows := ⟨List.length_map .., fun i x r hx hr => by
  rw [map_at hr] at hx
  cases hx
  exact ⟨_, rfl, rowIt_rn p r⟩⟩
theorem mul_sq {p n : Nat} {a b : List (List Nat)} (ha : Sq n a) (hb : Sq n b) : Sq n (MR.mul p a b n) := ⟨by unfold MR.mul; rw [List.length_map, ha.1], fun r hr => by
  obtain ⟨s, _, rfl⟩ := List.mem_map.mp hr
  exact rowTimes_len hb.2⟩
abbrev s_mmul : Stmt := inC 39 6
abbrev N_mmul : List Str := ["self", "other", "rows", "row"]
theorem sc_mmul : FnScope N_mmul ["self", "other"] (defScope s_mmul) := ⟨rfl, rfl, rfl, by decide +kernel, rfl, by decide +kernel, by decide +kernel⟩
def pr_mmul (ds : List D) (P : D → Prop) : Prop := ∃ (p n : Nat) (a b : List (List Nat)), okp p ∧ Sq n a ∧ Sq n b ∧ n ≤ 8 ∧ ds = [matD p a n, matD p b n] ∧ P (matD p (MR.mul p a b n) n)
theorem ar_mmul (ds : List D) (P : D → Prop) (h : pr_mmul ds P) : ds.length = 2 := by obtain ⟨p, _, _, _, _, _, _, _, rfl, _⟩ := h; rfl
theorem ok_mmul {M : Md} (T : Tx M) (h : MetAt M .mat "__mul__" "Matrix.__mul__" s_mmul) (f1 : Me M .gr "__eq__" 2 1 [] pr_geq) (f2 : Fn M "row_times" 4 9 [] pr_rowt) (f3 : Ct M "Matrix" .mat 3 10 [] pr_minit) : Me M .mat "__mul__" 2 12 [] pr_mmul := by
  refine me_intro h sc_mmul rfl (fun _ _ _ _ _ _ us hl => match us, hl with | [_, _], _ => rfl) ar_mmul fun ds P hp _ => ?_
  obtain ⟨p, n, a, b, hp, ha, hb, hn, rfl, k⟩ := hp
  refine dss_cons ?_
  refine ds_if ?_
  refine dt_w ?_
  refine dw_or ?_
  refine dt_cmp (nomark _) ?_
  refine de_fldA T.c4 0 ?_
  refine de_var 0 rfl rfl rfl ?_
  refine ⟨_, _, _, rfl, rfl, rfl, ?_⟩
  refine de_fldA T.c4 0 ?_
  refine de_var 1 rfl rfl rfl ?_
  refine ⟨_, _, _, rfl, rfl, rfl, ?_⟩
  refine opd_ne (T.c4 _) (T.ne _) f1 (Nat.le_of_ble_eq_true rfl) ?_
  refine ⟨p, p, rfl, _, rfl, _, rfl, fun _ => ?_, no_true (by simp)⟩
  refine dw_or1 ?_
  refine dt_cmp (nomark _) ?_
  refine de_fldA T.c4 2 ?_
  refine de_var 0 rfl rfl rfl ?_
  refine ⟨_, _, _, rfl, rfl, rfl, ?_⟩
  refine de_callB rfl T.g_len PySem.boot_len (da_cons ?_)
  refine de_fldA T.c4 1 ?_
  refine de_var 1 rfl rfl rfl ?_
  refine ⟨_, _, _, rfl, rfl, rfl, ?_⟩
  refine da_nil (cd_len rfl ?_)
  refine opd_neI ?_
  refine ⟨_, rfl, no_true (by simp [hb.1]), fun _ => ?_⟩
  refine dss_nil ?_
  refine dss_cons ?_
  refine ds_setLc 2 (.nm 3) [("row", 3)] rfl rfl (by intro env h; cases env; cases h; rfl) (by kernel_rfl) rfl (dg_nm rfl rfl) ?_
  refine di_tup ?_
  refine de_fldA T.c4 1 ?_
  refine de_var 0 rfl rfl rfl ?_
  refine ⟨_, _, _, rfl, rfl, rfl, ?_⟩
  refine ⟨_, rfl, ?_⟩
  refine lcI_map ((MR.mul p a b n).map (rT p)) (by simp [MR.mul]) (by simp [ha.1]; omega) (fun i d y hd hy => ?_) ?_
  · obtain ⟨r, hr, rfl⟩ := map_get hd
    have e : (MR.mul p a b n)[i]? = some (MR.rowTimes p r b n) := map_at hr
    rw [map_at e] at hy
    cases hy
    refine de_call f2 rfl (Nat.le_of_ble_eq_true rfl) ?_
    refine da_cons ?_
    refine de_fldA T.c4 0 ?_
    refine de_var 0 rfl rfl rfl ?_
    refine ⟨_, _, _, rfl, rfl, rfl, ?_⟩
    refine da_cons ?_
    refine de_var 3 rfl rfl rfl ?_
    refine da_cons ?_
    refine de_fldA T.c4 1 ?_
    refine de_var 1 rfl rfl rfl ?_
    refine ⟨_, _, _, rfl, rfl, rfl, ?_⟩
    refine da_cons ?_
    refine de_fldA T.c4 2 ?_
    refine de_var 1 rfl rfl rfl ?_
    refine ⟨_, _, _, rfl, rfl, rfl, ?_⟩
    refine da_nil ?_
    exact ⟨p, r, b, n, hp, rfl, by omega, rfl⟩
  refine dss_one ?_
  refine ds_ret ?_
  refine de_make f3 rfl (Nat.le_of_ble_eq_true rfl) ?_
  refine da_cons ?_
  refine de_fldA T.c4 0 ?_
  refine de_var 0 rfl rfl rfl ?_
  refine ⟨_, _, _, rfl, rfl, rfl, ?_⟩
  refine da_cons ?_
  refine de_var 2 rfl rfl rfl ?_
  refine da_cons ?_
  refine de_fldA T.c4 2 ?_
  refine de_var 1 rfl rfl rfl ?_
  refine ⟨_, _, _, rfl, rfl, rfl, ?_⟩
  refine da_nil ?_
  exact ⟨p, _, _, _, n, hp, rfl, rfl, rowsIt_T p _, by rw [(mul_sq ha hb).1]; exact hn, by omega, (mul_sq ha hb).2, k⟩
abbrev s_mbef : Stmt := inC 39 8
abbrev N_mbef : List Str := ["self", "row"]
theorem sc_mbef : FnScope N_mbef ["self", "row"] (defScope s_mbef) := ⟨rfl, rfl, rfl, by decide +kernel, rfl, by decide +kernel, by decide +kernel⟩
def pr_mbef (ds : List D) (P : D → Prop) : Prop := ∃ (p n : Nat) (a : List (List Nat)) (v : List Nat), okp p ∧ Sq n a ∧ v.length = n ∧ n ≤ 8 ∧ ds = [matD p a n, rT p v] ∧ P (rT p (MR.rowTimes p v a n))
theorem ar_mbef (ds : List D) (P : D → Prop) (h : pr_mbef ds P) : ds.length = 2 := by obtain ⟨p, _, _, _, _, _, _, _, rfl, _⟩ := h; rfl
theorem ok_mbef {M : Md} (T : Tx M) (h : MetAt M .mat "before" "Matrix.before" s_mbef) (f2 : Fn M "row_times" 4 9 [] pr_rowt) : Me M .mat "before" 2 10 [] pr_mbef := by
  refine me_intro h sc_mbef rfl (fun _ _ _ _ _ _ us hl => match us, hl with | [_, _], _ => rfl) ar_mbef fun ds P hp _ => ?_
  obtain ⟨p, n, a, v, hp, ha, hv, hn, rfl, k⟩ := hp
  refine dss_cons ?_
  refine ds_if ?_
  refine dt_cmp (nomark _) ?_
  refine de_callB rfl T.g_len PySem.boot_len (da_cons ?_)
  refine de_var 1 rfl rfl rfl ?_
  refine da_nil (cd_len rfl ?_)
  refine de_callB rfl T.g_len PySem.boot_len (da_cons ?_)
  refine de_fldA T.c4 1 ?_
  refine de_var 0 rfl rfl rfl ?_
  refine ⟨_, _, _, rfl, rfl, rfl, ?_⟩
  refine da_nil (cd_len rfl ?_)
  refine opd_neI ?_
  refine ⟨_, rfl, no_true (by simp [hv, ha.1]), fun _ => ?_⟩
  refine dss_nil ?_
  refine dss_one ?_
  refine ds_ret ?_
  refine de_call f2 rfl (Nat.le_of_ble_eq_true rfl) ?_
  refine da_cons ?_
  refine de_fldA T.c4 0 ?_
  refine de_var 0 rfl rfl rfl ?_
  refine ⟨_, _, _, rfl, rfl, rfl, ?_⟩
  refine da_cons ?_
  refine de_var 1 rfl rfl rfl ?_
  refine da_cons ?_
  refine de_fldA T.c4 1 ?_
  refine de_var 0 rfl rfl rfl ?_
  refine ⟨_, _, _, rfl, rfl, rfl, ?_⟩
  refine da_cons ?_
  refine de_fldA T.c4 2 ?_
  refine de_var 0 rfl rfl rfl ?_
  refine ⟨_, _, _, rfl, rfl, rfl, ?_⟩
  refine da_nil ?_
  exact ⟨p, v, a, n, hp, rfl, by omega, k⟩
abbrev s_csq : Stmt := topS 41
abbrev N_csq : List Str := ["a"]
theorem sc_csq : FnScope N_csq ["a"] (defScope s_csq) := ⟨rfl, rfl, rfl, by decide +kernel, rfl, by decide +kernel, by decide +kernel⟩
def pr_csq (ds : List D) (P : D → Prop) : Prop := ∃ (p n : Nat) (a : List (List Nat)), Sq n a ∧ ds = [matD p a n] ∧ P .non
theorem ar_csq (ds : List D) (P : D → Prop) (h : pr_csq ds P) : ds.length = 1 := by obtain ⟨p, _, _, _, rfl, _⟩ := h; rfl
theorem ok_csq {M : Md} (T : Tx M) (h : DefAt M "check_square" "check_square" "check_square" s_csq) : Fn M "check_square" 1 1 [] pr_csq := by
  refine fn_intro h sc_csq rfl (fun _ _ _ _ _ _ us hl => match us, hl with | [_], _ => rfl) ar_csq fun ds P hp _ => ?_
  obtain ⟨p, n, a, ha, rfl, k⟩ := hp
  refine dss_one ?_
  refine ds_if ?_
  refine dt_cmp (nomark _) ?_
  refine de_callB rfl T.g_len PySem.boot_len (da_cons ?_)
  refine de_fldA T.c4 1 ?_
  refine de_var 0 rfl rfl rfl ?_
  refine ⟨_, _, _, rfl, rfl, rfl, ?_⟩
  refine da_nil (cd_len rfl ?_)
  refine de_fldA T.c4 2 ?_
  refine de_var 0 rfl rfl rfl ?_
  refine ⟨_, _, _, rfl, rfl, rfl, ?_⟩
  refine opd_neI ?_
  refine ⟨_, rfl, no_true (by simp [ha.1]), fun _ => ?_⟩
  refine dss_nil ?_
  exact k
abbrev s_unit : Stmt := topS 42
abbrev N_unit : List Str := ["ground", "n", "i", "j"]
theorem sc_unit : FnScope N_unit ["ground", "n"] (defScope s_unit) := ⟨rfl, rfl, rfl, by decide +kernel, rfl, by decide +kernel, by decide +kernel⟩
def pr_unit (ds : List D) (P : D → Prop) : Prop := ∃ (p n : Nat), okp p ∧ n ≤ 8 ∧ ds = [gr p, .int (n : Nat)] ∧ P (matD p (MR.unit n) n)
theorem ar_unit (ds : List D) (P : D → Prop) (h : pr_unit ds P) : ds.length = 2 := by obtain ⟨p, _, _, _, rfl, _⟩ := h; rfl
theorem unit_sq (n : Nat) : Sq n (MR.unit n) := ⟨by simp [MR.unit], fun r hr => by
  obtain ⟨i, _, rfl⟩ := List.mem_map.mp hr
  simp⟩
theorem range_at {n i : Nat} (h : i < n) : (List.range n)[i]? = some i := by simp [h]
theorem ok_unit {M : Md} (T : Tx M) (h : DefAt M "unit" "unit" "unit" s_unit) (f1 : Ct M "Matrix" .mat 3 10 [] pr_minit) : Fn M "unit" 2 12 [] pr_unit := by
  refine fn_intro h sc_unit rfl (fun _ _ _ _ _ _ us hl => match us, hl with | [_, _], _ => rfl) ar_unit fun ds P hp _ => ?_
  obtain ⟨p, n, hp, hn, rfl, k⟩ := hp
  refine dss_one ?_
  refine ds_ret ?_
  refine de_make f1 rfl (Nat.le_of_ble_eq_true rfl) ?_
  refine da_cons ?_
  refine de_var 0 rfl rfl rfl ?_
  refine da_cons ?_
  refine de_df ?_
  refine df_lc (.nm 2) [("i", 2)] (by kernel_rfl) rfl (dg_nm rfl rfl) ?_
  refine di_rng1 rfl T.g_range ?_
  refine de_var 1 rfl rfl rfl ?_
  refine ⟨n, rfl, by omega, by omega, ?_⟩
  refine lcI_map ((MR.unit n).map fun r => D.lst (r.map fun a => D.int (a : Nat))) (by simp [MR.unit, rgD_length]) (by simp [rgD_length]; omega) (fun i d y hd hy => ?_) ?_
  · obtain ⟨hlt, rfl⟩ := rgD_get hd
    have hlt' : i < n := by omega
    have e : (MR.unit n)[i]? = some ((List.range n).map fun j => if i = j then 1 else 0) := map_at (range_at hlt')
    rw [map_at e] at hy
    cases hy
    refine de_df ?_
    refine df_lc (.nm 3) [("j", 3)] (by kernel_rfl) rfl (dg_nm rfl rfl) ?_
    refine di_rng1 rfl T.g_range ?_
    refine de_var 1 rfl rfl rfl ?_
    refine ⟨n, rfl, by omega, by omega, ?_⟩
    refine lcI_map _ (by simp [rgD_length]) (by simp [rgD_length]; omega) (fun j d y hd hy => ?_) rfl
    obtain ⟨hlt2, rfl⟩ := rgD_get hd
    have hlt2' : j < n := by omega
    rw [map_at (map_at (range_at hlt2'))] at hy
    cases hy
    refine de_callTy (T := "int") rfl T.g_int (by decide +kernel) ?_
    refine da_cons ?_
    refine de_cmp (nomark _) ?_
    refine de_var 2 rfl rfl rfl ?_
    refine de_var 3 rfl rfl rfl ?_
    refine opd_eqI ?_
    refine da_nil ?_
    refine cd_intB ?_
    by_cases h : i = j
    · simp [h]
    · have h' : ¬ (0 : Int) + (i : Int) = 0 + (j : Int) := by omega
      simp [h]
      omega
  refine da_cons ?_
  refine de_var 1 rfl rfl rfl ?_
  refine da_nil ?_
  refine ⟨p, _, _, MR.unit n, n, hp, rfl, rfl, ⟨by simp, fun i x r hx hr => ?_⟩, by rw [(unit_sq n).1]; exact hn, by omega, (unit_sq n).2, k⟩
  rw [map_at hr] at hx
  cases hx
  refine ⟨_, rfl, by simp, fun j d a hd ha => ?_⟩
  rw [map_at ha] at hd
  cases hd
  exact .inr ⟨_, rfl, rfl⟩
end SF

-- part M5
set_option maxHeartbeats 4000000
/-! # The program's defs, one by one: rows of numbers brought to steps. -/
namespace SF
open PySem PySem.Spec PyProof.Rows L2 DK

/-! ### places and cuts -/
theorem atI_nat {α : Type} {xs : List α} {i : Nat} {x : α} (h : xs[i]? = some x) : atI xs (i : Int) = some x := by
  have hlt : i < xs.length := (List.getElem?_eq_some_iff.mp h).1
  unfold L2.atI L2.ixN
  rw [if_pos (by omega), if_pos (by omega), Int.toNat_natCast]
  exact h
theorem atI_last {α : Type} {xs : List α} {x : α} (h : xs[xs.length - 1]? = some x) : atI xs (-1 : Int) = some x := by
  have hlt : xs.length - 1 < xs.length := (List.getElem?_eq_some_iff.mp h).1
  unfold L2.atI L2.ixN
  rw [if_neg (by omega), if_pos (by omega), show (-1 + (xs.length : Int)).toNat = xs.length - 1 by omega]
  exact h
theorem cut_to {xs : List D} {k : Nat} : DK.cutD xs none (some (k : Int)) = xs.take k := by
  unfold DK.cutD
  rw [HT.sIx_nat, HT.sIx_none, List.drop_zero, Nat.sub_zero, ← List.take_take, List.take_length]
theorem cut_from {xs : List D} {k : Nat} : DK.cutD xs (some (k : Int)) none = xs.drop k := by
  unfold DK.cutD
  rw [HT.sIx_nat, HT.sIx_none]
  by_cases h : k ≤ xs.length
  · rw [Nat.min_eq_left h, List.take_of_length_le (by rw [List.length_drop]; omega)]
  · rw [Nat.min_eq_right (by omega), List.drop_of_length_le (Nat.le_refl _), List.drop_of_length_le (by omega), List.take_nil]
theorem cut_mid {xs : List D} {a b : Nat} (hab : a ≤ b) (hb : b ≤ xs.length) : DK.cutD xs (some (a : Int)) (some (b : Int)) = (xs.drop a).take (b - a) := by
  unfold DK.cutD
  rw [HT.sIx_nat, HT.sIx_nat, Nat.min_eq_left hb, Nat.min_eq_left (by omega)]
theorem cut_last {xs : List D} : DK.cutD xs none (some (-1)) = xs.dropLast := by
  unfold DK.cutD
  have e : HT.sIx xs.length xs.length (some (-1)) = xs.length - 1 := by
    show (if (-1 : Int) < 0 then (-1 + (xs.length : Int)).toNat else min (-1 : Int).toNat xs.length) = _
    rw [if_pos (by decide)]
    omega
  show (xs.drop 0).take (HT.sIx xs.length xs.length (some (-1)) - 0) = _
  rw [e, List.drop_zero, Nat.sub_zero, List.dropLast_eq_take]
theorem getD_at {α : Type} {xs : List α} {i : Nat} {x d : α} (h : xs[i]? = some x) : xs.getD i d = x := by rw [List.getD_eq_getElem?_getD, h]; rfl
theorem at_of {α : Type} {xs : List α} {i : Nat} (d : α) (h : i < xs.length) : xs[i]? = some (xs.getD i d) := by rw [List.getD_eq_getElem?_getD, List.getElem?_eq_getElem h]; rfl
theorem lastD_at {r : List Nat} (h : 0 < r.length) : r[r.length - 1]? = some (MR.lastD r) := at_of 0 (by omega)

/-! ### less -/
abbrev s_less : Stmt := topS 46
abbrev N_less : List Str := ["row", "own", "column", "factor", "x", "y"]
theorem sc_less : FnScope N_less ["row", "own", "column"] (defScope s_less) := ⟨rfl, rfl, rfl, by decide +kernel, rfl, by decide +kernel, by decide +kernel⟩
def pr_less (ds : List D) (P : D → Prop) : Prop := ∃ (p : Nat) (row own : List Nat) (c : Nat), okp p ∧ ds = [rL p row, rL p own, .int (c : Nat)] ∧ c < row.length ∧ row.length ≤ 100 ∧ P (rL p (MR.less p row own c))
theorem ar_less (ds : List D) (P : D → Prop) (h : pr_less ds P) : ds.length = 3 := by obtain ⟨p, _, _, _, _, rfl, _⟩ := h; rfl
theorem ok_less {M : Md} (T : Tx M) (h : DefAt M "less" "less" "less" s_less) (f2 : Me M .res "is_zero" 1 1 [] pr_rzero) (f3 : Me M .res "__sub__" 2 5 [] (pr_bin (· - ·))) (f4 : Me M .res "__mul__" 2 5 [] (pr_bin (· * ·))) : Fn M "less" 3 6 [] pr_less := by
  refine fn_intro h sc_less rfl (fun _ _ _ _ _ _ us hl => match us, hl with | [_, _, _], _ => rfl) ar_less fun ds P hp _ => ?_
  obtain ⟨p, row, own, c, hp, rfl, hc, hl, k⟩ := hp
  refine dss_cons ?_
  refine ds_set 3 rfl rfl ?_
  refine de_ix (fun _ _ => rfl) ?_
  refine de_var 0 rfl rfl rfl ?_
  refine ⟨_, rfl, ?_⟩
  refine de_var 2 rfl rfl rfl ?_
  refine ⟨c, _, rfl, atI_nat (map_at (at_of 0 hc)), ?_⟩
  unfold MR.less at k
  refine dss_cons ?_
  refine ds_if ?_
  refine dt_val ?_
  refine de_meth0 (T.c4 _) f2 (by decide +kernel) (Nat.le_of_ble_eq_true rfl) ?_ _ (fun _ => rfl)
  refine de_var 3 rfl rfl rfl ?_
  refine ⟨_, rfl, ?_⟩
  refine g_zero ⟨_, rfl, fun h0 => ?_, fun h0 => ?_⟩
  · rw [if_pos (by simpa using h0)] at k
    refine dss_one ?_
    refine ds_ret ?_
    refine de_var 0 rfl rfl rfl ?_
    exact k
  · rw [if_neg (by simpa using h0)] at k
    refine dss_nil ?_
    refine dss_one ?_
    refine ds_ret ?_
    refine de_df ?_
    refine df_lc (.pr 4 5) [("x", 4), ("y", 5)] (by kernel_rfl) rfl (dg_pr rfl rfl rfl rfl) ?_
    refine di_zip rfl T.g_zip ?_
    refine de_var 0 rfl rfl rfl ?_
    refine ⟨_, rfl, ?_⟩
    refine de_var 1 rfl rfl rfl ?_
    refine ⟨_, rfl, ?_⟩
    refine lcI_map _ (by simp [zipD_length]) (by simp [zipD_length]; omega) (fun j d z hd hz => ?_) k
    obtain ⟨x, y, hx, hy, rfl⟩ := zipD_get hd
    obtain ⟨a, ha, rfl⟩ := map_get hx
    obtain ⟨b, hb, rfl⟩ := map_get hy
    rw [map_at (zw_get ha hb)] at hz
    cases hz
    refine ⟨_, _, rfl, ?_⟩
    refine de_op ?_
    refine de_var 4 rfl rfl rfl ?_
    refine de_op ?_
    refine de_var 3 rfl rfl rfl ?_
    refine de_var 5 rfl rfl rfl ?_
    refine opd_own (op := .Mult) (T.c4 _) f4 (by decide +kernel) (Nat.le_of_ble_eq_true rfl) ?_
    refine g_mul hp ?_
    refine opd_own (op := .Sub) (T.c4 _) f3 (by decide +kernel) (Nat.le_of_ble_eq_true rfl) ?_
    exact g_sub hp rfl

/-! ### reduce_rows -/
theorem first_of {α : Type} (q : α → Bool) (d : α) : ∀ l : List α, ((List.range l.length).filter (fun i => q (l.getD i d)) = [] ∧ l.findIdx? q = none) ∨ ∃ i t, (List.range l.length).filter (fun i => q (l.getD i d)) = i :: t ∧ l.findIdx? q = some i ∧ i < l.length
  | [] => .inl ⟨rfl, rfl⟩
  | a :: l => by
    have e : (List.range (a :: l).length).filter (fun i => q ((a :: l).getD i d)) = (if q a then [0] else []) ++ ((List.range l.length).filter (fun i => q (l.getD i d))).map (· + 1) := by
      rw [List.length_cons, List.range_succ_eq_map, List.filter_cons, List.filter_map]
      have : (fun i => q ((a :: l).getD i d)) ∘ Nat.succ = fun i => q (l.getD i d) := rfl
      rw [this]
      show (if q a = true then _ else _) = _
      cases q a <;> rfl
    rw [e, List.findIdx?_cons]
    cases h : q a with
    | true => exact .inr ⟨0, _, rfl, rfl, by simp⟩
    | false =>
      rcases first_of q d l with ⟨h1, h2⟩ | ⟨i, t, h1, h2, h3⟩
      · exact .inl ⟨by rw [h1]; rfl, by rw [h2]; rfl⟩
      · exact .inr ⟨i + 1, t.map (· + 1), by rw [h1]; rfl, by rw [h2]; rfl, by simp; omega⟩
abbrev RSt := List (List Nat) × List (List Nat) × List Nat
/-- the rows keep their width -/
structure RW (w n k : Nat) (s : RSt) : Prop where
  r1 : ∀ r ∈ s.1, r.length = w
  r2 : ∀ r ∈ s.2.1, r.length = w
  l1 : s.1.length ≤ n
  l2 : s.2.1.length ≤ k
  l3 : s.2.2.length = s.2.1.length
theorem less_len {p w c : Nat} {row own : List Nat} (h : row.length = w) (h2 : own.length = w) : (MR.less p row own c).length = w := by
  unfold MR.less
  split
  · exact h
  · rw [List.length_zipWith]; omega
theorem getD_mem {α : Type} {l : List α} {i : Nat} {d : α} (h : i < l.length) : l.getD i d ∈ l := List.mem_of_getElem? (at_of d h)
theorem RW.step {p w n k c : Nat} {s : RSt} (h : RW w n k s) : RW w n (k + 1) (MR.redStep p s c) := by
  unfold MR.redStep
  rcases first_of (fun r => !(r.getD c 0 % p == 0)) [] s.1 with ⟨_, e⟩ | ⟨i, t, _, e, hi⟩
  · rw [e]
    exact ⟨h.r1, h.r2, h.l1, Nat.le_succ_of_le h.l2, h.l3⟩
  · rw [e]
    have ho : (s.1.getD i []).length = w := h.r1 _ (getD_mem hi)
    refine ⟨fun r hr => ?_, fun r hr => ?_, ?_, ?_, ?_⟩
    · obtain ⟨r', hr', rfl⟩ := List.mem_map.mp hr
      refine less_len (h.r1 r' ?_) (by rw [List.length_map]; exact ho)
      rcases List.mem_append.mp hr' with hm | hm
      · exact List.mem_of_mem_take hm
      · exact List.mem_of_mem_drop hm
    · rcases List.mem_append.mp hr with hm | hm
      · obtain ⟨r', hr', rfl⟩ := List.mem_map.mp hm
        exact less_len (h.r2 r' hr') (by rw [List.length_map]; exact ho)
      · rw [List.mem_singleton.mp hm, List.length_map]
        exact ho
    · have := h.l1
      simp
      omega
    · have := h.l2
      simp
      omega
    · have := h.l3
      simp
      omega
theorem RW.fold {p w n : Nat} (cs : List Nat) : ∀ {k : Nat} {s : RSt}, RW w n k s → RW w n (k + cs.length) (cs.foldl (MR.redStep p) s) := by
  induction cs with
  | nil => exact fun h => h
  | cons c cs ih =>
    intro k s h
    have := ih (h.step (p := p) (c := c))
    rw [List.foldl_cons, List.length_cons, show k + (cs.length + 1) = k + 1 + cs.length by omega]
    exact this
theorem RW.init {w n : Nat} {rows : List (List Nat)} (h : ∀ r ∈ rows, r.length = w) (hn : rows.length ≤ n) : RW w n 0 (rows, [], []) := ⟨h, (fun _ h => nomatch h), hn, Nat.le_refl _, rfl⟩
/-- rows of Residues, lists or tuples -/
def RowsAre (p : Nat) (rs : List D) (rows : List (List Nat)) : Prop := rs.length = rows.length ∧ ∀ (i : Nat) x r, rs[i]? = some x → rows[i]? = some r → seqOf x = some (r.map (rn p))
theorem rowsAre_T (p : Nat) (rows : List (List Nat)) : RowsAre p (rows.map (rT p)) rows := ⟨List.length_map .., fun i x r hx hr => by
  rw [map_at hr] at hx
  cases hx
  rfl⟩
theorem rowsAre_L (p : Nat) (rows : List (List Nat)) : RowsAre p (rows.map (rL p)) rows := ⟨List.length_map .., fun i x r hx hr => by
  rw [map_at hr] at hx
  cases hx
  rfl⟩
abbrev s_reduce : Stmt := topS 45
abbrev N_reduce : List Str := ["rows", "width", "rest", "found", "pivots", "column", "places", "own", "head", "left", "row", "i", "x"]
theorem sc_reduce : FnScope N_reduce ["rows", "width"] (defScope s_reduce) := ⟨rfl, rfl, rfl, by decide +kernel, rfl, by decide +kernel, by decide +kernel⟩
def pr_reduce (ds : List D) (P : D → Prop) : Prop := ∃ (p : Nat) (d : D) (rs : List D) (rows : List (List Nat)) (w : Nat), okp p ∧ ds = [d, .int (w : Nat)] ∧ seqOf d = some rs ∧ RowsAre p rs rows ∧ (∀ r ∈ rows, r.length = w) ∧ rows.length ≤ 100 ∧ w ≤ 100 ∧
  P (.tup [.lst ((MR.reduce p rows w).1.map (rL p)), .lst ((MR.reduce p rows w).2.map fun c => .int (c : Nat))])
theorem ar_reduce (ds : List D) (P : D → Prop) (h : pr_reduce ds P) : ds.length = 2 := by obtain ⟨p, _, _, _, _, _, rfl, _⟩ := h; rfl
theorem ok_reduce {M : Md} (T : Tx M) (h : DefAt M "reduce_rows" "reduce_rows" "reduce_rows" s_reduce) (f1 : Fn M "less" 3 6 [] pr_less) (f2 : Me M .res "is_zero" 1 1 [] pr_rzero) (f3 : Me M .res "inverse" 1 5 [] pr_rinv) (f4 : Me M .res "__mul__" 2 5 [] (pr_bin (· * ·))) : Fn M "reduce_rows" 2 7 [] pr_reduce := by
  refine fn_intro h sc_reduce rfl (fun _ _ _ _ _ _ us hl => match us, hl with | [_, _], _ => rfl) ar_reduce fun ds P hp _ => ?_
  obtain ⟨p, d, rs, rows, w, hp, rfl, hd, ⟨hl, hr⟩, hw, hn, hw2, k⟩ := hp
  refine dss_cons ?_
  refine ds_set 2 rfl rfl ?_ (by intro env h; cases env; cases h; rfl)
  refine de_df ?_
  refine df_lc (.nm 10) [("row", 10)] (by kernel_rfl) rfl (dg_nm rfl rfl) ?_
  refine di_seq hd (de_var 0 rfl rfl rfl rfl) ?_
  refine lcI_map (rows.map (rL p)) (by simp [hl]) (by omega) (fun i x y hx hy => ?_) ?_
  · obtain ⟨r, hr1, rfl⟩ := map_get hy
    refine de_df ?_
    refine df_list rfl T.g_list (by decide +kernel) ?_
    refine de_var 10 rfl rfl rfl ?_
    exact ⟨_, hr i x r hx hr1, rfl⟩
  refine dss_cons ?_
  refine ds_set 3 rfl rfl ?_
  refine de_df ?_
  refine df_lst ?_
  refine da_nil ?_
  refine ⟨by simp, ?_⟩
  refine dss_cons ?_
  refine ds_setG 4 rfl rfl ?_
  refine df_lst ?_
  refine da_nil ?_
  refine ⟨by simp, ?_⟩
  refine dss_cons ?_
  refine ds_for (.nm 5) (dg_nm rfl rfl) ?_
  refine di_rng1 rfl T.g_range ?_
  refine de_var 1 rfl rfl rfl ?_
  refine ⟨w, rfl, by omega, by omega, ?_⟩
  refine ⟨fun i Γ => ∃ s e5 e6 e7 e8 e9, RW w rows.length i s ∧ s = (List.range i).foldl (MR.redStep p) (rows, [], []) ∧
    Γ = [some (.dat d), some (.dat (.int (w : Nat))), some (.dat (.lst (s.1.map (rL p)))), some (.dat (.lst (s.2.1.map (rL p)))), some (.grw (s.2.2.map fun c => .int (c : Nat))), e5, e6, e7, e8, e9, none, none, none],
    ⟨(rows, [], []), none, none, none, none, none, .init hw (Nat.le_refl _), rfl, rfl⟩, ?_, ?_⟩
  · rintro c x Γ hi ⟨s, e5, e6, e7, e8, e9, rw_, hs, rfl⟩
    obtain ⟨hlt, rfl⟩ := rgD_get hi
    have hcw : c < w := by omega
    have hs' : (List.range (c + 1)).foldl (MR.redStep p) (rows, [], []) = MR.redStep p s c := by rw [List.range_succ, List.foldl_append, ← hs]; rfl
    have rw2 : RW w rows.length (c + 1) (MR.redStep p s c) := rw_.step
    have hcz : (0 : Int) + (c : Int) = (c : Int) := by omega
    rw [hcz]
    have hl1 := rw_.l1
    refine dss_cons ?_
    refine ds_setLc 6 (.nm 11) [("i", 11)] rfl rfl (by intro env h; cases env; cases h; rfl) (by kernel_rfl) rfl (dg_nm rfl rfl) ?_
    refine di_rng1 rfl T.g_range ?_
    refine de_callB rfl T.g_len PySem.boot_len (da_cons ?_)
    refine de_var 2 rfl rfl rfl ?_
    refine da_nil (cd_len rfl ?_)
    refine ⟨_, rfl, by omega, by simp; omega, ?_⟩
    refine lcI_filt (fun i => !((s.1.getD i []).getD c 0 % p == 0)) (fun i => .int (i : Nat)) (by simp [rgD_length]; omega) (fun i y hy => ?_) ?_
    · obtain ⟨hlt, rfl⟩ := rgD_get hy
      have hlt' : i < s.1.length := by simpa using hlt
      have hri : (s.1.getD i []).length = w := rw_.r1 _ (getD_mem hlt')
      refine dps_one ?_
      refine dt_not ?_
      refine dt_val ?_
      refine de_meth0 (T.c4 _) f2 (by decide +kernel) (Nat.le_of_ble_eq_true rfl) ?_ _ (fun _ => rfl)
      refine de_ix (fun _ _ => rfl) ?_
      refine de_ix (fun _ _ => rfl) ?_
      refine de_var 2 rfl rfl rfl ?_
      refine ⟨_, rfl, ?_⟩
      refine de_var 11 rfl rfl rfl ?_
      refine ⟨((i : Nat) : Int), _, by simp, atI_nat (map_at (at_of [] hlt')), ?_⟩
      refine ⟨_, rfl, ?_⟩
      refine de_var 5 rfl rfl rfl ?_
      refine ⟨((c : Nat) : Int), _, rfl, atI_nat (map_at (at_of 0 (by rw [hri]; exact hcw))), ?_⟩
      refine ⟨_, rfl, g_zero ⟨_, rfl, ?_, fun _ => ?_⟩⟩
      · congr 1
      · refine de_var 11 rfl rfl rfl ?_
        simp
    rw [rgD_length, List.length_map, Int.toNat_natCast]
    rcases first_of (fun r => !(r.getD c 0 % p == 0)) [] s.1 with ⟨e1, e2⟩ | ⟨i, t, e1, e2, hi⟩
    · rw [e1]
      have es : MR.redStep p s c = s := by unfold MR.redStep; rw [e2]
      refine dss_one ?_
      refine ds_if ?_
      refine dt_cmp (nomark _) ?_
      refine de_callB rfl T.g_len PySem.boot_len (da_cons ?_)
      refine de_var 6 rfl rfl rfl ?_
      refine da_nil (cd_len rfl ?_)
      refine de_int ?_
      refine opd_gt ?_
      refine ⟨_, rfl, no_true (by simp), fun _ => ?_⟩
      refine dss_nil ?_
      exact ⟨s, _, _, _, _, _, es ▸ rw2, by rw [hs', es], rfl⟩
    · rw [e1]
      have ho : (s.1.getD i []).length = w := rw_.r1 _ (getD_mem hi)
      have hq : ¬ (s.1.getD i []).getD c 0 % p = 0 := by
        have hm : i ∈ (List.range s.1.length).filter fun i => !((s.1.getD i []).getD c 0 % p == 0) := by rw [e1]; exact List.mem_cons_self ..
        simpa using (List.mem_filter.mp hm).2
      have es : MR.redStep p s c = (((s.1.take i ++ s.1.drop (i + 1)).map fun r => MR.less p r ((s.1.getD i []).map fun x => MR.fmul p ((s.1.getD i []).getD c 0) x) c), ((s.2.1.map fun r => MR.less p r ((s.1.getD i []).map fun x => MR.fmul p ((s.1.getD i []).getD c 0) x) c) ++ [(s.1.getD i []).map fun x => MR.fmul p ((s.1.getD i []).getD c 0) x]), s.2.2 ++ [c]) := by unfold MR.redStep; rw [e2]
      have hl2 := rw_.l2
      have hl3 := rw_.l3
      refine dss_one ?_
      refine ds_if ?_
      refine dt_cmp (nomark _) ?_
      refine de_callB rfl T.g_len PySem.boot_len (da_cons ?_)
      refine de_var 6 rfl rfl rfl ?_
      refine da_nil (cd_len rfl ?_)
      refine de_int ?_
      refine opd_gt ?_
      refine ⟨_, rfl, fun _ => ?_, no_false (by simp)⟩
      refine dss_cons ?_
      refine ds_set 7 rfl rfl ?_
      refine de_ix (fun _ _ => rfl) ?_
      refine de_var 2 rfl rfl rfl ?_
      refine ⟨_, rfl, ?_⟩
      refine de_ix (fun _ _ => rfl) ?_
      refine de_var 6 rfl rfl rfl ?_
      refine ⟨_, rfl, ?_⟩
      refine de_int ?_
      refine ⟨0, _, rfl, atI_nat (i := 0) rfl, (i : Int), _, rfl, atI_nat (map_at (at_of [] hi)), ?_⟩
      refine dss_cons ?_
      refine ds_set 8 rfl rfl ?_
      refine de_meth0 (T.c4 _) f3 (by decide +kernel) (Nat.le_of_ble_eq_true rfl) ?_ _ (fun _ => rfl)
      refine de_ix (fun _ _ => rfl) ?_
      refine de_var 7 rfl rfl rfl ?_
      refine ⟨_, rfl, ?_⟩
      refine de_var 5 rfl rfl rfl ?_
      refine ⟨(c : Int), _, rfl, atI_nat (map_at (at_of 0 (by rw [ho]; exact hcw))), _, rfl, g_inv hp hq ?_⟩
      refine dss_cons ?_
      refine ds_set 7 rfl rfl ?_ (by intro env h; cases env; cases h; rfl)
      refine de_df ?_
      refine df_lc (.nm 12) [("x", 12)] (by kernel_rfl) rfl (dg_nm rfl rfl) ?_
      refine di_lst ?_
      refine de_var 7 rfl rfl rfl ?_
      refine ⟨_, rfl, ?_⟩
      refine lcI_map (((s.1.getD i []).map fun x => MR.fmul p ((s.1.getD i []).getD c 0) x).map (rn p)) (by simp) (by rw [List.length_map, ho]; omega) (fun j y z hy hz => ?_) ?_
      · obtain ⟨a, ha, rfl⟩ := map_get hy
        rw [map_at (map_at ha)] at hz
        cases hz
        refine de_op ?_
        refine de_var 8 rfl rfl rfl ?_
        refine de_var 12 rfl rfl rfl ?_
        refine opd_own (op := .Mult) (T.c4 _) f4 (by decide +kernel) (Nat.le_of_ble_eq_true rfl) ?_
        exact g_mul hp rfl
      refine dss_cons ?_
      refine ds_set 9 rfl rfl ?_
      refine de_op ?_
      refine de_df ?_
      refine df_slice ?_
      refine de_var 2 rfl rfl rfl ?_
      refine ⟨_, rfl, ?_⟩
      refine do_none ?_
      refine do_some ?_
      refine de_ix (fun _ _ => rfl) ?_
      refine de_var 6 rfl rfl rfl ?_
      refine ⟨_, rfl, ?_⟩
      refine de_int ?_
      refine ⟨0, _, rfl, atI_nat (i := 0) rfl, (i : Int), rfl, ?_⟩
      refine de_df ?_
      refine df_slice ?_
      refine de_var 2 rfl rfl rfl ?_
      refine ⟨_, rfl, ?_⟩
      refine do_some ?_
      refine de_op ?_
      refine de_ix (fun _ _ => rfl) ?_
      refine de_var 6 rfl rfl rfl ?_
      refine ⟨_, rfl, ?_⟩
      refine de_int ?_
      refine ⟨0, _, rfl, atI_nat (i := 0) rfl, ?_⟩
      refine de_int ?_
      refine opd_add ?_
      refine ⟨((i + 1 : Nat) : Int), rfl, ?_⟩
      refine do_none ?_
      rw [cut_to, cut_from]
      refine opd_cat (by simp; omega) ?_
      rw [← List.map_take, ← List.map_drop, ← List.map_append]
      refine dss_cons ?_
      refine ds_set 2 rfl rfl ?_ (by intro env h; cases env; cases h; rfl)
      refine de_df ?_
      refine df_lc (.nm 10) [("row", 10)] (by kernel_rfl) rfl (dg_nm rfl rfl) ?_
      refine di_lst ?_
      refine de_var 9 rfl rfl rfl ?_
      refine ⟨_, rfl, ?_⟩
      refine lcI_map (((s.1.take i ++ s.1.drop (i + 1)).map fun r => MR.less p r ((s.1.getD i []).map fun x => MR.fmul p ((s.1.getD i []).getD c 0) x) c).map (rL p)) (by simp) (by simp; omega) (fun j y z hy hz => ?_) ?_
      · obtain ⟨r, hr, rfl⟩ := map_get hy
        rw [map_at (map_at hr)] at hz
        cases hz
        have hrl : r.length = w := by
          refine rw_.r1 r ?_
          rcases List.mem_append.mp (List.mem_of_getElem? hr) with hm | hm
          · exact List.mem_of_mem_take hm
          · exact List.mem_of_mem_drop hm
        refine de_call f1 rfl (Nat.le_of_ble_eq_true rfl) ?_
        refine da_cons ?_
        refine de_var 10 rfl rfl rfl ?_
        refine da_cons ?_
        refine de_var 7 rfl rfl rfl ?_
        refine da_cons ?_
        refine de_var 5 rfl rfl rfl ?_
        refine da_nil ?_
        exact ⟨p, _, _, c, hp, rfl, by omega, by omega, rfl⟩
      refine dss_cons ?_
      refine ds_set 3 rfl rfl ?_
      refine de_op ?_
      refine de_df ?_
      refine df_lc (.nm 10) [("row", 10)] (by kernel_rfl) rfl (dg_nm rfl rfl) ?_
      refine di_lst ?_
      refine de_var 3 rfl rfl rfl ?_
      refine ⟨_, rfl, ?_⟩
      refine lcI_map ((s.2.1.map fun r => MR.less p r ((s.1.getD i []).map fun x => MR.fmul p ((s.1.getD i []).getD c 0) x) c).map (rL p)) (by simp) (by simp; omega) (fun j y z hy hz => ?_) ?_
      · obtain ⟨r, hr, rfl⟩ := map_get hy
        rw [map_at (map_at hr)] at hz
        cases hz
        have hrl : r.length = w := rw_.r2 r (List.mem_of_getElem? hr)
        refine de_call f1 rfl (Nat.le_of_ble_eq_true rfl) ?_
        refine da_cons ?_
        refine de_var 10 rfl rfl rfl ?_
        refine da_cons ?_
        refine de_var 7 rfl rfl rfl ?_
        refine da_cons ?_
        refine de_var 5 rfl rfl rfl ?_
        refine da_nil ?_
        exact ⟨p, _, _, c, hp, rfl, by omega, by omega, rfl⟩
      refine de_df ?_
      refine df_lst ?_
      refine da_cons ?_
      refine de_var 7 rfl rfl rfl ?_
      refine da_nil ?_
      refine ⟨by simp, ?_⟩
      refine opd_cat (by simp; omega) ?_
      refine dss_one ?_
      refine ds_app 4 rfl rfl rfl (by simp <;> omega) ?_
      refine de_var 5 rfl rfl rfl ?_
      refine ⟨MR.redStep p s c, ?_, ?_, ?_, ?_, ?_, rw2, hs'.symm, ?_⟩
      rotate_left 5
      rw [es]
      simp only [List.map_append]
      rfl
  · rintro Γ ⟨s, e5, e6, e7, e8, e9, rw_, hs, rfl⟩
    rw [rgD_length, Int.toNat_natCast] at hs
    refine ds_freeze 4 rfl ?_
    refine dss_one ?_
    refine ds_ret ?_
    refine de_tup ?_
    refine da_cons ?_
    refine de_var 3 rfl rfl rfl ?_
    refine da_cons ?_
    refine de_var 4 rfl rfl rfl ?_
    refine da_nil ?_
    refine ⟨by simp, ?_⟩
    unfold MR.reduce at k
    rw [← hs] at k
    exact k
end SF

-- part M6
set_option maxHeartbeats 4000000
/-! # The program's defs, one by one: kernels, solutions. -/
namespace SF
open PySem PySem.Spec PyProof.Rows L2 DK

theorem wide_at {h i : Nat} {rows : List (List Nat)} {r : List Nat} (hr : rows[i]? = some r) : (MR.wide h rows)[i]? = some (r ++ (List.range h).map fun j => if i = j then 1 else 0) := by
  unfold MR.wide
  rw [List.getElem?_map, List.getElem?_zipIdx, hr]
  simp
theorem wide_len (h : Nat) (rows : List (List Nat)) : (MR.wide h rows).length = rows.length := by simp [MR.wide]
theorem wide_w {h w : Nat} {rows : List (List Nat)} (hw : ∀ r ∈ rows, r.length = w) : ∀ r ∈ MR.wide h rows, r.length = w + h := fun r hr => by
  obtain ⟨i, hi⟩ := List.mem_iff_getElem?.mp hr
  have hlt : i < rows.length := by rw [← wide_len h rows]; exact (List.getElem?_eq_some_iff.mp hi).1
  rw [wide_at (List.getElem?_eq_getElem hlt)] at hi
  cases hi
  rw [List.length_append, hw _ (List.getElem_mem hlt)]
  simp
theorem zip_filt {α β γ : Type} (q : β → Bool) (g : α → γ) (d : α) (e : β) : ∀ (xs : List α) (ys : List β), xs.length = ys.length →
    ((List.range xs.length).filter (fun k => q (ys.getD k e))).map (fun k => g (xs.getD k d)) = ((xs.zip ys).filter (fun z => q z.2)).map (fun z => g z.1)
  | [], [], _ => rfl
  | x :: xs, y :: ys, h => by
    have ih := zip_filt q g d e xs ys (by simpa using h)
    rw [List.length_cons, List.range_succ_eq_map, List.filter_cons, List.filter_map, List.zip_cons_cons, List.filter_cons]
    have e1 : (fun k => q ((y :: ys).getD k e)) ∘ Nat.succ = fun k => q (ys.getD k e) := rfl
    rw [e1]
    show List.map _ (if q y = true then _ else _) = List.map _ (if q y = true then _ else _)
    have e2 : List.map (fun k => g ((x :: xs).getD k d)) (List.map Nat.succ (List.filter (fun k => q (ys.getD k e)) (List.range xs.length))) = List.map (fun z => g z.1) (List.filter (fun z => q z.2) (xs.zip ys)) := by
      rw [List.map_map, ← ih]
      rfl
    cases q y with
    | true =>
      simp only [if_true, List.map_cons]
      rw [e2]
      rfl
    | false =>
      simp only [Bool.false_eq_true, if_false]
      exact e2
theorem reduce_rw {p w : Nat} {rows : List (List Nat)} (h : ∀ r ∈ rows, r.length = w) : RW w rows.length w ((List.range w).foldl (MR.redStep p) (rows, [], [])) := by
  have := (RW.init h (Nat.le_refl _)).fold (p := p) (List.range w)
  rw [List.length_range, Nat.zero_add] at this
  exact this
theorem reduce_w {p w : Nat} {rows : List (List Nat)} (h : ∀ r ∈ rows, r.length = w) : ∀ r ∈ (MR.reduce p rows w).1, r.length = w := (reduce_rw h).r2
theorem reduce_n {p w : Nat} {rows : List (List Nat)} (h : ∀ r ∈ rows, r.length = w) : (MR.reduce p rows w).1.length ≤ w := (reduce_rw h).l2
theorem reduce_2 {p w : Nat} {rows : List (List Nat)} (h : ∀ r ∈ rows, r.length = w) : (MR.reduce p rows w).2.length = (MR.reduce p rows w).1.length := (reduce_rw h).l3
theorem kernel_w {p w : Nat} {rows : List (List Nat)} (h : ∀ r ∈ rows, r.length = w) : ∀ r ∈ MR.kernel p rows w, r.length = rows.length := fun r hr => by
  obtain ⟨q, hq, rfl⟩ := List.mem_map.mp hr
  have e := reduce_w (wide_w h) q.1 (List.of_mem_zip (List.mem_filter.mp hq).1).1
  rw [List.length_drop, e]
  omega
theorem kernel_n {p w : Nat} {rows : List (List Nat)} (h : ∀ r ∈ rows, r.length = w) : (MR.kernel p rows w).length ≤ w + rows.length := by
  have e := reduce_n (p := p) (wide_w (h := rows.length) h)
  unfold MR.kernel
  rw [List.length_map]
  refine Nat.le_trans (List.length_filter_le _ _) ?_
  rw [List.length_zip]
  omega
abbrev s_kernel : Stmt := topS 47
abbrev N_kernel : List Str := ["ground", "rows", "width", "height", "wide", "i", "found", "pivots", "j", "k"]
theorem sc_kernel : FnScope N_kernel ["ground", "rows", "width"] (defScope s_kernel) := ⟨rfl, rfl, rfl, by decide +kernel, rfl, by decide +kernel, by decide +kernel⟩
def pr_kernel (ds : List D) (P : D → Prop) : Prop := ∃ (p : Nat) (d : D) (rs : List D) (rows : List (List Nat)) (w : Nat), okp p ∧ ds = [gr p, d, .int (w : Nat)] ∧ seqOf d = some rs ∧ RowsAre p rs rows ∧ (∀ r ∈ rows, r.length = w) ∧ rows.length ≤ 40 ∧ w ≤ 40 ∧ P (.lst ((MR.kernel p rows w).map (rL p)))
theorem ar_kernel (ds : List D) (P : D → Prop) (h : pr_kernel ds P) : ds.length = 3 := by obtain ⟨p, _, _, _, _, _, rfl, _⟩ := h; rfl
theorem ok_kernel {M : Md} (T : Tx M) (h : DefAt M "kernel_rows" "kernel_rows" "kernel_rows" s_kernel) (f1 : Fn M "reduce_rows" 2 7 [] pr_reduce) (f2 : Me M .gr "number" 3 7 [.int 1] pr_gnum) : Fn M "kernel_rows" 3 8 [] pr_kernel := by
  refine fn_intro h sc_kernel rfl (fun _ _ _ _ _ _ us hl => match us, hl with | [_, _, _], _ => rfl) ar_kernel fun ds P hp _ => ?_
  obtain ⟨p, d, rs, rows, w, hp, rfl, hd, ⟨hl, hr⟩, hw, hn, hw2, k⟩ := hp
  refine dss_cons ?_
  refine ds_set 3 rfl rfl ?_
  refine de_callB rfl T.g_len PySem.boot_len (da_cons ?_)
  refine de_var 1 rfl rfl rfl ?_
  refine da_nil (cd_len hd ?_)
  refine dss_cons ?_
  refine ds_setG 4 rfl rfl ?_
  refine df_lst ?_
  refine da_nil ?_
  refine ⟨by simp, ?_⟩
  refine dss_cons ?_
  refine ds_for (.nm 5) (dg_nm rfl rfl) ?_
  refine di_rng1 rfl T.g_range ?_
  refine de_var 3 rfl rfl rfl ?_
  refine ⟨(rs.length : Nat), rfl, by omega, by omega, ?_⟩
  refine ⟨fun i Γ => ∃ e5, Γ = [some (.dat (gr p)), some (.dat d), some (.dat (.int (w : Nat))), some (.dat (.int (rs.length : Nat))), some (.grw (((MR.wide rows.length rows).take i).map (rL p))), e5, none, none, none, none], ⟨none, rfl⟩, ?_, ?_⟩
  · rintro i x Γ hi ⟨e5, rfl⟩
    obtain ⟨hlt, rfl⟩ := rgD_get hi
    have hlt1 : i < rs.length := by omega
    have hlt2 : i < rows.length := by omega
    have hri := hw rows[i] (List.getElem_mem hlt2)
    have hlw : i < (MR.wide rows.length rows).length := by rw [wide_len]; exact hlt2
    refine dss_one ?_
    refine ds_app 4 rfl rfl rfl (by rw [List.length_map, List.length_take]; omega) ?_
    refine de_op ?_
    refine de_df ?_
    refine df_list rfl T.g_list (by decide +kernel) ?_
    refine de_ix (fun _ _ => rfl) ?_
    refine de_var 1 rfl rfl rfl ?_
    refine ⟨_, hd, ?_⟩
    refine de_var 5 rfl rfl rfl ?_
    refine ⟨((i : Nat) : Int), _, by simp, atI_nat (List.getElem?_eq_getElem hlt1), _, hr i _ _ (List.getElem?_eq_getElem hlt1) (List.getElem?_eq_getElem hlt2), ?_⟩
    refine de_df ?_
    refine df_lc (.nm 8) [("j", 8)] (by kernel_rfl) rfl (dg_nm rfl rfl) ?_
    refine di_rng1 rfl T.g_range ?_
    refine de_var 3 rfl rfl rfl ?_
    refine ⟨(rs.length : Nat), rfl, by omega, by omega, ?_⟩
    refine lcI_map (((List.range rows.length).map fun j => if i = j then 1 else 0).map (rn p)) (by simp [rgD_length, hl]) (by simp [rgD_length]; omega) (fun j y z hy hz => ?_) ?_
    · obtain ⟨hlt3, rfl⟩ := rgD_get hy
      have hlt3' : j < rows.length := by omega
      rw [map_at (map_at (range_at hlt3'))] at hz
      cases hz
      refine de_meth (T.c4 _) f2 (by decide +kernel) (Nat.le_of_ble_eq_true rfl) ?_ _ (fun _ => rfl)
      refine de_var 0 rfl rfl rfl ?_
      refine ⟨_, rfl, ?_⟩
      refine da_cons ?_
      refine de_callTy (T := "int") rfl T.g_int (by decide +kernel) ?_
      refine da_cons ?_
      refine de_cmp (nomark _) ?_
      refine de_var 5 rfl rfl rfl ?_
      refine de_var 8 rfl rfl rfl ?_
      refine opd_eqI ?_
      refine da_nil ?_
      refine cd_intB ?_
      refine da_nil ?_
      refine ⟨p, _, hp, rfl, ?_⟩
      by_cases h : i = j
      · simp [h]
        rfl
      · have h' : ¬ (0 : Int) + (i : Int) = 0 + (j : Int) := by omega
        simp only [h, h', decide_false, Bool.false_eq_true, if_false]
        rfl
    refine opd_cat (by simp; omega) ?_
    refine ⟨some (.dat (.int (0 + (i : Int)))), ?_⟩
    rw [take_snoc hlw, List.map_append]
    have e : (MR.wide rows.length rows)[i] = rows[i] ++ (List.range rows.length).map fun j => if i = j then 1 else 0 := by
      have := wide_at (h := rows.length) (List.getElem?_eq_getElem hlt2)
      rw [List.getElem?_eq_getElem hlw] at this
      exact Option.some.inj this
    rw [e, List.map_cons, List.map_nil, ← List.map_append]
    rfl
  · rintro Γ ⟨e5, rfl⟩
    have et : (MR.wide rows.length rows).take rows.length = MR.wide rows.length rows := List.take_of_length_le (by rw [wide_len]; exact Nat.le_refl _)
    rw [rgD_length, Int.toNat_natCast, hl, et]
    have ew := wide_len rows.length rows
    have hR := wide_w (h := rows.length) hw
    have hR1 := reduce_w (p := p) hR
    have hR2 := reduce_n (p := p) hR
    have hR3 := reduce_2 (p := p) hR
    refine ds_freeze 4 rfl ?_
    refine dss_cons ?_
    refine ds_unp (.pr 6 7) (dg_pr rfl rfl rfl rfl) ?_
    refine de_call f1 rfl (Nat.le_of_ble_eq_true rfl) ?_
    refine da_cons ?_
    refine de_var 4 rfl rfl rfl ?_
    refine da_cons ?_
    refine de_op ?_
    refine de_var 2 rfl rfl rfl ?_
    refine de_var 3 rfl rfl rfl ?_
    refine opd_add ?_
    refine da_nil ?_
    refine ⟨p, .lst ((MR.wide rows.length rows).map (rL p)), _, MR.wide rows.length rows, w + rows.length, hp, by rw [Int.natCast_add]; rfl, rfl, rowsAre_L p _, hR, by omega, by omega, ?_⟩
    refine ⟨_, _, rfl, ?_⟩
    refine dss_one ?_
    refine ds_ret ?_
    refine de_df ?_
    refine df_lc (.nm 9) [("k", 9)] (by kernel_rfl) rfl (dg_nm rfl rfl) ?_
    refine di_rng1 rfl T.g_range ?_
    refine de_callB rfl T.g_len PySem.boot_len (da_cons ?_)
    refine de_var 6 rfl rfl rfl ?_
    refine da_nil (cd_len rfl ?_)
    refine ⟨_, rfl, by omega, by simp; omega, ?_⟩
    refine lcI_filt (fun k => decide (w ≤ (MR.reduce p (MR.wide rows.length rows) (w + rows.length)).2.getD k 0)) (fun k => rL p (((MR.reduce p (MR.wide rows.length rows) (w + rows.length)).1.getD k []).drop w)) (by simp [rgD_length]; omega) (fun i y hy => ?_) ?_
    · obtain ⟨hlt, rfl⟩ := rgD_get hy
      have hlt1 : i < (MR.reduce p (MR.wide rows.length rows) (w + rows.length)).1.length := by simpa using hlt
      refine dps_one ?_
      refine dt_cmp (nomark _) ?_
      refine de_ix (fun _ _ => rfl) ?_
      refine de_var 7 rfl rfl rfl ?_
      refine ⟨_, rfl, ?_⟩
      refine de_var 9 rfl rfl rfl ?_
      refine ⟨((i : Nat) : Int), _, by simp, atI_nat (map_at (at_of 0 (by omega))), ?_⟩
      refine de_var 2 rfl rfl rfl ?_
      refine opd_ge ?_
      refine ⟨_, rfl, ?_, fun _ => ?_⟩
      · exact decide_eq_decide.mpr (by omega)
      · refine de_df ?_
        refine df_slice ?_
        refine de_ix (fun _ _ => rfl) ?_
        refine de_var 6 rfl rfl rfl ?_
        refine ⟨_, rfl, ?_⟩
        refine de_var 9 rfl rfl rfl ?_
        refine ⟨((i : Nat) : Int), _, by simp, atI_nat (map_at (at_of [] hlt1)), _, rfl, ?_⟩
        refine do_some ?_
        refine de_var 2 rfl rfl rfl ?_
        refine ⟨(w : Nat), rfl, ?_⟩
        refine do_none ?_
        rw [cut_from, ← List.map_drop]
    · rw [rgD_length, List.length_map, Int.toNat_natCast]
      have e := zip_filt (fun c => decide (w ≤ c)) (fun r => rL p (r.drop w)) [] 0 (MR.reduce p (MR.wide rows.length rows) (w + rows.length)).1 (MR.reduce p (MR.wide rows.length rows) (w + rows.length)).2 hR3.symm
      rw [e]
      have e2 : (MR.kernel p rows w).map (rL p) = List.map (fun z => rL p (z.1.drop w)) (List.filter (fun z => decide (w ≤ z.2)) ((MR.reduce p (MR.wide rows.length rows) (w + rows.length)).1.zip (MR.reduce p (MR.wide rows.length rows) (w + rows.length)).2)) := by
        unfold MR.kernel
        rw [List.map_map]
        rfl
      rw [← e2]
      exact k

/-! ### solve -/
theorem first_drop {p : Nat} {K : List (List Nat)} {i : Nat} (h : i < K.length) : MR.firstSol p (K.drop i) = if MR.lastD K[i] % p = 0 then MR.firstSol p (K.drop (i + 1)) else some (K[i].dropLast.map fun x => MR.fmul p x (MR.lastD K[i])) := by
  rw [List.drop_eq_getElem_cons h]
  rfl
abbrev s_solve : Stmt := topS 48
abbrev N_solve : List Str := ["m", "w", "rows", "row", "x"]
theorem sc_solve : FnScope N_solve ["m", "w"] (defScope s_solve) := ⟨rfl, rfl, rfl, by decide +kernel, rfl, by decide +kernel, by decide +kernel⟩
def optT (p : Nat) : Option (List Nat) → D
  | none => .non
  | some s => rT p s
def pr_solve (ds : List D) (P : D → Prop) : Prop := ∃ (p n : Nat) (rows : List (List Nat)) (w : List Nat), okp p ∧ ds = [matD p rows n, rT p w] ∧ (∀ r ∈ rows, r.length = n) ∧ w.length = n ∧ rows.length ≤ 8 ∧ n ≤ 8 ∧ P (optT p (MR.solve p rows n w))
theorem ar_solve (ds : List D) (P : D → Prop) (h : pr_solve ds P) : ds.length = 2 := by obtain ⟨p, _, _, _, _, rfl, _⟩ := h; rfl
theorem ok_solve {M : Md} (T : Tx M) (h : DefAt M "solve" "solve" "solve" s_solve) (f1 : Fn M "kernel_rows" 3 8 [] pr_kernel) (f2 : Me M .res "is_zero" 1 1 [] pr_rzero) (f3 : Me M .res "over" 2 6 [] pr_rover) (f4 : Me M .res "__neg__" 1 5 [] pr_rneg) : Fn M "solve" 2 9 [] pr_solve := by
  refine fn_intro h sc_solve rfl (fun _ _ _ _ _ _ us hl => match us, hl with | [_, _], _ => rfl) ar_solve fun ds P hp _ => ?_
  obtain ⟨p, n, rows, w, hp, rfl, hr, hw, hn, hn2, k⟩ := hp
  refine dss_cons ?_
  refine ds_if ?_
  refine dt_cmp (nomark _) ?_
  refine de_callB rfl T.g_len PySem.boot_len (da_cons ?_)
  refine de_var 1 rfl rfl rfl ?_
  refine da_nil (cd_len rfl ?_)
  refine de_fldA T.c4 2 ?_
  refine de_var 0 rfl rfl rfl ?_
  refine ⟨_, _, _, rfl, rfl, rfl, ?_⟩
  refine opd_neI ?_
  refine ⟨_, rfl, no_true (by simp [hw]), fun _ => ?_⟩
  refine dss_nil ?_
  refine dss_cons ?_
  refine ds_set 2 rfl rfl ?_
  refine de_op ?_
  refine de_df ?_
  refine df_list rfl T.g_list (by decide +kernel) ?_
  refine de_fldA T.c4 1 ?_
  refine de_var 0 rfl rfl rfl ?_
  refine ⟨_, _, _, rfl, rfl, rfl, ?_⟩
  refine ⟨_, rfl, ?_⟩
  refine de_df ?_
  refine df_lst ?_
  refine da_cons ?_
  refine de_callTy (T := "tuple") rfl T.g_tuple (by decide +kernel) ?_
  refine da_cons ?_
  refine de_df ?_
  refine df_lc (.nm 4) [("x", 4)] (by kernel_rfl) rfl (dg_nm rfl rfl) ?_
  refine di_tup ?_
  refine de_var 1 rfl rfl rfl ?_
  refine ⟨_, rfl, ?_⟩
  refine lcI_map ((w.map (MR.fneg p)).map (rn p)) (by simp) (by simp; omega) (fun j y z hy hz => ?_) ?_
  · obtain ⟨a, ha, rfl⟩ := map_get hy
    rw [map_at (map_at ha)] at hz
    cases hz
    refine de_un ?_
    refine de_var 4 rfl rfl rfl ?_
    refine und_neg (T.c4 _) f4 (Nat.le_of_ble_eq_true rfl) ?_
    exact g_neg hp rfl
  refine da_nil ?_
  refine cd_tupL ?_
  refine da_nil ?_
  refine ⟨by simp, ?_⟩
  refine opd_cat (by simp; omega) ?_
  have e : rows.map (rT p) ++ [D.tup ((w.map (MR.fneg p)).map (rn p))] = (rows ++ [w.map (MR.fneg p)]).map (rT p) := by rw [List.map_append]; rfl
  rw [e]
  have hr2 : ∀ r ∈ rows ++ [w.map (MR.fneg p)], r.length = n := fun r hm => by
    rcases List.mem_append.mp hm with hm | hm
    · exact hr r hm
    · rw [List.mem_singleton.mp hm, List.length_map, hw]
  have hkw := kernel_w (p := p) hr2
  have hkn := kernel_n (p := p) hr2
  have hkl : (rows ++ [w.map (MR.fneg p)]).length = rows.length + 1 := by simp
  unfold MR.solve at k
  generalize hK : MR.kernel p (rows ++ [w.map (MR.fneg p)]) n = K at k hkw hkn
  refine dss_cons ?_
  refine ds_for (.nm 3) (dg_nm rfl rfl) ?_
  refine di_lst ?_
  refine de_call f1 rfl (Nat.le_of_ble_eq_true rfl) ?_
  refine da_cons ?_
  refine de_fldA T.c4 0 ?_
  refine de_var 0 rfl rfl rfl ?_
  refine ⟨_, _, _, rfl, rfl, rfl, ?_⟩
  refine da_cons ?_
  refine de_var 2 rfl rfl rfl ?_
  refine da_cons ?_
  refine de_fldA T.c4 2 ?_
  refine de_var 0 rfl rfl rfl ?_
  refine ⟨_, _, _, rfl, rfl, rfl, ?_⟩
  refine da_nil ?_
  refine ⟨p, _, _, _, n, hp, rfl, rfl, rowsAre_T p _, hr2, by omega, by omega, _, rfl, ?_⟩
  rw [hK]
  have nil_ : MR.firstSol p (K.drop K.length) = none := by rw [List.drop_length]; rfl
  refine ⟨fun i Γ => ∃ e3, Γ = [some (.dat (matD p rows n)), some (.dat (rT p w)), some (.dat (.lst ((rows ++ [w.map (MR.fneg p)]).map (rT p)))), e3, none] ∧ MR.firstSol p K = MR.firstSol p (K.drop i), ⟨none, rfl, rfl⟩, ?_, ?_⟩
  · rintro i x Γ hi ⟨e3, rfl, hf⟩
    obtain ⟨r, hri, rfl⟩ := map_get hi
    have hlt : i < K.length := (List.getElem?_eq_some_iff.mp hri).1
    have er : K[i] = r := by rw [List.getElem?_eq_getElem hlt] at hri; exact Option.some.inj hri
    have hrl : r.length = rows.length + 1 := by rw [hkw r (List.mem_of_getElem? hri)]; exact hkl
    have hla : (r.map (rn p))[(r.map (rn p)).length - 1]? = some (rn p (MR.lastD r)) := by rw [List.length_map]; exact map_at (lastD_at (by omega))
    rw [first_drop hlt, er] at hf
    refine dss_one ?_
    refine ds_if ?_
    refine dt_not ?_
    refine dt_val ?_
    refine de_meth0 (T.c4 _) f2 (by decide +kernel) (Nat.le_of_ble_eq_true rfl) ?_ _ (fun _ => rfl)
    refine de_ix (fun _ _ => rfl) ?_
    refine de_var 3 rfl rfl rfl ?_
    refine ⟨_, rfl, ?_⟩
    refine de_un ?_
    refine de_int ?_
    refine und_negI ⟨-1, _, rfl, atI_last hla, _, rfl, g_zero ⟨_, rfl, fun h0 => ?_, fun h0 => ?_⟩⟩
    · rw [if_neg (by simpa using h0)] at hf
      rw [hf] at k
      refine dss_one ?_
      refine ds_ret ?_
      refine de_callTy (T := "tuple") rfl T.g_tuple (by decide +kernel) ?_
      refine da_cons ?_
      refine de_df ?_
      refine df_lc (.nm 4) [("x", 4)] (by kernel_rfl) rfl (dg_nm rfl rfl) ?_
      refine di_lst ?_
      refine de_df ?_
      refine df_slice ?_
      refine de_var 3 rfl rfl rfl ?_
      refine ⟨_, rfl, ?_⟩
      refine do_none ?_
      refine do_some ?_
      refine de_un ?_
      refine de_int ?_
      refine und_negI ⟨-1, rfl, ?_⟩
      rw [cut_last, ← List.map_dropLast]
      refine ⟨_, rfl, ?_⟩
      refine lcI_map ((r.dropLast.map fun x => MR.fmul p x (MR.lastD r)).map (rn p)) (by simp) (by simp; omega) (fun j y z hy hz => ?_) ?_
      · obtain ⟨a, ha, rfl⟩ := map_get hy
        rw [map_at (map_at ha)] at hz
        cases hz
        refine de_meth (T.c4 _) f3 (by decide +kernel) (Nat.le_of_ble_eq_true rfl) ?_ _ (fun _ => rfl)
        refine de_var 4 rfl rfl rfl ?_
        refine ⟨_, rfl, ?_⟩
        refine da_cons ?_
        refine de_ix (fun _ _ => rfl) ?_
        refine de_var 3 rfl rfl rfl ?_
        refine ⟨_, rfl, ?_⟩
        refine de_un ?_
        refine de_int ?_
        refine und_negI ⟨-1, _, rfl, atI_last hla, ?_⟩
        refine da_nil ?_
        exact g_over hp (by simpa using h0) rfl
      refine da_nil ?_
      exact cd_tupL k
    · rw [if_pos (by simpa using h0)] at hf
      refine dss_nil ?_
      exact ⟨_, rfl, hf⟩
  · rintro Γ ⟨e3, rfl, hf⟩
    rw [List.length_map, nil_] at hf
    rw [hf] at k
    refine dss_one ?_
    refine ds_ret ?_
    refine de_non ?_
    exact k
end SF

-- part M7
set_option maxHeartbeats 4000000
/-! # The program's defs, one by one: rows of polynomials. -/
namespace SF
open PySem PySem.Spec PyProof.Rows L2 DK

/-! ### trimmed -/
theorem trim_snoc (p : Nat) (l : List Nat) (a : Nat) : MR.trim p (l ++ [a]) = if a % p = 0 then MR.trim p l else l ++ [a] := by
  unfold MR.trim
  rw [List.reverse_append, List.reverse_singleton, List.singleton_append, List.dropWhile_cons]
  by_cases h : a % p = 0
  · simp [h]
  · simp [h]
theorem trim_len (p : Nat) (l : List Nat) : (MR.trim p l).length ≤ l.length := by
  unfold MR.trim
  rw [List.length_reverse]
  refine Nat.le_trans (List.Sublist.length_le (List.dropWhile_sublist _)) ?_
  rw [List.length_reverse]
  exact Nat.le_refl _
def Tr (p : Nat) (f : List Nat) : Prop := f = [] ∨ ¬ MR.lastD f % p = 0
theorem lastD_snoc (l : List Nat) (a : Nat) : MR.lastD (l ++ [a]) = a := by
  unfold MR.lastD
  rw [List.length_append, List.length_singleton, Nat.add_sub_cancel, List.getD_eq_getElem?_getD, List.getElem?_append_right (Nat.le_refl _), Nat.sub_self]
  rfl
theorem trim_tr_n (p : Nat) : ∀ (n : Nat) (l : List Nat), l.length = n → Tr p (MR.trim p l)
  | 0, l, h => by rw [List.length_eq_zero_iff.mp h]; exact .inl rfl
  | n + 1, l, h => by
    have e : l = l.dropLast ++ [l.getLast (by intro q; rw [q] at h; cases h)] := (List.dropLast_concat_getLast _).symm
    rw [e, trim_snoc]
    split
    · exact trim_tr_n p n _ (by rw [List.length_dropLast, h]; rfl)
    · rename_i hq
      exact .inr (by rw [lastD_snoc]; exact hq)
theorem trim_tr (p : Nat) (l : List Nat) : Tr p (MR.trim p l) := trim_tr_n p _ l rfl
abbrev s_trimmed : Stmt := topS 24
abbrev N_trimmed : List Str := ["row", "size"]
theorem sc_trimmed : FnScope N_trimmed ["row"] (defScope s_trimmed) := ⟨rfl, rfl, rfl, by decide +kernel, rfl, by decide +kernel, by decide +kernel⟩
def pr_trimmed (ds : List D) (P : D → Prop) : Prop := ∃ (p : Nat) (row : List Nat), ds = [rL p row] ∧ row.length ≤ 1000 ∧ P (rT p (MR.trim p row))
theorem ar_trimmed (ds : List D) (P : D → Prop) (h : pr_trimmed ds P) : ds.length = 1 := by obtain ⟨p, _, rfl, _⟩ := h; rfl
theorem ok_trimmed {M : Md} (T : Tx M) (h : DefAt M "trimmed" "trimmed" "trimmed" s_trimmed) (f2 : Me M .res "is_zero" 1 1 [] pr_rzero) : Fn M "trimmed" 1 2 [] pr_trimmed := by
  refine fn_intro h sc_trimmed rfl (fun _ _ _ _ _ _ us hl => match us, hl with | [_], _ => rfl) ar_trimmed fun ds P hp _ => ?_
  obtain ⟨p, row, rfl, hl, k⟩ := hp
  refine dss_cons ?_
  refine ds_set 1 rfl rfl ?_
  refine de_callB rfl T.g_len PySem.boot_len (da_cons ?_)
  refine de_var 0 rfl rfl rfl ?_
  refine da_nil (cd_len rfl ?_)
  refine dss_cons ?_
  refine ds_while (fun m Γ => m ≤ row.length ∧ Γ = [some (.dat (rL p row)), some (.dat (.int (m : Nat)))] ∧ MR.trim p (row.take m) = MR.trim p row) row.length ⟨Nat.le_refl _, by simp; rfl, by rw [List.take_length]⟩ ?_
  rintro m Γ ⟨hm, rfl, ht⟩
  have fin : MR.trim p (row.take m) = row.take m → P (rT p (row.take m)) := fun e => by rw [← ht, e] at k; exact k
  refine dt_w ?_
  refine dw_and ?_
  refine dt_cmp (nomark _) ?_
  refine de_var 1 rfl rfl rfl ?_
  refine de_int ?_
  refine opd_gt ?_
  refine ⟨_, rfl, fun hg => ?_, fun hg => ⟨(fun h => by cases h), fun _ => ?_⟩⟩
  · have hg' : 0 < m := by simpa using hg
    have hmr : m - 1 < row.length := by omega
    have et : row.take m = row.take (m - 1) ++ [row.getD (m - 1) 0] := by
      have := take_snoc hmr
      rw [show m - 1 + 1 = m by omega] at this
      rw [this, List.getD_eq_getElem?_getD, List.getElem?_eq_getElem hmr]
      rfl
    refine dw_and1 ?_
    refine dt_val ?_
    refine de_meth0 (T.c4 _) f2 (by decide +kernel) (Nat.le_of_ble_eq_true rfl) ?_ _ (fun _ => rfl)
    refine de_ix (fun _ _ => rfl) ?_
    refine de_var 0 rfl rfl rfl ?_
    refine ⟨_, rfl, ?_⟩
    refine de_op ?_
    refine de_var 1 rfl rfl rfl ?_
    refine de_int ?_
    refine opd_sub ?_
    refine ⟨((m - 1 : Nat) : Int), _, by congr 1; omega, atI_nat (map_at (at_of 0 hmr)), _, rfl, g_zero ⟨_, rfl, fun h0 => ?_, fun h0 => ?_⟩⟩
    · have h0' : row.getD (m - 1) 0 % p = 0 := by simpa using h0
      refine dss_one ?_
      refine ds_set 1 rfl rfl ?_
      refine de_op ?_
      refine de_var 1 rfl rfl rfl ?_
      refine de_int ?_
      refine opd_sub ?_
      refine ⟨m - 1, by omega, by omega, ?_, ?_⟩
      · show [some (Ent.dat (rL p row)), some (Ent.dat (D.int ((m : Int) - 1)))] = _
        rw [show (m : Int) - 1 = ((m - 1 : Nat) : Int) by omega]
      · rw [et, trim_snoc, if_pos h0'] at ht
        exact ht
    · have h0' : ¬ row.getD (m - 1) 0 % p = 0 := by simpa using h0
      refine dss_one ?_
      refine ds_ret ?_
      refine de_callTy (T := "tuple") rfl T.g_tuple (by decide +kernel) ?_
      refine da_cons ?_
      refine de_df ?_
      refine df_slice ?_
      refine de_var 0 rfl rfl rfl ?_
      refine ⟨_, rfl, ?_⟩
      refine do_none ?_
      refine do_some ?_
      refine de_var 1 rfl rfl rfl ?_
      refine ⟨(m : Nat), rfl, ?_⟩
      refine da_nil ?_
      rw [cut_to, ← List.map_take]
      exact cd_tupL (fin (by rw [et, trim_snoc, if_neg h0']))
  · have hg' : m = 0 := by simpa using hg
    refine dss_one ?_
    refine ds_ret ?_
    refine de_callTy (T := "tuple") rfl T.g_tuple (by decide +kernel) ?_
    refine da_cons ?_
    refine de_df ?_
    refine df_slice ?_
    refine de_var 0 rfl rfl rfl ?_
    refine ⟨_, rfl, ?_⟩
    refine do_none ?_
    refine do_some ?_
    refine de_var 1 rfl rfl rfl ?_
    refine ⟨(m : Nat), rfl, ?_⟩
    refine da_nil ?_
    rw [cut_to, ← List.map_take]
    exact cd_tupL (fin (by subst hg'; rfl))

/-! ### product_row -/
theorem rdrop_at {n lo t : Nat} (h : lo + t < n) : ((List.range n).drop lo)[t]? = some (lo + t) := by
  rw [List.getElem?_drop]
  simp [h]
def pstep (p : Nat) (a b : List Nat) (k : Nat) (t i : Nat) : Nat := MR.fadd p t (MR.fmul p (a.getD i 0) (b.getD (k - i) 0))
theorem prodAt_eq (p : Nat) (a b : List Nat) (k : Nat) : MR.prodAt p a b k = ((List.range (min (k + 1) a.length)).drop (k + 1 - b.length)).foldl (pstep p a b k) 0 := rfl
abbrev s_prodrow : Stmt := topS 26
abbrev N_prodrow : List Str := ["ground", "a", "b", "found", "k", "total", "i"]
theorem sc_prodrow : FnScope N_prodrow ["ground", "a", "b"] (defScope s_prodrow) := ⟨rfl, rfl, rfl, by decide +kernel, rfl, by decide +kernel, by decide +kernel⟩
def pr_prodrow (ds : List D) (P : D → Prop) : Prop := ∃ (p : Nat) (a b : List Nat), okp p ∧ ds = [gr p, rT p a, rT p b] ∧ a.length ≤ 40 ∧ b.length ≤ 40 ∧ P (rL p (MR.prod p a b))
theorem ar_prodrow (ds : List D) (P : D → Prop) (h : pr_prodrow ds P) : ds.length = 3 := by obtain ⟨p, _, _, _, rfl, _⟩ := h; rfl
theorem ok_prodrow {M : Md} (T : Tx M) (h : DefAt M "product_row" "product_row" "product_row" s_prodrow) (f1 : Me M .gr "zero" 1 8 [] (pr_gc 0)) (f3 : Me M .res "__add__" 2 5 [] (pr_bin (· + ·))) (f4 : Me M .res "__mul__" 2 5 [] (pr_bin (· * ·))) : Fn M "product_row" 3 9 [] pr_prodrow := by
  refine fn_intro h sc_prodrow rfl (fun _ _ _ _ _ _ us hl => match us, hl with | [_, _, _], _ => rfl) ar_prodrow fun ds P hp _ => ?_
  obtain ⟨p, a, b, hp, rfl, ha, hb, q⟩ := hp
  refine dss_cons ?_
  refine ds_setG 3 rfl rfl ?_
  refine df_lst ?_
  refine da_nil ?_
  refine ⟨by simp, ?_⟩
  refine dss_cons ?_
  refine ds_for (.nm 4) (dg_nm rfl rfl) ?_
  refine di_rng1 rfl T.g_range ?_
  refine de_op ?_
  refine de_op ?_
  refine de_callB rfl T.g_len PySem.boot_len (da_cons ?_)
  refine de_var 1 rfl rfl rfl ?_
  refine da_nil (cd_len rfl ?_)
  refine de_callB rfl T.g_len PySem.boot_len (da_cons ?_)
  refine de_var 2 rfl rfl rfl ?_
  refine da_nil (cd_len rfl ?_)
  refine opd_add ?_
  refine de_int ?_
  refine opd_sub ?_
  refine ⟨_, rfl, by simp; omega, by simp; omega, ?_⟩
  have en : ((((a.map (rn p)).length : Nat) : Int) + (((b.map (rn p)).length : Nat) : Int) - 1).toNat = a.length + b.length - 1 := by simp; omega
  rw [en]
  refine ⟨fun i Γ => ∃ e4 e5 e6, Γ = [some (.dat (gr p)), some (.dat (rT p a)), some (.dat (rT p b)), some (.grw (((MR.prod p a b).take i).map (rn p))), e4, e5, e6], ⟨none, none, none, rfl⟩, ?_, ?_⟩
  · rintro k x Γ hi ⟨e4, e5, e6, rfl⟩
    obtain ⟨hlt, rfl⟩ := rgD_get hi
    have hk0 : (0 : Int) + (k : Int) = (k : Int) := by omega
    rw [hk0]
    have hlp : (MR.prod p a b).length = a.length + b.length - 1 := by simp [MR.prod]
    have hkl : k < (MR.prod p a b).length := by rw [hlp]; exact hlt
    refine dss_cons ?_
    refine ds_set 5 rfl rfl ?_
    refine de_meth0 (T.c4 _) f1 (by decide +kernel) (Nat.le_of_ble_eq_true rfl) ?_ _ (fun _ => rfl)
    refine de_var 0 rfl rfl rfl ?_
    refine ⟨_, rfl, ?_⟩
    refine ⟨p, hp, rfl, ?_⟩
    refine dss_cons ?_
    refine ds_for (.nm 6) (dg_nm rfl rfl) ?_
    refine di_rng2 rfl T.g_range ?_
    refine de_callB (id := "max") rfl T.g_max (by decide +kernel) ?_
    refine da_cons ?_
    refine de_int ?_
    refine da_cons ?_
    refine de_op ?_
    refine de_op ?_
    refine de_var 4 rfl rfl rfl ?_
    refine de_callB rfl T.g_len PySem.boot_len (da_cons ?_)
    refine de_var 2 rfl rfl rfl ?_
    refine da_nil (cd_len rfl ?_)
    refine opd_sub ?_
    refine de_int ?_
    refine opd_add ?_
    refine da_nil ?_
    refine cd_max2 ?_
    have hb' : ((b.map (rn p)).length : Nat) = b.length := by simp
    have ha' : ((a.map (rn p)).length : Nat) = a.length := by simp
    rw [hb']
    have e1 : (if (k : Int) - (b.length : Int) + 1 > 0 then (k : Int) - (b.length : Int) + 1 else 0) = ((k + 1 - b.length : Nat) : Int) := by split <;> omega
    rw [e1]
    refine ⟨_, rfl, by omega, by omega, ?_⟩
    refine de_callB (id := "min") rfl T.g_min (by decide +kernel) ?_
    refine da_cons ?_
    refine de_op ?_
    refine de_var 4 rfl rfl rfl ?_
    refine de_int ?_
    refine opd_add ?_
    refine da_cons ?_
    refine de_callB rfl T.g_len PySem.boot_len (da_cons ?_)
    refine de_var 1 rfl rfl rfl ?_
    refine da_nil (cd_len rfl ?_)
    refine da_nil ?_
    refine cd_min2 ?_
    rw [ha']
    have e2 : (if (a.length : Int) < (k : Int) + 1 then (a.length : Int) else (k : Int) + 1) = ((min (k + 1) a.length : Nat) : Int) := by split <;> omega
    rw [e2]
    refine ⟨_, rfl, by omega, by omega, ?_⟩
    generalize hlo : k + 1 - b.length = lo
    generalize hhi : min (k + 1) a.length = hi2
    have e3 : ((hi2 : Int) - (lo : Int)).toNat = hi2 - lo := by omega
    rw [e3]
    refine ⟨fun t Γ => ∃ e6, Γ = [some (.dat (gr p)), some (.dat (rT p a)), some (.dat (rT p b)), some (.grw (((MR.prod p a b).take k).map (rn p))), some (.dat (.int (k : Nat))), some (.dat (rn p ((((List.range hi2).drop lo).take t).foldl (pstep p a b k) 0))), e6], ⟨e6, rfl⟩, ?_, ?_⟩
    · rintro t x Γ hi ⟨e6, rfl⟩
      obtain ⟨hlt2, rfl⟩ := rgD_get hi
      have et : (0 : Int) + 0 = 0 := rfl
      have hx : (lo : Int) + (t : Int) = ((lo + t : Nat) : Int) := by omega
      rw [hx]
      have h1 : lo + t < a.length := by omega
      have h2 : k - (lo + t) < b.length := by omega
      refine dss_one ?_
      refine ds_set 5 rfl rfl ?_
      refine de_op ?_
      refine de_var 5 rfl rfl rfl ?_
      refine de_op ?_
      refine de_ix (fun _ _ => rfl) ?_
      refine de_var 1 rfl rfl rfl ?_
      refine ⟨_, rfl, ?_⟩
      refine de_var 6 rfl rfl rfl ?_
      refine ⟨((lo + t : Nat) : Int), _, rfl, atI_nat (map_at (at_of 0 h1)), ?_⟩
      refine de_ix (fun _ _ => rfl) ?_
      refine de_var 2 rfl rfl rfl ?_
      refine ⟨_, rfl, ?_⟩
      refine de_op ?_
      refine de_var 4 rfl rfl rfl ?_
      refine de_var 6 rfl rfl rfl ?_
      refine opd_sub ?_
      refine ⟨((k - (lo + t) : Nat) : Int), _, by congr 1; omega, atI_nat (map_at (at_of 0 h2)), ?_⟩
      refine opd_own (op := .Mult) (T.c4 _) f4 (by decide +kernel) (Nat.le_of_ble_eq_true rfl) ?_
      refine g_mul hp ?_
      refine opd_own (op := .Add) (T.c4 _) f3 (by decide +kernel) (Nat.le_of_ble_eq_true rfl) ?_
      refine g_add hp ⟨some (.dat (.int ((lo + t : Nat) : Int))), ?_⟩
      rw [List.take_add_one, rdrop_at (by omega), List.foldl_append]
      rfl
    · rintro Γ ⟨e6, rfl⟩
      rw [rgD_length]
      have ef : ((List.range hi2).drop lo).take (hi2 - lo) = (List.range hi2).drop lo := List.take_of_length_le (by simp)
      rw [ef]
      refine dss_one ?_
      refine ds_app 3 rfl rfl rfl (by rw [List.length_map, List.length_take]; omega) ?_
      refine de_var 5 rfl rfl rfl ?_
      refine ⟨?_, ?_, ?_, ?_⟩
      rotate_left 3
      rw [take_snoc hkl, List.map_append]
      have ep : (MR.prod p a b)[k] = ((List.range hi2).drop lo).foldl (pstep p a b k) 0 := by
        have := prodAt_eq p a b k
        rw [hlo, hhi] at this
        rw [← this]
        simp [MR.prod]
      rw [ep]
      rfl
  · rintro Γ ⟨e4, e5, e6, rfl⟩
    have ef : (MR.prod p a b).take (rgD 0 (a.length + b.length - 1)).length = MR.prod p a b := List.take_of_length_le (by rw [rgD_length]; simp [MR.prod])
    rw [ef]
    refine ds_freeze 3 rfl ?_
    refine dss_one ?_
    refine ds_ret ?_
    refine de_var 3 rfl rfl rfl ?_
    exact q
end SF

-- part M8
set_option maxHeartbeats 4000000
/-! # The program's defs, one by one: division, Poly. -/
namespace SF
open PySem PySem.Spec PyProof.Rows L2 DK

/-! ### division -/
def dks (a b : List Nat) : List Nat := (List.range (a.length + 1 - b.length)).reverse
def divTo (p : Nat) (a b : List Nat) (i : Nat) : List Nat × List Nat := ((dks a b).take i).foldl (MR.divStep p b) ([], a)
theorem dks_at {a b : List Nat} {i : Nat} (h : i < a.length + 1 - b.length) : (dks a b)[i]? = some (a.length - b.length - i) := by
  unfold dks
  rw [List.getElem?_reverse (by simpa using h), List.length_range, List.getElem?_range (by omega)]
  congr 1
  omega
theorem divTo_succ {p : Nat} {a b : List Nat} {i : Nat} (h : i < a.length + 1 - b.length) : divTo p a b (i + 1) = MR.divStep p b (divTo p a b i) (a.length - b.length - i) := by
  unfold divTo
  rw [List.take_add_one, dks_at h, List.foldl_append]
  rfl
theorem divTo_len {p : Nat} {a b : List Nat} (hb : 0 < b.length) : ∀ i, i ≤ a.length + 1 - b.length → (divTo p a b i).1.length = i ∧ (divTo p a b i).2.length = a.length - i
  | 0, _ => ⟨rfl, rfl⟩
  | i + 1, h => by
    obtain ⟨h1, h2⟩ := divTo_len (p := p) (a := a) hb i (by omega)
    rw [divTo_succ (p := p) (a := a) (b := b) (i := i) (by omega)]
    constructor
    · show (_ :: (divTo p a b i).1).length = _
      rw [List.length_cons, h1]
    · show ((divTo p a b i).2.take _ ++ (List.range (b.length - 1)).map _).length = _
      rw [List.length_append, List.length_take, h2, List.length_map, List.length_range]
      omega
theorem division_eq (p : Nat) (a b : List Nat) : MR.division p a b = divTo p a b (a.length + 1 - b.length) := by
  unfold divTo
  rw [List.take_of_length_le (by unfold dks; simp)]
  rfl
theorem division_len1 {p : Nat} {a b : List Nat} (hb : 0 < b.length) : (MR.division p a b).1.length ≤ a.length := by
  rw [division_eq, (divTo_len hb _ (Nat.le_refl _)).1]
  omega
theorem division_len2 {p : Nat} {a b : List Nat} (hb : 0 < b.length) : (MR.division p a b).2.length ≤ a.length := by
  rw [division_eq, (divTo_len hb _ (Nat.le_refl _)).2]
  omega
abbrev s_division : Stmt := topS 27
abbrev N_division : List Str := ["ground", "a", "b", "rest", "head", "quotient", "k", "factor", "i"]
theorem sc_division : FnScope N_division ["ground", "a", "b"] (defScope s_division) := ⟨rfl, rfl, rfl, by decide +kernel, rfl, by decide +kernel, by decide +kernel⟩
def pr_division (ds : List D) (P : D → Prop) : Prop := ∃ (p : Nat) (a b : List Nat), okp p ∧ ds = [gr p, rT p a, rT p b] ∧ a.length ≤ 100 ∧ b.length ≤ 100 ∧ 0 < b.length ∧ ¬ MR.lastD b % p = 0 ∧ P (.tup [rT p (MR.division p a b).1, rT p (MR.division p a b).2])
theorem ar_division (ds : List D) (P : D → Prop) (h : pr_division ds P) : ds.length = 3 := by obtain ⟨p, _, _, _, rfl, _⟩ := h; rfl
theorem ok_division {M : Md} (T : Tx M) (h : DefAt M "division" "division" "division" s_division) (f1 : Me M .res "inverse" 1 5 [] pr_rinv) (f3 : Me M .res "__sub__" 2 5 [] (pr_bin (· - ·))) (f4 : Me M .res "__mul__" 2 5 [] (pr_bin (· * ·))) : Fn M "division" 3 6 [] pr_division := by
  refine fn_intro h sc_division rfl (fun _ _ _ _ _ _ us hl => match us, hl with | [_, _, _], _ => rfl) ar_division fun ds P hp _ => ?_
  obtain ⟨p, a, b, hp, rfl, ha, hb, hb0, hlb, q⟩ := hp
  have hlast : ∀ {r : List Nat}, 0 < r.length → (r.map (rn p))[(r.map (rn p)).length - 1]? = some (rn p (MR.lastD r)) := fun {r} hr => by rw [List.length_map]; exact map_at (lastD_at hr)
  refine dss_cons ?_
  refine ds_if ?_
  refine dt_cmp (nomark _) ?_
  refine de_callB rfl T.g_len PySem.boot_len (da_cons ?_)
  refine de_var 2 rfl rfl rfl ?_
  refine da_nil (cd_len rfl ?_)
  refine de_int ?_
  refine opd_eqI ?_
  refine ⟨_, rfl, no_true (by simp; intro h; rw [h] at hb0; cases hb0), fun _ => ?_⟩
  refine dss_nil ?_
  refine dss_cons ?_
  refine ds_set 3 rfl rfl ?_
  refine de_callTy (T := "tuple") rfl T.g_tuple (by decide +kernel) ?_
  refine da_cons ?_
  refine de_var 1 rfl rfl rfl ?_
  refine da_nil ?_
  refine cd_tupT ?_
  refine dss_cons ?_
  refine ds_set 4 rfl rfl ?_
  refine de_meth0 (T.c4 _) f1 (by decide +kernel) (Nat.le_of_ble_eq_true rfl) ?_ _ (fun _ => rfl)
  refine de_ix (fun _ _ => rfl) ?_
  refine de_var 2 rfl rfl rfl ?_
  refine ⟨_, rfl, ?_⟩
  refine de_un ?_
  refine de_int ?_
  refine und_negI ⟨-1, _, rfl, atI_last (hlast hb0), _, rfl, g_inv hp hlb ?_⟩
  refine dss_cons ?_
  refine ds_set 5 rfl rfl ?_
  refine de_tup ?_
  refine da_nil ?_
  refine ⟨by simp, ?_⟩
  refine dss_cons ?_
  refine ds_for (.nm 6) (dg_nm rfl rfl) ?_
  refine di_rngN rfl T.g_range ?_
  refine de_op ?_
  refine de_callB rfl T.g_len PySem.boot_len (da_cons ?_)
  refine de_var 1 rfl rfl rfl ?_
  refine da_nil (cd_len rfl ?_)
  refine de_callB rfl T.g_len PySem.boot_len (da_cons ?_)
  refine de_var 2 rfl rfl rfl ?_
  refine da_nil (cd_len rfl ?_)
  refine opd_sub ?_
  refine ⟨_, rfl, by simp; omega, by simp; omega, ?_⟩
  refine de_un ?_
  refine de_int ?_
  refine und_negI ⟨_, rfl, by omega, by omega, ?_⟩
  have en : ((((a.map (rn p)).length : Nat) : Int) - (((b.map (rn p)).length : Nat) : Int) - -1).toNat = a.length + 1 - b.length := by simp; omega
  rw [en]
  refine ⟨fun i Γ => ∃ e6 e7 e8, i ≤ a.length + 1 - b.length ∧ Γ = [some (.dat (gr p)), some (.dat (rT p a)), some (.dat (rT p b)), some (.dat (rT p (divTo p a b i).2)), some (.dat (rn p (MR.lastD b))), some (.dat (rT p (divTo p a b i).1)), e6, e7, e8], ⟨none, none, none, by omega, rfl⟩, ?_, ?_⟩
  · rintro i x Γ hi ⟨e6, e7, e8, hil, rfl⟩
    have hlt : i < a.length + 1 - b.length := by have := (List.getElem?_eq_some_iff.mp hi).1; rw [rgC_length] at this; exact this
    have hx : x = .int ((a.length - b.length - i : Nat) : Int) := by
      unfold rgC at hi
      rw [map_at (range_at hlt)] at hi
      cases hi
      congr 1
      simp
      omega
    subst hx
    obtain ⟨l1, l2⟩ := divTo_len (p := p) (a := a) hb0 i hil
    have hds := divTo_succ (p := p) hlt
    generalize hk : a.length - b.length - i = k at hds ⊢
    generalize hs : divTo p a b i = s at l1 l2 hds ⊢
    obtain ⟨qs, rs⟩ := s
    simp only at l1 l2
    have hr0 : 0 < rs.length := by omega
    refine dss_cons ?_
    refine ds_set 7 rfl rfl ?_
    refine de_op ?_
    refine de_ix (fun _ _ => rfl) ?_
    refine de_var 3 rfl rfl rfl ?_
    refine ⟨_, rfl, ?_⟩
    refine de_un ?_
    refine de_int ?_
    refine und_negI ⟨-1, _, rfl, atI_last (hlast hr0), ?_⟩
    refine de_var 4 rfl rfl rfl ?_
    refine opd_own (op := .Mult) (T.c4 _) f4 (by decide +kernel) (Nat.le_of_ble_eq_true rfl) ?_
    refine g_mul hp ?_
    refine dss_cons ?_
    refine ds_set 5 rfl rfl ?_
    refine de_op ?_
    refine de_tup ?_
    refine da_cons ?_
    refine de_var 7 rfl rfl rfl ?_
    refine da_nil ?_
    refine ⟨by simp, ?_⟩
    refine de_var 5 rfl rfl rfl ?_
    refine opd_catT (by simp; omega) ?_
    refine dss_one ?_
    refine ds_set 3 rfl rfl ?_
    refine de_op ?_
    refine de_sliceT ?_
    refine de_var 3 rfl rfl rfl ?_
    refine ⟨_, rfl, ?_⟩
    refine do_none ?_
    refine do_some ?_
    refine de_var 6 rfl rfl rfl ?_
    refine ⟨(k : Nat), rfl, ?_⟩
    refine de_callTy (T := "tuple") rfl T.g_tuple (by decide +kernel) ?_
    refine da_cons ?_
    refine de_df ?_
    refine df_lc (.nm 8) [("i", 8)] (by kernel_rfl) rfl (dg_nm rfl rfl) ?_
    refine di_rng1 rfl T.g_range ?_
    refine de_op ?_
    refine de_callB rfl T.g_len PySem.boot_len (da_cons ?_)
    refine de_var 2 rfl rfl rfl ?_
    refine da_nil (cd_len rfl ?_)
    refine de_int ?_
    refine opd_sub ?_
    refine ⟨_, rfl, by rw [List.length_map]; omega, by rw [List.length_map]; omega, ?_⟩
    have en2 : ((((b.map (rn p)).length : Nat) : Int) - 1).toNat = b.length - 1 := by rw [List.length_map]; omega
    rw [en2]
    refine lcI_map (((List.range (b.length - 1)).map fun i => MR.fsub p (rs.getD (k + i) 0) (MR.fmul p (MR.fmul p (MR.lastD rs) (MR.lastD b)) (b.getD i 0))).map (rn p)) (by simp [rgD_length]) (by rw [rgD_length]; omega) (fun j y z hy hz => ?_) ?_
    · obtain ⟨hlt2, rfl⟩ := rgD_get hy
      rw [map_at (map_at (range_at hlt2))] at hz
      cases hz
      have hj0 : (0 : Int) + (j : Int) = (j : Int) := by omega
      rw [hj0]
      refine de_op ?_
      refine de_ix (fun _ _ => rfl) ?_
      refine de_var 3 rfl rfl rfl ?_
      refine ⟨_, rfl, ?_⟩
      refine de_op ?_
      refine de_var 6 rfl rfl rfl ?_
      refine de_var 8 rfl rfl rfl ?_
      refine opd_add ?_
      refine ⟨((k + j : Nat) : Int), _, by rw [Int.natCast_add], atI_nat (map_at (at_of 0 (by show k + j < rs.length; omega))), ?_⟩
      refine de_op ?_
      refine de_var 7 rfl rfl rfl ?_
      refine de_ix (fun _ _ => rfl) ?_
      refine de_var 2 rfl rfl rfl ?_
      refine ⟨_, rfl, ?_⟩
      refine de_var 8 rfl rfl rfl ?_
      refine ⟨((j : Nat) : Int), _, rfl, atI_nat (map_at (at_of 0 (by omega))), ?_⟩
      refine opd_own (op := .Mult) (T.c4 _) f4 (by decide +kernel) (Nat.le_of_ble_eq_true rfl) ?_
      refine g_mul hp ?_
      refine opd_own (op := .Sub) (T.c4 _) f3 (by decide +kernel) (Nat.le_of_ble_eq_true rfl) ?_
      exact g_sub hp rfl
    refine da_nil ?_
    refine cd_tupL ?_
    rw [cut_to, ← List.map_take]
    refine opd_catT (by simp; omega) ?_
    rw [← List.map_append]
    refine ⟨?_, ?_, ?_, by omega, ?_⟩
    rotate_left 3
    rw [hds]
    rfl
  · rintro Γ ⟨e6, e7, e8, _, rfl⟩
    have e : (rgC (((a.map (rn p)).length : Nat) - ((b.map (rn p)).length : Nat)) (-1) (a.length + 1 - b.length)).length = a.length + 1 - b.length := rgC_length ..
    rw [e, ← division_eq]
    refine dss_one ?_
    refine ds_ret ?_
    refine de_tup ?_
    refine da_cons ?_
    refine de_var 5 rfl rfl rfl ?_
    refine da_cons ?_
    refine de_var 3 rfl rfl rfl ?_
    refine da_nil ?_
    exact ⟨by simp, q⟩

/-! ### Poly -/
def polD (p : Nat) (row : List Nat) : D := .ins .pol [gr p, rT p row]
abbrev s_pinit : Stmt := inC 28 0
abbrev N_pinit : List Str := ["self", "ground", "row", "item"]
theorem sc_pinit : FnScope N_pinit ["self", "ground", "row"] (defScope s_pinit) := ⟨rfl, rfl, rfl, by decide +kernel, rfl, by decide +kernel, by decide +kernel⟩
def pr_pinit (ds : List D) (P : D → Prop) : Prop := ∃ (p : Nat) (d : D) (xs : List D) (row : List Nat), okp p ∧ ds = [gr p, d] ∧ seqOf d = some xs ∧ RowIt p xs row ∧ row.length ≤ 100 ∧ P (polD p (MR.trim p row))
theorem ar_pinit (ds : List D) (P : D → Prop) (h : pr_pinit ds P) : ds.length = 2 := by obtain ⟨p, _, _, _, _, rfl, _⟩ := h; rfl
theorem ok_pinit {M : Md} (T : Tx M) (h : IniAt M .pol "Poly" "Poly.__init__" s_pinit) (f1 : Fn M "taken" 2 8 [] pr_taken) (f2 : Fn M "trimmed" 1 2 [] pr_trimmed) : Ct M "Poly" .pol 2 9 [] pr_pinit := by
  refine ct_intro h sc_pinit rfl (fun _ _ _ _ _ _ us hl => match us, hl with | [_, _, _], _ => rfl) ar_pinit fun q ds P hp _ => ?_
  obtain ⟨p, d, xs, row, hp, rfl, hd, ⟨hxl, hxi⟩, hn, k⟩ := hp
  refine dss_cons ?_
  refine ds_if ?_
  refine dt_not ?_
  refine dt_val ?_
  refine de_isi2 (T := "list") (T2 := "tuple") T.c4 rfl T.g_isi rfl T.g_list (by decide +kernel) rfl T.g_tuple (by decide +kernel) ?_
  refine de_var 2 rfl rfl rfl ?_
  refine isSeq_ok hd ⟨true, rfl, (fun h => by cases h), fun _ => ?_⟩
  refine dss_nil ?_
  refine dss_cons ?_
  refine ds_self 0 (T.c4 _) rfl rfl rfl rfl ?_
  refine de_var 1 rfl rfl rfl ?_
  refine dss_one ?_
  refine ds_self 0 (T.c4 _) rfl rfl rfl rfl ?_
  refine de_call f2 rfl (Nat.le_of_ble_eq_true rfl) ?_
  refine da_cons ?_
  refine de_df ?_
  refine df_lc (.nm 3) [("item", 3)] (by kernel_rfl) rfl (dg_nm rfl rfl) ?_
  refine di_seq hd (de_var 2 rfl rfl rfl rfl) ?_
  refine lcI_map (row.map (rn p)) (by simp [hxl]) (by omega) (fun j y z hy hz => ?_) ?_
  · refine de_call f1 rfl (Nat.le_of_ble_eq_true rfl) ?_
    refine da_cons ?_
    refine de_var 1 rfl rfl rfl ?_
    refine da_cons ?_
    refine de_var 3 rfl rfl rfl ?_
    refine da_nil ?_
    obtain ⟨a, ha, rfl⟩ := map_get hz
    exact g_taken hp (hxi j y a hy ha) rfl
  refine da_nil ?_
  refine ⟨p, row, rfl, by omega, ?_⟩
  exact ⟨_, rfl, rfl, k⟩
abbrev s_cgp : Stmt := topS 29
abbrev N_cgp : List Str := ["f", "g"]
theorem sc_cgp : FnScope N_cgp ["f", "g"] (defScope s_cgp) := ⟨rfl, rfl, rfl, by decide +kernel, rfl, by decide +kernel, by decide +kernel⟩
def pr_cgp (ds : List D) (P : D → Prop) : Prop := ∃ (p : Nat) (a b : List Nat), ds = [polD p a, polD p b] ∧ P .non
theorem ar_cgp (ds : List D) (P : D → Prop) (h : pr_cgp ds P) : ds.length = 2 := by obtain ⟨p, _, _, rfl, _⟩ := h; rfl
theorem ok_cgp {M : Md} (T : Tx M) (h : DefAt M "check_grounds_poly" "check_grounds" "check_grounds" s_cgp) (f1 : Me M .gr "__eq__" 2 1 [] pr_geq) : Fn M "check_grounds_poly" 2 3 [] pr_cgp := by
  refine fn_intro h sc_cgp rfl (fun _ _ _ _ _ _ us hl => match us, hl with | [_, _], _ => rfl) ar_cgp fun ds P hp _ => ?_
  obtain ⟨p, a, b, rfl, k⟩ := hp
  refine dss_one ?_
  refine ds_if ?_
  refine dt_cmp (nomark _) ?_
  refine de_fldA T.c4 0 ?_
  refine de_var 0 rfl rfl rfl ?_
  refine ⟨_, _, _, rfl, rfl, rfl, ?_⟩
  refine de_fldA T.c4 0 ?_
  refine de_var 1 rfl rfl rfl ?_
  refine ⟨_, _, _, rfl, rfl, rfl, ?_⟩
  refine opd_ne (T.c4 _) (T.ne _) f1 (Nat.le_of_ble_eq_true rfl) ?_
  refine ⟨p, p, rfl, _, rfl, _, rfl, no_true (by simp), fun _ => ?_⟩
  refine dss_nil ?_
  exact k
abbrev s_pmul : Stmt := inC 28 5
abbrev N_pmul : List Str := ["self", "other"]
theorem sc_pmul : FnScope N_pmul ["self", "other"] (defScope s_pmul) := ⟨rfl, rfl, rfl, by decide +kernel, rfl, by decide +kernel, by decide +kernel⟩
def pr_pmul (ds : List D) (P : D → Prop) : Prop := ∃ (p : Nat) (a b : List Nat), okp p ∧ ds = [polD p a, polD p b] ∧ a.length ≤ 40 ∧ b.length ≤ 40 ∧ P (polD p (MR.trim p (MR.prod p a b)))
theorem ar_pmul (ds : List D) (P : D → Prop) (h : pr_pmul ds P) : ds.length = 2 := by obtain ⟨p, _, _, _, rfl, _⟩ := h; rfl
theorem ok_pmul {M : Md} (T : Tx M) (h : MetAt M .pol "__mul__" "Poly.__mul__" s_pmul) (f1 : Fn M "check_grounds_poly" 2 3 [] pr_cgp) (f2 : Fn M "product_row" 3 9 [] pr_prodrow) (f3 : Ct M "Poly" .pol 2 9 [] pr_pinit) : Me M .pol "__mul__" 2 11 [] pr_pmul := by
  refine me_intro h sc_pmul rfl (fun _ _ _ _ _ _ us hl => match us, hl with | [_, _], _ => rfl) ar_pmul fun ds P hp _ => ?_
  obtain ⟨p, a, b, hp, rfl, ha, hb, k⟩ := hp
  refine dss_cons ?_
  refine ds_expr ?_
  refine de_call f1 rfl (Nat.le_of_ble_eq_true rfl) ?_
  refine da_cons ?_
  refine de_var 0 rfl rfl rfl ?_
  refine da_cons ?_
  refine de_var 1 rfl rfl rfl ?_
  refine da_nil ?_
  refine ⟨p, a, b, rfl, ?_⟩
  refine dss_one ?_
  refine ds_ret ?_
  refine de_make f3 rfl (Nat.le_of_ble_eq_true rfl) ?_
  refine da_cons ?_
  refine de_fldA T.c4 0 ?_
  refine de_var 0 rfl rfl rfl ?_
  refine ⟨_, _, _, rfl, rfl, rfl, ?_⟩
  refine da_cons ?_
  refine de_call f2 rfl (Nat.le_of_ble_eq_true rfl) ?_
  refine da_cons ?_
  refine de_fldA T.c4 0 ?_
  refine de_var 0 rfl rfl rfl ?_
  refine ⟨_, _, _, rfl, rfl, rfl, ?_⟩
  refine da_cons ?_
  refine de_fldA T.c4 1 ?_
  refine de_var 0 rfl rfl rfl ?_
  refine ⟨_, _, _, rfl, rfl, rfl, ?_⟩
  refine da_cons ?_
  refine de_fldA T.c4 1 ?_
  refine de_var 1 rfl rfl rfl ?_
  refine ⟨_, _, _, rfl, rfl, rfl, ?_⟩
  refine da_nil ?_
  refine ⟨p, a, b, hp, rfl, ha, hb, ?_⟩
  refine da_nil ?_
  exact ⟨p, _, _, MR.prod p a b, hp, rfl, rfl, rowIt_rn p _, by simp [MR.prod]; omega, k⟩
def pr_pdiv (g : Nat → List Nat → List Nat → List Nat) (ds : List D) (P : D → Prop) : Prop := ∃ (p : Nat) (a b : List Nat), okp p ∧ ds = [polD p a, polD p b] ∧ a.length ≤ 100 ∧ b.length ≤ 100 ∧ 0 < b.length ∧ ¬ MR.lastD b % p = 0 ∧ P (polD p (g p a b))
theorem ar_pdiv {g : Nat → List Nat → List Nat → List Nat} (ds : List D) (P : D → Prop) (h : pr_pdiv g ds P) : ds.length = 2 := by obtain ⟨p, _, _, _, rfl, _⟩ := h; rfl
abbrev s_pfdiv : Stmt := inC 28 6
abbrev N_pfdiv : List Str := ["self", "other"]
theorem sc_pfdiv : FnScope N_pfdiv ["self", "other"] (defScope s_pfdiv) := ⟨rfl, rfl, rfl, by decide +kernel, rfl, by decide +kernel, by decide +kernel⟩
theorem ok_pfdiv {M : Md} (T : Tx M) (h : MetAt M .pol "__floordiv__" "Poly.__floordiv__" s_pfdiv) (f1 : Fn M "check_grounds_poly" 2 3 [] pr_cgp) (f2 : Fn M "division" 3 6 [] pr_division) (f3 : Ct M "Poly" .pol 2 9 [] pr_pinit) : Me M .pol "__floordiv__" 2 11 [] (pr_pdiv MR.fdiv) := by
  refine me_intro h sc_pfdiv rfl (fun _ _ _ _ _ _ us hl => match us, hl with | [_, _], _ => rfl) ar_pdiv fun ds P hp _ => ?_
  obtain ⟨p, a, b, hp, rfl, ha, hb, hb0, hlb, k⟩ := hp
  refine dss_cons ?_
  refine ds_expr ?_
  refine de_call f1 rfl (Nat.le_of_ble_eq_true rfl) ?_
  refine da_cons ?_
  refine de_var 0 rfl rfl rfl ?_
  refine da_cons ?_
  refine de_var 1 rfl rfl rfl ?_
  refine da_nil ?_
  refine ⟨p, a, b, rfl, ?_⟩
  refine dss_one ?_
  refine ds_ret ?_
  refine de_make f3 rfl (Nat.le_of_ble_eq_true rfl) ?_
  refine da_cons ?_
  refine de_fldA T.c4 0 ?_
  refine de_var 0 rfl rfl rfl ?_
  refine ⟨_, _, _, rfl, rfl, rfl, ?_⟩
  refine da_cons ?_
  refine de_ix (fun _ _ => rfl) ?_
  refine de_call f2 rfl (Nat.le_of_ble_eq_true rfl) ?_
  refine da_cons ?_
  refine de_fldA T.c4 0 ?_
  refine de_var 0 rfl rfl rfl ?_
  refine ⟨_, _, _, rfl, rfl, rfl, ?_⟩
  refine da_cons ?_
  refine de_fldA T.c4 1 ?_
  refine de_var 0 rfl rfl rfl ?_
  refine ⟨_, _, _, rfl, rfl, rfl, ?_⟩
  refine da_cons ?_
  refine de_fldA T.c4 1 ?_
  refine de_var 1 rfl rfl rfl ?_
  refine ⟨_, _, _, rfl, rfl, rfl, ?_⟩
  refine da_nil ?_
  refine ⟨p, a, b, hp, rfl, ha, hb, hb0, hlb, _, rfl, ?_⟩
  refine de_int ?_
  refine ⟨0, _, rfl, atI_nat (i := 0) rfl, ?_⟩
  refine da_nil ?_
  exact ⟨p, _, _, _, hp, rfl, rfl, rowIt_rn p _, Nat.le_trans (division_len1 hb0) ha, k⟩
abbrev s_pmod : Stmt := inC 28 7
abbrev N_pmod : List Str := ["self", "other"]
theorem sc_pmod : FnScope N_pmod ["self", "other"] (defScope s_pmod) := ⟨rfl, rfl, rfl, by decide +kernel, rfl, by decide +kernel, by decide +kernel⟩
theorem ok_pmod {M : Md} (T : Tx M) (h : MetAt M .pol "__mod__" "Poly.__mod__" s_pmod) (f1 : Fn M "check_grounds_poly" 2 3 [] pr_cgp) (f2 : Fn M "division" 3 6 [] pr_division) (f3 : Ct M "Poly" .pol 2 9 [] pr_pinit) : Me M .pol "__mod__" 2 11 [] (pr_pdiv MR.fmod) := by
  refine me_intro h sc_pmod rfl (fun _ _ _ _ _ _ us hl => match us, hl with | [_, _], _ => rfl) ar_pdiv fun ds P hp _ => ?_
  obtain ⟨p, a, b, hp, rfl, ha, hb, hb0, hlb, k⟩ := hp
  refine dss_cons ?_
  refine ds_expr ?_
  refine de_call f1 rfl (Nat.le_of_ble_eq_true rfl) ?_
  refine da_cons ?_
  refine de_var 0 rfl rfl rfl ?_
  refine da_cons ?_
  refine de_var 1 rfl rfl rfl ?_
  refine da_nil ?_
  refine ⟨p, a, b, rfl, ?_⟩
  refine dss_one ?_
  refine ds_ret ?_
  refine de_make f3 rfl (Nat.le_of_ble_eq_true rfl) ?_
  refine da_cons ?_
  refine de_fldA T.c4 0 ?_
  refine de_var 0 rfl rfl rfl ?_
  refine ⟨_, _, _, rfl, rfl, rfl, ?_⟩
  refine da_cons ?_
  refine de_ix (fun _ _ => rfl) ?_
  refine de_call f2 rfl (Nat.le_of_ble_eq_true rfl) ?_
  refine da_cons ?_
  refine de_fldA T.c4 0 ?_
  refine de_var 0 rfl rfl rfl ?_
  refine ⟨_, _, _, rfl, rfl, rfl, ?_⟩
  refine da_cons ?_
  refine de_fldA T.c4 1 ?_
  refine de_var 0 rfl rfl rfl ?_
  refine ⟨_, _, _, rfl, rfl, rfl, ?_⟩
  refine da_cons ?_
  refine de_fldA T.c4 1 ?_
  refine de_var 1 rfl rfl rfl ?_
  refine ⟨_, _, _, rfl, rfl, rfl, ?_⟩
  refine da_nil ?_
  refine ⟨p, a, b, hp, rfl, ha, hb, hb0, hlb, _, rfl, ?_⟩
  refine de_int ?_
  refine ⟨1, _, rfl, atI_nat (i := 1) rfl, ?_⟩
  refine da_nil ?_
  exact ⟨p, _, _, _, hp, rfl, rfl, rowIt_rn p _, Nat.le_trans (division_len2 hb0) ha, k⟩
abbrev s_pdeg : Stmt := inC 28 10
abbrev N_pdeg : List Str := ["self"]
theorem sc_pdeg : FnScope N_pdeg ["self"] (defScope s_pdeg) := ⟨rfl, rfl, rfl, by decide +kernel, rfl, by decide +kernel, by decide +kernel⟩
def pr_pdeg (ds : List D) (P : D → Prop) : Prop := ∃ (p : Nat) (a : List Nat), ds = [polD p a] ∧ P (.int ((a.length : Int) - 1))
theorem ar_pdeg (ds : List D) (P : D → Prop) (h : pr_pdeg ds P) : ds.length = 1 := by obtain ⟨p, _, rfl, _⟩ := h; rfl
theorem ok_pdeg {M : Md} (T : Tx M) (h : MetAt M .pol "degree" "Poly.degree" s_pdeg) : Me M .pol "degree" 1 1 [] pr_pdeg := by
  refine me_intro h sc_pdeg rfl (fun _ _ _ _ _ _ us hl => match us, hl with | [_], _ => rfl) ar_pdeg fun ds P hp _ => ?_
  obtain ⟨p, a, rfl, k⟩ := hp
  refine dss_one ?_
  refine ds_ret ?_
  refine de_op ?_
  refine de_callB rfl T.g_len PySem.boot_len (da_cons ?_)
  refine de_fldA T.c4 1 ?_
  refine de_var 0 rfl rfl rfl ?_
  refine ⟨_, _, _, rfl, rfl, rfl, ?_⟩
  refine da_nil (cd_len rfl ?_)
  refine de_int ?_
  refine opd_sub ?_
  rw [List.length_map]
  exact k
abbrev s_pzero : Stmt := inC 28 11
abbrev N_pzero : List Str := ["self"]
theorem sc_pzero : FnScope N_pzero ["self"] (defScope s_pzero) := ⟨rfl, rfl, rfl, by decide +kernel, rfl, by decide +kernel, by decide +kernel⟩
def pr_pzero (ds : List D) (P : D → Prop) : Prop := ∃ (p : Nat) (a : List Nat), ds = [polD p a] ∧ P (.bl (decide (a = [])))
theorem ar_pzero (ds : List D) (P : D → Prop) (h : pr_pzero ds P) : ds.length = 1 := by obtain ⟨p, _, rfl, _⟩ := h; rfl
theorem ok_pzero {M : Md} (T : Tx M) (h : MetAt M .pol "is_zero" "Poly.is_zero" s_pzero) : Me M .pol "is_zero" 1 1 [] pr_pzero := by
  refine me_intro h sc_pzero rfl (fun _ _ _ _ _ _ us hl => match us, hl with | [_], _ => rfl) ar_pzero fun ds P hp _ => ?_
  obtain ⟨p, a, rfl, k⟩ := hp
  refine dss_one ?_
  refine ds_ret ?_
  refine de_cmp (nomark _) ?_
  refine de_callB rfl T.g_len PySem.boot_len (da_cons ?_)
  refine de_fldA T.c4 1 ?_
  refine de_var 0 rfl rfl rfl ?_
  refine ⟨_, _, _, rfl, rfl, rfl, ?_⟩
  refine da_nil (cd_len rfl ?_)
  refine de_int ?_
  refine opd_eqI ?_
  rw [List.length_map, show decide (((a.length : Nat) : Int) = 0) = decide (a = []) from decide_eq_decide.mpr (by rw [← List.length_eq_zero_iff]; omega)]
  exact k
abbrev s_pscaled : Stmt := inC 28 13
abbrev N_pscaled : List Str := ["self", "c", "x"]
theorem sc_pscaled : FnScope N_pscaled ["self", "c"] (defScope s_pscaled) := ⟨rfl, rfl, rfl, by decide +kernel, rfl, by decide +kernel, by decide +kernel⟩
def pr_pscaled (ds : List D) (P : D → Prop) : Prop := ∃ (p c : Nat) (a : List Nat), okp p ∧ ds = [polD p a, rn p c] ∧ a.length ≤ 100 ∧ P (polD p (MR.trim p (a.map fun x => MR.fmul p c x)))
theorem ar_pscaled (ds : List D) (P : D → Prop) (h : pr_pscaled ds P) : ds.length = 2 := by obtain ⟨p, _, _, _, rfl, _⟩ := h; rfl
theorem ok_pscaled {M : Md} (T : Tx M) (h : MetAt M .pol "scaled" "Poly.scaled" s_pscaled) (f3 : Ct M "Poly" .pol 2 9 [] pr_pinit) (f4 : Me M .res "__mul__" 2 5 [] (pr_bin (· * ·))) : Me M .pol "scaled" 2 11 [] pr_pscaled := by
  refine me_intro h sc_pscaled rfl (fun _ _ _ _ _ _ us hl => match us, hl with | [_, _], _ => rfl) ar_pscaled fun ds P hp _ => ?_
  obtain ⟨p, c, a, hp, rfl, ha, k⟩ := hp
  refine dss_one ?_
  refine ds_ret ?_
  refine de_make f3 rfl (Nat.le_of_ble_eq_true rfl) ?_
  refine da_cons ?_
  refine de_fldA T.c4 0 ?_
  refine de_var 0 rfl rfl rfl ?_
  refine ⟨_, _, _, rfl, rfl, rfl, ?_⟩
  refine da_cons ?_
  refine de_df ?_
  refine df_lc (.nm 2) [("x", 2)] (by kernel_rfl) rfl (dg_nm rfl rfl) ?_
  refine di_tup ?_
  refine de_fldA T.c4 1 ?_
  refine de_var 0 rfl rfl rfl ?_
  refine ⟨_, _, _, rfl, rfl, rfl, ?_⟩
  refine ⟨_, rfl, ?_⟩
  refine lcI_map ((a.map fun x => MR.fmul p c x).map (rn p)) (by simp) (by simp; omega) (fun j y z hy hz => ?_) ?_
  · obtain ⟨b, hb, rfl⟩ := map_get hy
    rw [map_at (map_at hb)] at hz
    cases hz
    refine de_op ?_
    refine de_var 1 rfl rfl rfl ?_
    refine de_var 2 rfl rfl rfl ?_
    refine opd_own (op := .Mult) (T.c4 _) f4 (by decide +kernel) (Nat.le_of_ble_eq_true rfl) ?_
    exact g_mul hp rfl
  refine da_nil ?_
  exact ⟨p, _, _, _, hp, rfl, rfl, rowIt_rn p _, by rw [List.length_map]; exact ha, k⟩
abbrev s_pmonic : Stmt := inC 28 14
abbrev N_pmonic : List Str := ["self"]
theorem sc_pmonic : FnScope N_pmonic ["self"] (defScope s_pmonic) := ⟨rfl, rfl, rfl, by decide +kernel, rfl, by decide +kernel, by decide +kernel⟩
def pr_pmonic (ds : List D) (P : D → Prop) : Prop := ∃ (p : Nat) (a : List Nat), okp p ∧ ds = [polD p a] ∧ a.length ≤ 100 ∧ Tr p a ∧ P (polD p (MR.monic p a))
theorem ar_pmonic (ds : List D) (P : D → Prop) (h : pr_pmonic ds P) : ds.length = 1 := by obtain ⟨p, _, _, rfl, _⟩ := h; rfl
theorem ok_pmonic {M : Md} (T : Tx M) (h : MetAt M .pol "monic" "Poly.monic" s_pmonic) (f1 : Me M .pol "is_zero" 1 1 [] pr_pzero) (f2 : Me M .res "inverse" 1 5 [] pr_rinv) (f3 : Me M .pol "scaled" 2 11 [] pr_pscaled) : Me M .pol "monic" 1 12 [] pr_pmonic := by
  refine me_intro h sc_pmonic rfl (fun _ _ _ _ _ _ us hl => match us, hl with | [_], _ => rfl) ar_pmonic fun ds P hp _ => ?_
  obtain ⟨p, a, hp, rfl, ha, ht, k⟩ := hp
  refine dss_cons ?_
  refine ds_if ?_
  refine dt_val ?_
  refine de_meth0 (T.c4 _) f1 (by decide +kernel) (Nat.le_of_ble_eq_true rfl) ?_ _ (fun _ => rfl)
  refine de_var 0 rfl rfl rfl ?_
  refine ⟨_, rfl, ?_⟩
  refine ⟨p, a, rfl, _, rfl, fun h0 => ?_, fun h0 => ?_⟩
  · have h0' : a = [] := by simpa using h0
    subst h0'
    refine dss_one ?_
    refine ds_ret ?_
    refine de_var 0 rfl rfl rfl ?_
    exact k
  · have h0' : ¬ a = [] := by simpa using h0
    have hl : 0 < a.length := List.length_pos_iff.mpr h0'
    have hla : (a.map (rn p))[(a.map (rn p)).length - 1]? = some (rn p (MR.lastD a)) := by rw [List.length_map]; exact map_at (lastD_at hl)
    refine dss_nil ?_
    refine dss_one ?_
    refine ds_ret ?_
    refine de_meth (T.c4 _) f3 (by decide +kernel) (Nat.le_of_ble_eq_true rfl) ?_ _ (fun _ => rfl)
    refine de_var 0 rfl rfl rfl ?_
    refine ⟨_, rfl, ?_⟩
    refine da_cons ?_
    refine de_meth0 (T.c4 _) f2 (by decide +kernel) (Nat.le_of_ble_eq_true rfl) ?_ _ (fun _ => rfl)
    refine de_ix (fun _ _ => rfl) ?_
    refine de_fldA T.c4 1 ?_
    refine de_var 0 rfl rfl rfl ?_
    refine ⟨_, _, _, rfl, rfl, rfl, ?_⟩
    refine ⟨_, rfl, ?_⟩
    refine de_un ?_
    refine de_int ?_
    refine und_negI ⟨-1, _, rfl, atI_last hla, _, rfl, g_inv hp (ht.resolve_left h0') ?_⟩
    refine da_nil ?_
    refine ⟨p, _, a, hp, rfl, ha, ?_⟩
    cases a with
    | nil => exact absurd rfl h0'
    | cons a0 as => exact k
end SF

-- part M9
set_option maxHeartbeats 4000000
/-! # The program's defs, one by one: divisors, multiples, Krylov, the minimal polynomial. -/
namespace SF
open PySem PySem.Spec PyProof.Rows L2 DK

/-! ### common_divisor, common_multiple -/
theorem fmod_len {p : Nat} {a b : List Nat} (hb : 0 < b.length) : (MR.fmod p a b).length ≤ a.length := Nat.le_trans (trim_len ..) (division_len2 hb)
theorem fdiv_len {p : Nat} {a b : List Nat} (hb : 0 < b.length) : (MR.fdiv p a b).length ≤ a.length := Nat.le_trans (trim_len ..) (division_len1 hb)
theorem monic_len (p : Nat) (f : List Nat) : (MR.monic p f).length ≤ f.length := by
  cases f with
  | nil => exact Nat.le_refl _
  | cons a f =>
    refine Nat.le_trans (trim_len ..) ?_
    rw [List.length_map]
    exact Nat.le_refl _
theorem monic_tr (p : Nat) (f : List Nat) : Tr p (MR.monic p f) := by
  cases f with
  | nil => exact .inl rfl
  | cons a f => exact trim_tr ..
theorem gcd_len {p L : Nat} : ∀ {n : Nat} {f g r : List Nat}, MR.gcd p n f g = some r → f.length ≤ L → g.length ≤ L → r.length ≤ L
  | 0, f, g, r, h, _, _ => by cases h
  | n + 1, f, [], r, h, hf, _ => by
    injection h with h
    subst h
    exact Nat.le_trans (monic_len ..) hf
  | n + 1, f, b :: g, r, h, hf, hg => by
    have h' : (if MR.lastD (b :: g) % p = 0 then none else MR.gcd p n (b :: g) (MR.fmod p f (b :: g))) = some r := h
    split at h'
    · cases h'
    · exact gcd_len h' hg (Nat.le_trans (fmod_len (by simp)) hf)
abbrev s_gcd : Stmt := topS 32
abbrev N_gcd : List Str := ["f", "g"]
theorem sc_gcd : FnScope N_gcd ["f", "g"] (defScope s_gcd) := ⟨rfl, rfl, rfl, by decide +kernel, rfl, by decide +kernel, by decide +kernel⟩
def pr_gcd (ds : List D) (P : D → Prop) : Prop := ∃ (p : Nat) (f g r : List Nat), okp p ∧ ds = [polD p f, polD p g] ∧ f.length ≤ 40 ∧ g.length ≤ 40 ∧ Tr p f ∧ Tr p g ∧ MR.gcd p 9 f g = some r ∧ P (polD p r)
theorem ar_gcd (ds : List D) (P : D → Prop) (h : pr_gcd ds P) : ds.length = 2 := by obtain ⟨p, _, _, _, _, rfl, _⟩ := h; rfl
theorem ok_gcd {M : Md} (T : Tx M) (h : DefAt M "common_divisor" "common_divisor" "common_divisor" s_gcd) (f1 : Fn M "check_grounds_poly" 2 3 [] pr_cgp) (f2 : Me M .pol "is_zero" 1 1 [] pr_pzero) (f3 : Me M .pol "__mod__" 2 11 [] (pr_pdiv MR.fmod)) (f4 : Me M .pol "monic" 1 12 [] pr_pmonic) : Fn M "common_divisor" 2 13 [] pr_gcd := by
  refine fn_intro h sc_gcd rfl (fun _ _ _ _ _ _ us hl => match us, hl with | [_, _], _ => rfl) ar_gcd fun ds P hp _ => ?_
  obtain ⟨p, f, g, r, hp, rfl, hf, hg, tf, tg, hr, k⟩ := hp
  refine dss_cons ?_
  refine ds_expr ?_
  refine de_call f1 rfl (Nat.le_of_ble_eq_true rfl) ?_
  refine da_cons ?_
  refine de_var 0 rfl rfl rfl ?_
  refine da_cons ?_
  refine de_var 1 rfl rfl rfl ?_
  refine da_nil ?_
  refine ⟨p, f, g, rfl, ?_⟩
  refine dss_cons ?_
  refine ds_while (fun m Γ => ∃ f g, Γ = [some (.dat (polD p f)), some (.dat (polD p g))] ∧ f.length ≤ 40 ∧ g.length ≤ 40 ∧ Tr p f ∧ Tr p g ∧ MR.gcd p m f g = some r) 9 ⟨f, g, rfl, hf, hg, tf, tg, hr⟩ ?_
  rintro m Γ ⟨f, g, rfl, hf, hg, tf, tg, hr⟩
  cases m with
  | zero => cases hr
  | succ m =>
    refine dt_not ?_
    refine dt_val ?_
    refine de_meth0 (T.c4 _) f2 (by decide +kernel) (Nat.le_of_ble_eq_true rfl) ?_ _ (fun _ => rfl)
    refine de_var 1 rfl rfl rfl ?_
    refine ⟨_, rfl, ?_⟩
    refine ⟨p, g, rfl, _, rfl, fun h0 => ?_, fun h0 => ?_⟩
    · have h0' : ¬ g = [] := by simpa using h0
      have hl := tg.resolve_left h0'
      have hg0 : 0 < g.length := List.length_pos_iff.mpr h0'
      have hr' : MR.gcd p m g (MR.fmod p f g) = some r := by
        cases g with
        | nil => exact absurd rfl h0'
        | cons b g =>
          have h' : (if MR.lastD (b :: g) % p = 0 then none else MR.gcd p m (b :: g) (MR.fmod p f (b :: g))) = some r := hr
          rw [if_neg hl] at h'
          exact h'
      refine dss_one ?_
      refine ds_par 0 1 rfl rfl (by decide) rfl rfl ?_ (by intro env h; cases env; cases h; rfl)
      refine de_var 1 rfl rfl rfl ?_
      refine de_op ?_
      refine de_var 0 rfl rfl rfl ?_
      refine de_var 1 rfl rfl rfl ?_
      refine opd_own (op := .Mod) (T.c4 _) f3 (by decide +kernel) (Nat.le_of_ble_eq_true rfl) ?_
      refine ⟨p, f, g, hp, rfl, by omega, by omega, hg0, hl, ?_⟩
      exact ⟨m, by omega, g, MR.fmod p f g, rfl, hg, Nat.le_trans (fmod_len hg0) hf, tg, trim_tr .., hr'⟩
    · have h0' : g = [] := by simpa using h0
      subst h0'
      injection hr with hr
      subst hr
      refine dss_one ?_
      refine ds_ret ?_
      refine de_meth0 (T.c4 _) f4 (by decide +kernel) (Nat.le_of_ble_eq_true rfl) ?_ _ (fun _ => rfl)
      refine de_var 0 rfl rfl rfl ?_
      refine ⟨_, rfl, ?_⟩
      exact ⟨p, f, hp, rfl, by omega, tf, k⟩
theorem lcm_len {p : Nat} {f g r : List Nat} (h : MR.lcm p f g = some r) : r.length ≤ f.length + g.length := by
  unfold MR.lcm at h
  split at h
  · cases h
  · split at h
    · cases h
    · rename_i c hc
      split at h
      · cases h
      · rename_i hn
        injection h with h
        subst h
        have hc0 : 0 < c.length := by
          cases c with
          | nil => simp at hn
          | cons a c => simp
        refine Nat.le_trans (monic_len ..) (Nat.le_trans (fdiv_len hc0) (Nat.le_trans (trim_len ..) ?_))
        rw [show (MR.prod p f g).length = f.length + g.length - 1 by simp [MR.prod]]
        omega
theorem lcm_tr {p : Nat} {f g r : List Nat} (h : MR.lcm p f g = some r) : Tr p r := by
  unfold MR.lcm at h
  split at h
  · cases h
  · split at h
    · cases h
    · split at h
      · cases h
      · injection h with h
        subst h
        exact monic_tr ..
abbrev s_lcm : Stmt := topS 33
abbrev N_lcm : List Str := ["f", "g"]
theorem sc_lcm : FnScope N_lcm ["f", "g"] (defScope s_lcm) := ⟨rfl, rfl, rfl, by decide +kernel, rfl, by decide +kernel, by decide +kernel⟩
def pr_lcm (ds : List D) (P : D → Prop) : Prop := ∃ (p : Nat) (f g r : List Nat), okp p ∧ ds = [polD p f, polD p g] ∧ f.length ≤ 40 ∧ g.length ≤ 40 ∧ Tr p f ∧ Tr p g ∧ MR.lcm p f g = some r ∧ P (polD p r)
theorem ar_lcm (ds : List D) (P : D → Prop) (h : pr_lcm ds P) : ds.length = 2 := by obtain ⟨p, _, _, _, _, rfl, _⟩ := h; rfl
theorem ok_lcm {M : Md} (T : Tx M) (h : DefAt M "common_multiple" "common_multiple" "common_multiple" s_lcm) (f1 : Fn M "check_grounds_poly" 2 3 [] pr_cgp) (f2 : Me M .pol "is_zero" 1 1 [] pr_pzero) (f3 : Me M .pol "__mul__" 2 11 [] pr_pmul) (f4 : Me M .pol "__floordiv__" 2 11 [] (pr_pdiv MR.fdiv)) (f5 : Fn M "common_divisor" 2 13 [] pr_gcd) (f6 : Me M .pol "monic" 1 12 [] pr_pmonic) : Fn M "common_multiple" 2 14 [] pr_lcm := by
  refine fn_intro h sc_lcm rfl (fun _ _ _ _ _ _ us hl => match us, hl with | [_, _], _ => rfl) ar_lcm fun ds P hp _ => ?_
  obtain ⟨p, f, g, r, hp, rfl, hf, hg, tf, tg, hr, k⟩ := hp
  unfold MR.lcm at hr
  split at hr
  · cases hr
  rename_i hne
  have hf0 : ¬ f = [] := by intro e; subst e; simp at hne
  have hg0 : ¬ g = [] := by intro e; subst e; simp at hne
  split at hr
  · cases hr
  rename_i c hc
  split at hr
  · cases hr
  rename_i hn
  injection hr with hr
  subst hr
  have hc0 : 0 < c.length := by
    cases c with
    | nil => simp at hn
    | cons a c => simp
  have hcl : ¬ MR.lastD c % p = 0 := by intro e; simp [e] at hn
  have hcn := gcd_len (L := 40) hc hf hg
  refine dss_cons ?_
  refine ds_expr ?_
  refine de_call f1 rfl (Nat.le_of_ble_eq_true rfl) ?_
  refine da_cons ?_
  refine de_var 0 rfl rfl rfl ?_
  refine da_cons ?_
  refine de_var 1 rfl rfl rfl ?_
  refine da_nil ?_
  refine ⟨p, f, g, rfl, ?_⟩
  refine dss_cons ?_
  refine ds_if ?_
  refine dt_w ?_
  refine dw_or ?_
  refine dt_val ?_
  refine de_meth0 (T.c4 _) f2 (by decide +kernel) (Nat.le_of_ble_eq_true rfl) ?_ _ (fun _ => rfl)
  refine de_var 0 rfl rfl rfl ?_
  refine ⟨_, rfl, ?_⟩
  refine ⟨p, f, rfl, _, rfl, fun _ => ?_, no_true (decide_eq_false hf0)⟩
  refine dw_or1 ?_
  refine dt_val ?_
  refine de_meth0 (T.c4 _) f2 (by decide +kernel) (Nat.le_of_ble_eq_true rfl) ?_ _ (fun _ => rfl)
  refine de_var 1 rfl rfl rfl ?_
  refine ⟨_, rfl, ?_⟩
  refine ⟨p, g, rfl, _, rfl, no_true (decide_eq_false hg0), fun _ => ?_⟩
  refine dss_nil ?_
  refine dss_one ?_
  refine ds_ret ?_
  refine de_meth0 (T.c4 _) f6 (by decide +kernel) (Nat.le_of_ble_eq_true rfl) ?_ _ (fun _ => rfl)
  refine de_op ?_
  refine de_op ?_
  refine de_var 0 rfl rfl rfl ?_
  refine de_var 1 rfl rfl rfl ?_
  refine opd_own (op := .Mult) (T.c4 _) f3 (by decide +kernel) (Nat.le_of_ble_eq_true rfl) ?_
  refine ⟨p, f, g, hp, rfl, by omega, by omega, ?_⟩
  refine de_call f5 rfl (Nat.le_of_ble_eq_true rfl) ?_
  refine da_cons ?_
  refine de_var 0 rfl rfl rfl ?_
  refine da_cons ?_
  refine de_var 1 rfl rfl rfl ?_
  refine da_nil ?_
  refine ⟨p, f, g, c, hp, rfl, hf, hg, tf, tg, hc, ?_⟩
  have hpl : (MR.trim p (MR.prod p f g)).length ≤ 80 := Nat.le_trans (trim_len ..) (by simp [MR.prod]; omega)
  refine opd_own (op := .FloorDiv) (T.c4 _) f4 (by decide +kernel) (Nat.le_of_ble_eq_true rfl) ?_
  refine ⟨p, _, c, hp, rfl, by omega, by omega, hc0, hcl, _, rfl, ?_⟩
  exact ⟨p, _, hp, rfl, Nat.le_trans (fdiv_len hc0) (by omega), trim_tr .., k⟩

/-! ### Krylov -/
abbrev s_ownrow : Stmt := topS 50
abbrev N_ownrow : List Str := ["a", "v", "x"]
theorem sc_ownrow : FnScope N_ownrow ["a", "v"] (defScope s_ownrow) := ⟨rfl, rfl, rfl, by decide +kernel, rfl, by decide +kernel, by decide +kernel⟩
def pr_ownrow (ds : List D) (P : D → Prop) : Prop := ∃ (p n : Nat) (a : List (List Nat)) (v : List Nat), okp p ∧ Sq n a ∧ v.length = n ∧ ds = [matD p a n, rT p v] ∧ P (rT p v)
theorem ar_ownrow (ds : List D) (P : D → Prop) (h : pr_ownrow ds P) : ds.length = 2 := by obtain ⟨p, _, _, _, _, _, _, rfl, _⟩ := h; rfl
theorem ok_ownrow {M : Md} (T : Tx M) (h : DefAt M "own_row" "own_row" "own_row" s_ownrow) (f1 : Fn M "check_square" 1 1 [] pr_csq) (f2 : Me M .gr "is_member" 2 1 [] pr_gmem) : Fn M "own_row" 2 2 [] pr_ownrow := by
  refine fn_intro h sc_ownrow rfl (fun _ _ _ _ _ _ us hl => match us, hl with | [_, _], _ => rfl) ar_ownrow fun ds P hp _ => ?_
  obtain ⟨p, n, a, v, hp, ha, hv, rfl, k⟩ := hp
  refine dss_cons ?_
  refine ds_expr ?_
  refine de_call f1 rfl (Nat.le_of_ble_eq_true rfl) ?_
  refine da_cons ?_
  refine de_var 0 rfl rfl rfl ?_
  refine da_nil ?_
  refine ⟨p, n, a, ha, rfl, ?_⟩
  refine dss_cons ?_
  refine ds_if ?_
  refine dt_w ?_
  refine dw_or ?_
  refine dt_not ?_
  refine dt_val ?_
  refine de_isi2 (T := "list") (T2 := "tuple") T.c4 rfl T.g_isi rfl T.g_list (by decide +kernel) rfl T.g_tuple (by decide +kernel) ?_
  refine de_var 1 rfl rfl rfl ?_
  refine isSeq_ok (rs := v.map (rn p)) rfl ⟨true, rfl, fun _ => ?_, fun h => by cases h⟩
  refine dw_or1 ?_
  refine dt_cmp (nomark _) ?_
  refine de_callB rfl T.g_len PySem.boot_len (da_cons ?_)
  refine de_var 1 rfl rfl rfl ?_
  refine da_nil (cd_len rfl ?_)
  refine de_fldA T.c4 2 ?_
  refine de_var 0 rfl rfl rfl ?_
  refine ⟨_, _, _, rfl, rfl, rfl, ?_⟩
  refine opd_neI ?_
  refine ⟨_, rfl, no_true (by simp [hv]), fun _ => ?_⟩
  refine dss_nil ?_
  refine dss_cons ?_
  refine ds_for (.nm 2) (dg_nm rfl rfl) ?_
  refine di_tup ?_
  refine de_var 1 rfl rfl rfl ?_
  refine ⟨_, rfl, ?_⟩
  refine ⟨fun i Γ => ∃ e, Γ = [some (.dat (matD p a n)), some (.dat (rT p v)), e], ⟨none, rfl⟩, ?_, ?_⟩
  · rintro i x Γ hi ⟨e, rfl⟩
    obtain ⟨c, hc, rfl⟩ := map_get hi
    refine dss_one ?_
    refine ds_if ?_
    refine dt_not ?_
    refine dt_val ?_
    refine de_meth (T.c4 _) f2 (by decide +kernel) (Nat.le_of_ble_eq_true rfl) ?_ _ (fun _ => rfl)
    refine de_fldA T.c4 0 ?_
    refine de_var 0 rfl rfl rfl ?_
    refine ⟨_, _, _, rfl, rfl, rfl, ?_⟩
    refine ⟨_, rfl, ?_⟩
    refine da_cons ?_
    refine de_var 2 rfl rfl rfl ?_
    refine da_nil ?_
    refine ⟨p, c, hp, rfl, true, rfl, (fun h => by cases h), fun _ => ?_⟩
    refine dss_nil ?_
    exact ⟨_, rfl⟩
  · rintro Γ ⟨e, rfl⟩
    refine dss_one ?_
    refine ds_ret ?_
    refine de_callTy (T := "tuple") rfl T.g_tuple (by decide +kernel) ?_
    refine da_cons ?_
    refine de_var 1 rfl rfl rfl ?_
    refine da_nil ?_
    exact cd_tupT k
theorem firstSol_len {p L : Nat} : ∀ {K : List (List Nat)} {s : List Nat}, MR.firstSol p K = some s → (∀ r ∈ K, r.length = L + 1) → s.length = L
  | [], _, h, _ => by cases h
  | r :: K, s, h, hl => by
    have h' : (if MR.lastD r % p = 0 then MR.firstSol p K else some (r.dropLast.map fun x => MR.fmul p x (MR.lastD r))) = some s := h
    split at h'
    · exact firstSol_len h' fun r hr => hl r (List.mem_cons_of_mem _ hr)
    · injection h' with h'
      subst h'
      rw [List.length_map, List.length_dropLast, hl r (List.mem_cons_self ..)]
      rfl
theorem solve_len {p n : Nat} {rows : List (List Nat)} {w s : List Nat} (h : MR.solve p rows n w = some s) (hr : ∀ r ∈ rows, r.length = n) (hw : w.length = n) : s.length = rows.length := by
  refine firstSol_len h fun r hm => ?_
  rw [kernel_w (w := n) (fun r hm => ?_) r hm]
  · simp
  · rcases List.mem_append.mp hm with hm | hm
    · exact hr r hm
    · rw [List.mem_singleton.mp hm, List.length_map, hw]
/-- what the Krylov walk keeps -/
theorem krylov_w {p n : Nat} {a : List (List Nat)} (ha : Sq n a) : ∀ {m : Nat} {rows R : List (List Nat)} {row r : List Nat}, MR.krylov p a n m rows row = some (R, r) → (∀ r ∈ rows, r.length = n) → row.length = n → (∀ r ∈ R, r.length = n) ∧ r.length = n ∧ R.length ≤ rows.length + m
  | 0, _, _, _, _, h, _, _ => by cases h
  | m + 1, rows, R, row, r, h, hr, hw => by
    have h' : (match MR.solve p rows n row with
      | some _ => some (rows, row)
      | none => MR.krylov p a n m (rows ++ [row]) (MR.rowTimes p row a n)) = some (R, r) := h
    split at h'
    · injection h' with h'
      injection h' with h1 h2
      subst h1 h2
      exact ⟨hr, hw, by omega⟩
    · obtain ⟨h1, h2, h3⟩ := krylov_w ha h' (fun r hm => by
        rcases List.mem_append.mp hm with hm | hm
        · exact hr r hm
        · rw [List.mem_singleton.mp hm, hw]) (rowTimes_len ha.2)
      refine ⟨h1, h2, ?_⟩
      rw [List.length_append, List.length_singleton] at h3
      omega
abbrev s_krylov : Stmt := topS 51
abbrev N_krylov : List Str := ["a", "v", "rows", "row"]
theorem sc_krylov : FnScope N_krylov ["a", "v"] (defScope s_krylov) := ⟨rfl, rfl, rfl, by decide +kernel, rfl, by decide +kernel, by decide +kernel⟩
def pr_krylov (ds : List D) (P : D → Prop) : Prop := ∃ (p n : Nat) (a R : List (List Nat)) (v r : List Nat), okp p ∧ Sq n a ∧ n ≤ 4 ∧ v.length = n ∧ ds = [matD p a n, rT p v] ∧ MR.krylov p a n (n + 1) [] v = some (R, r) ∧ P (.tup [.lst (R.map (rT p)), rT p r])
theorem ar_krylov (ds : List D) (P : D → Prop) (h : pr_krylov ds P) : ds.length = 2 := by obtain ⟨p, _, _, _, _, _, _, _, _, _, rfl, _⟩ := h; rfl
theorem ok_krylov {M : Md} (T : Tx M) (h : DefAt M "krylov_rows" "krylov_rows" "krylov_rows" s_krylov) (f1 : Fn M "solve" 2 9 [] pr_solve) (f2 : Ct M "Matrix" .mat 3 10 [] pr_minit) (f3 : Me M .mat "before" 2 10 [] pr_mbef) : Fn M "krylov_rows" 2 12 [] pr_krylov := by
  refine fn_intro h sc_krylov rfl (fun _ _ _ _ _ _ us hl => match us, hl with | [_, _], _ => rfl) ar_krylov fun ds P hp _ => ?_
  obtain ⟨p, n, a, R, v, r, hp, ha, hn, hv, rfl, hk, k⟩ := hp
  refine dss_cons ?_
  refine ds_set 2 rfl rfl ?_
  refine de_df ?_
  refine df_lst ?_
  refine da_nil ?_
  refine ⟨by simp, ?_⟩
  refine dss_cons ?_
  refine ds_set 3 rfl rfl ?_
  refine de_var 1 rfl rfl rfl ?_
  refine dss_cons ?_
  refine ds_while (fun m Γ => ∃ rows row, Γ = [some (.dat (matD p a n)), some (.dat (rT p v)), some (.dat (.lst (rows.map (rT p)))), some (.dat (rT p row))] ∧ rows.length + m ≤ n + 1 ∧ (∀ r ∈ rows, r.length = n) ∧ row.length = n ∧ MR.krylov p a n m rows row = some (R, r)) (n + 1)
    ⟨[], v, rfl, by simp, (fun _ h => nomatch h), hv, hk⟩ ?_
  rintro m Γ ⟨rows, row, rfl, hm, hr, hw, hk⟩
  cases m with
  | zero => cases hk
  | succ m =>
    have h' : (match MR.solve p rows n row with
      | some _ => some (rows, row)
      | none => MR.krylov p a n m (rows ++ [row]) (MR.rowTimes p row a n)) = some (R, r) := hk
    refine dt_cmp (nomark _) ?_
    refine de_call f1 rfl (Nat.le_of_ble_eq_true rfl) ?_
    refine da_cons ?_
    refine de_make f2 rfl (Nat.le_of_ble_eq_true rfl) ?_
    refine da_cons ?_
    refine de_fldA T.c4 0 ?_
    refine de_var 0 rfl rfl rfl ?_
    refine ⟨_, _, _, rfl, rfl, rfl, ?_⟩
    refine da_cons ?_
    refine de_var 2 rfl rfl rfl ?_
    refine da_cons ?_
    refine de_fldA T.c4 2 ?_
    refine de_var 0 rfl rfl rfl ?_
    refine ⟨_, _, _, rfl, rfl, rfl, ?_⟩
    refine da_nil ?_
    refine ⟨p, .lst (rows.map (rT p)), _, rows, n, hp, rfl, rfl, rowsIt_T p rows, by omega, by omega, hr, ?_⟩
    refine da_cons ?_
    refine de_var 3 rfl rfl rfl ?_
    refine da_nil ?_
    refine ⟨p, n, rows, row, hp, rfl, hr, hw, by omega, by omega, ?_⟩
    cases hs : MR.solve p rows n row with
    | some s =>
      rw [hs] at h'
      injection h' with h'
      injection h' with h1 h2
      subst h1 h2
      refine de_non ?_
      refine opd_isN ?_
      refine ⟨_, rfl, (fun h => by cases h), fun _ => ?_⟩
      refine dss_one ?_
      refine ds_ret ?_
      refine de_tup ?_
      refine da_cons ?_
      refine de_var 2 rfl rfl rfl ?_
      refine da_cons ?_
      refine de_var 3 rfl rfl rfl ?_
      refine da_nil ?_
      exact ⟨by simp, k⟩
    | none =>
      rw [hs] at h'
      refine de_non ?_
      refine opd_isN ?_
      refine ⟨_, rfl, fun _ => ?_, fun h => by cases h⟩
      refine dss_cons ?_
      refine ds_set 2 rfl rfl ?_
      refine de_op ?_
      refine de_var 2 rfl rfl rfl ?_
      refine de_df ?_
      refine df_lst ?_
      refine da_cons ?_
      refine de_var 3 rfl rfl rfl ?_
      refine da_nil ?_
      refine ⟨by simp, ?_⟩
      refine opd_cat (by simp; omega) ?_
      refine dss_one ?_
      refine ds_set 3 rfl rfl ?_
      refine de_meth (T.c4 _) f3 (by decide +kernel) (Nat.le_of_ble_eq_true rfl) ?_ _ (fun _ => rfl)
      refine de_var 0 rfl rfl rfl ?_
      refine ⟨_, rfl, ?_⟩
      refine da_cons ?_
      refine de_var 3 rfl rfl rfl ?_
      refine da_nil ?_
      refine ⟨p, n, a, row, hp, ha, hw, by omega, rfl, ?_⟩
      refine ⟨m, by omega, rows ++ [row], MR.rowTimes p row a n, ?_, by simp; omega, fun r hm => ?_, rowTimes_len ha.2, h'⟩
      · rw [List.map_append]
        rfl
      · rcases List.mem_append.mp hm with hm | hm
        · exact hr r hm
        · rw [List.mem_singleton.mp hm, hw]
abbrev s_annih : Stmt := topS 52
abbrev N_annih : List Str := ["a", "v", "rows", "row", "weights", "c"]
theorem sc_annih : FnScope N_annih ["a", "v"] (defScope s_annih) := ⟨rfl, rfl, rfl, by decide +kernel, rfl, by decide +kernel, by decide +kernel⟩
def pr_annih (ds : List D) (P : D → Prop) : Prop := ∃ (p n : Nat) (a : List (List Nat)) (v r : List Nat), okp p ∧ Sq n a ∧ n ≤ 4 ∧ v.length = n ∧ ds = [matD p a n, rT p v] ∧ MR.annih p a n v = some r ∧ P (polD p r)
theorem ar_annih (ds : List D) (P : D → Prop) (h : pr_annih ds P) : ds.length = 2 := by obtain ⟨p, _, _, _, _, _, _, _, _, rfl, _⟩ := h; rfl
theorem ok_annih {M : Md} (T : Tx M) (h : DefAt M "annihilator" "annihilator" "annihilator" s_annih) (f1 : Fn M "solve" 2 9 [] pr_solve) (f2 : Ct M "Matrix" .mat 3 10 [] pr_minit) (f3 : Fn M "krylov_rows" 2 12 [] pr_krylov) (f4 : Fn M "own_row" 2 2 [] pr_ownrow) (f5 : Me M .gr "one" 1 8 [] (pr_gc 1)) (f6 : Me M .res "__neg__" 1 5 [] pr_rneg) (f7 : Ct M "Poly" .pol 2 9 [] pr_pinit) : Fn M "annihilator" 2 13 [] pr_annih := by
  refine fn_intro h sc_annih rfl (fun _ _ _ _ _ _ us hl => match us, hl with | [_, _], _ => rfl) ar_annih fun ds P hp _ => ?_
  obtain ⟨p, n, a, v, r, hp, ha, hn, hv, rfl, hk, k⟩ := hp
  unfold MR.annih at hk
  split at hk
  · cases hk
  rename_i R row hkr
  split at hk
  · cases hk
  rename_i w hs
  injection hk with hk
  subst hk
  obtain ⟨hR, hrow, hRn⟩ := krylov_w ha hkr (fun _ h => nomatch h) hv
  have hwl := solve_len hs hR hrow
  have hRn' : R.length ≤ n + 1 := by simpa using hRn
  refine dss_cons ?_
  refine ds_unp (.pr 2 3) (dg_pr rfl rfl rfl rfl) ?_
  refine de_call f3 rfl (Nat.le_of_ble_eq_true rfl) ?_
  refine da_cons ?_
  refine de_var 0 rfl rfl rfl ?_
  refine da_cons ?_
  refine de_call f4 rfl (Nat.le_of_ble_eq_true rfl) ?_
  refine da_cons ?_
  refine de_var 0 rfl rfl rfl ?_
  refine da_cons ?_
  refine de_var 1 rfl rfl rfl ?_
  refine da_nil ?_
  refine ⟨p, n, a, v, hp, ha, hv, rfl, ?_⟩
  refine da_nil ?_
  refine ⟨p, n, a, R, v, row, hp, ha, hn, hv, rfl, hkr, _, _, rfl, ?_⟩
  refine dss_cons ?_
  refine ds_set 4 rfl rfl ?_
  refine de_call f1 rfl (Nat.le_of_ble_eq_true rfl) ?_
  refine da_cons ?_
  refine de_make f2 rfl (Nat.le_of_ble_eq_true rfl) ?_
  refine da_cons ?_
  refine de_fldA T.c4 0 ?_
  refine de_var 0 rfl rfl rfl ?_
  refine ⟨_, _, _, rfl, rfl, rfl, ?_⟩
  refine da_cons ?_
  refine de_var 2 rfl rfl rfl ?_
  refine da_cons ?_
  refine de_fldA T.c4 2 ?_
  refine de_var 0 rfl rfl rfl ?_
  refine ⟨_, _, _, rfl, rfl, rfl, ?_⟩
  refine da_nil ?_
  refine ⟨p, .lst (R.map (rT p)), _, R, n, hp, rfl, rfl, rowsIt_T p R, by omega, by omega, hR, ?_⟩
  refine da_cons ?_
  refine de_var 3 rfl rfl rfl ?_
  refine da_nil ?_
  refine ⟨p, n, R, row, hp, rfl, hR, hrow, by omega, by omega, ?_⟩
  rw [hs]
  refine dss_one ?_
  refine ds_ret ?_
  refine de_make f7 rfl (Nat.le_of_ble_eq_true rfl) ?_
  refine da_cons ?_
  refine de_fldA T.c4 0 ?_
  refine de_var 0 rfl rfl rfl ?_
  refine ⟨_, _, _, rfl, rfl, rfl, ?_⟩
  refine da_cons ?_
  refine de_op ?_
  refine de_df ?_
  refine df_lc (.nm 5) [("c", 5)] (by kernel_rfl) rfl (dg_nm rfl rfl) ?_
  refine di_tup ?_
  refine de_var 4 rfl rfl rfl ?_
  refine ⟨_, rfl, ?_⟩
  refine lcI_map ((w.map (MR.fneg p)).map (rn p)) (by simp) (by simp; omega) (fun j y z hy hz => ?_) ?_
  · obtain ⟨b, hb, rfl⟩ := map_get hy
    rw [map_at (map_at hb)] at hz
    cases hz
    refine de_un ?_
    refine de_var 5 rfl rfl rfl ?_
    refine und_neg (T.c4 _) f6 (Nat.le_of_ble_eq_true rfl) ?_
    exact g_neg hp rfl
  refine de_df ?_
  refine df_lst ?_
  refine da_cons ?_
  refine de_meth0 (T.c4 _) f5 (by decide +kernel) (Nat.le_of_ble_eq_true rfl) ?_ _ (fun _ => rfl)
  refine de_fldA T.c4 0 ?_
  refine de_var 0 rfl rfl rfl ?_
  refine ⟨_, _, _, rfl, rfl, rfl, ?_⟩
  refine ⟨_, rfl, ?_⟩
  refine ⟨p, hp, rfl, ?_⟩
  refine da_nil ?_
  refine ⟨by simp, ?_⟩
  refine opd_cat (by simp; omega) ?_
  refine da_nil ?_
  have e : (w.map (MR.fneg p)).map (rn p) ++ [rz p 1] = (w.map (MR.fneg p) ++ [1]).map (rn p) := by rw [List.map_append]; rfl
  rw [e]
  exact ⟨p, _, _, _, hp, rfl, rfl, rowIt_rn p _, by simp; omega, k⟩

/-! ### the minimal polynomial -/
def mstep (p : Nat) (a : List (List Nat)) (n : Nat) (t : Option (List Nat)) (r : List Nat) : Option (List Nat) := match t with
  | none => none
  | some t => match MR.annih p a n r with
    | none => none
    | some g => MR.lcm p t g
theorem minpoly_eq (p : Nat) (a : List (List Nat)) (n : Nat) : MR.minpoly p a n = (MR.unit n).foldl (mstep p a n) (some [1]) := rfl
theorem mstep_none {p n : Nat} {a : List (List Nat)} (l : List (List Nat)) : l.foldl (mstep p a n) none = none := by
  induction l with
  | nil => rfl
  | cons r l ih => exact ih
theorem annih_len {p n : Nat} {a : List (List Nat)} {v r : List Nat} (ha : Sq n a) (hv : v.length = n) (h : MR.annih p a n v = some r) : r.length ≤ n + 2 ∧ Tr p r := by
  unfold MR.annih at h
  split at h
  · cases h
  rename_i R row hkr
  split at h
  · cases h
  rename_i w hs
  injection h with h
  subst h
  obtain ⟨hR, hrow, hRn⟩ := krylov_w ha hkr (fun _ h => nomatch h) hv
  have hwl := solve_len hs hR hrow
  have hRn' : R.length ≤ n + 1 := by simpa using hRn
  refine ⟨Nat.le_trans (trim_len ..) (by simp; omega), trim_tr ..⟩
theorem minpoly_len {p n : Nat} {a : List (List Nat)} (ha : Sq n a) : ∀ (l : List (List Nat)) {t r : List Nat}, l.foldl (mstep p a n) (some t) = some r → (∀ v ∈ l, v.length = n) → r.length ≤ t.length + l.length * (n + 2)
  | [], t, r, h, _ => by injection h with h; subst h; simp
  | v :: l, t, r, h, hl => by
    have h' : l.foldl (mstep p a n) (mstep p a n (some t) v) = some r := h
    cases hs : mstep p a n (some t) v with
    | none => rw [hs, mstep_none] at h'; cases h'
    | some u =>
      rw [hs] at h'
      have ih := minpoly_len ha l h' fun v hv => hl v (List.mem_cons_of_mem _ hv)
      unfold mstep at hs
      simp only at hs
      split at hs
      · cases hs
      · rename_i g hg
        have := lcm_len hs
        have := (annih_len ha (hl v (List.mem_cons_self ..)) hg).1
        rw [List.length_cons, Nat.succ_mul]
        omega
abbrev s_minpoly : Stmt := topS 53
abbrev N_minpoly : List Str := ["a", "total", "row"]
theorem sc_minpoly : FnScope N_minpoly ["a"] (defScope s_minpoly) := ⟨rfl, rfl, rfl, by decide +kernel, rfl, by decide +kernel, by decide +kernel⟩
def pr_minpoly (ds : List D) (P : D → Prop) : Prop := ∃ (p n : Nat) (a : List (List Nat)) (r : List Nat), okp p ∧ Sq n a ∧ n ≤ 4 ∧ ds = [matD p a n] ∧ MR.minpoly p a n = some r ∧ P (polD p r)
theorem ar_minpoly (ds : List D) (P : D → Prop) (h : pr_minpoly ds P) : ds.length = 1 := by obtain ⟨p, _, _, _, _, _, _, rfl, _⟩ := h; rfl
theorem ok_minpoly {M : Md} (T : Tx M) (h : DefAt M "minimal_polynomial" "minimal_polynomial" "minimal_polynomial" s_minpoly) (f1 : Fn M "check_square" 1 1 [] pr_csq) (f2 : Ct M "Poly" .pol 2 9 [] pr_pinit) (f3 : Me M .gr "one" 1 8 [] (pr_gc 1)) (f4 : Fn M "unit" 2 12 [] pr_unit) (f5 : Fn M "common_multiple" 2 14 [] pr_lcm) (f6 : Fn M "annihilator" 2 13 [] pr_annih) : Fn M "minimal_polynomial" 1 15 [] pr_minpoly := by
  refine fn_intro h sc_minpoly rfl (fun _ _ _ _ _ _ us hl => match us, hl with | [_], _ => rfl) ar_minpoly fun ds P hp _ => ?_
  obtain ⟨p, n, a, r, hp, ha, hn, rfl, hk, k⟩ := hp
  have ht1 : MR.trim p [1] = [1] := by rcases hp with rfl | rfl <;> rfl
  have hTr1 : Tr p [1] := by rw [← ht1]; exact trim_tr ..
  refine dss_cons ?_
  refine ds_expr ?_
  refine de_call f1 rfl (Nat.le_of_ble_eq_true rfl) ?_
  refine da_cons ?_
  refine de_var 0 rfl rfl rfl ?_
  refine da_nil ?_
  refine ⟨p, n, a, ha, rfl, ?_⟩
  refine dss_cons ?_
  refine ds_set 1 rfl rfl ?_
  refine de_make f2 rfl (Nat.le_of_ble_eq_true rfl) ?_
  refine da_cons ?_
  refine de_fldA T.c4 0 ?_
  refine de_var 0 rfl rfl rfl ?_
  refine ⟨_, _, _, rfl, rfl, rfl, ?_⟩
  refine da_cons ?_
  refine de_df ?_
  refine df_lst ?_
  refine da_cons ?_
  refine de_meth0 (T.c4 _) f3 (by decide +kernel) (Nat.le_of_ble_eq_true rfl) ?_ _ (fun _ => rfl)
  refine de_fldA T.c4 0 ?_
  refine de_var 0 rfl rfl rfl ?_
  refine ⟨_, _, _, rfl, rfl, rfl, ?_⟩
  refine ⟨_, rfl, ?_⟩
  refine ⟨p, hp, rfl, ?_⟩
  refine da_nil ?_
  refine ⟨by simp, ?_⟩
  refine da_nil ?_
  refine ⟨p, _, _, [1], hp, rfl, rfl, rowIt_rn p [1], by simp, ?_⟩
  rw [ht1]
  refine dss_cons ?_
  refine ds_for (.nm 2) (dg_nm rfl rfl) ?_
  refine di_tup ?_
  refine de_fldA T.c4 1 ?_
  refine de_call f4 rfl (Nat.le_of_ble_eq_true rfl) ?_
  refine da_cons ?_
  refine de_fldA T.c4 0 ?_
  refine de_var 0 rfl rfl rfl ?_
  refine ⟨_, _, _, rfl, rfl, rfl, ?_⟩
  refine da_cons ?_
  refine de_fldA T.c4 2 ?_
  refine de_var 0 rfl rfl rfl ?_
  refine ⟨_, _, _, rfl, rfl, rfl, ?_⟩
  refine da_nil ?_
  refine ⟨p, n, hp, by omega, rfl, ?_⟩
  refine ⟨_, _, _, rfl, rfl, rfl, ?_⟩
  refine ⟨_, rfl, ?_⟩
  have hul := (unit_sq n).1
  rw [minpoly_eq] at hk
  refine ⟨fun i Γ => ∃ t e2, Γ = [some (.dat (matD p a n)), some (.dat (polD p t)), e2] ∧ i ≤ n ∧ t.length ≤ 1 + i * (n + 2) ∧ Tr p t ∧ ((MR.unit n).drop i).foldl (mstep p a n) (some t) = some r, ⟨[1], none, rfl, by omega, by simp, hTr1, hk⟩, ?_, ?_⟩
  · rintro i x Γ hi ⟨t, e2, rfl, hin, htl, htr, hf⟩
    obtain ⟨v, hv, rfl⟩ := map_get hi
    have hlt : i < (MR.unit n).length := (List.getElem?_eq_some_iff.mp hv).1
    have hvl : v.length = n := (unit_sq n).2 v (List.mem_of_getElem? hv)
    have hi3 : i < n := by rw [hul] at hlt; exact hlt
    have ev : (MR.unit n)[i] = v := by rw [List.getElem?_eq_getElem hlt] at hv; exact Option.some.inj hv
    rw [List.drop_eq_getElem_cons hlt, List.foldl_cons, ev] at hf
    cases hs : mstep p a n (some t) v with
    | none => rw [hs, mstep_none] at hf; cases hf
    | some u =>
      rw [hs] at hf
      unfold mstep at hs
      simp only at hs
      split at hs
      · cases hs
      · rename_i g hg
        obtain ⟨hgl, hgt⟩ := annih_len ha hvl hg
        have hul2 := lcm_len hs
        have htb : i * (n + 2) ≤ 4 * 6 := Nat.mul_le_mul (by omega) (by omega)
        refine dss_one ?_
        refine ds_set 1 rfl rfl ?_
        refine de_call f5 rfl (Nat.le_of_ble_eq_true rfl) ?_
        refine da_cons ?_
        refine de_var 1 rfl rfl rfl ?_
        refine da_cons ?_
        refine de_call f6 rfl (Nat.le_of_ble_eq_true rfl) ?_
        refine da_cons ?_
        refine de_var 0 rfl rfl rfl ?_
        refine da_cons ?_
        refine de_var 2 rfl rfl rfl ?_
        refine da_nil ?_
        refine ⟨p, n, a, v, g, hp, ha, hn, hvl, rfl, hg, ?_⟩
        refine da_nil ?_
        refine ⟨p, t, g, u, hp, rfl, by omega, by omega, htr, hgt, hs, ?_⟩
        exact ⟨u, _, rfl, hi3, by rw [Nat.succ_mul]; omega, lcm_tr hs, hf⟩
  · rintro Γ ⟨t, e2, rfl, hin, htl, htr, hf⟩
    rw [List.length_map, List.drop_length] at hf
    injection hf with hf
    subst hf
    refine dss_one ?_
    refine ds_ret ?_
    refine de_var 1 rfl rfl rfl ?_
    exact k
end SF

-- part M10
set_option maxHeartbeats 4000000
/-! # The program's defs, one by one: commuting matrices. -/
namespace SF
open PySem PySem.Spec PyProof.Rows L2 DK

abbrev s_cgc : Stmt := topS 55
abbrev N_cgc : List Str := ["a", "b"]
theorem sc_cgc : FnScope N_cgc ["a", "b"] (defScope s_cgc) := ⟨rfl, rfl, rfl, by decide +kernel, rfl, by decide +kernel, by decide +kernel⟩
def pr_cgc (ds : List D) (P : D → Prop) : Prop := ∃ (p n m : Nat) (a b : List (List Nat)), Sq n a ∧ Sq m b ∧ ds = [matD p a n, matD p b m] ∧ P .non
theorem ar_cgc (ds : List D) (P : D → Prop) (h : pr_cgc ds P) : ds.length = 2 := by obtain ⟨p, _, _, _, _, _, _, rfl, _⟩ := h; rfl
theorem ok_cgc {M : Md} (T : Tx M) (h : DefAt M "check_grounds_commuting" "check_grounds" "check_grounds" s_cgc) (f1 : Me M .gr "__eq__" 2 1 [] pr_geq) (f2 : Fn M "check_square" 1 1 [] pr_csq) : Fn M "check_grounds_commuting" 2 3 [] pr_cgc := by
  refine fn_intro h sc_cgc rfl (fun _ _ _ _ _ _ us hl => match us, hl with | [_, _], _ => rfl) ar_cgc fun ds P hp _ => ?_
  obtain ⟨p, n, m, a, b, ha, hb, rfl, k⟩ := hp
  refine dss_cons ?_
  refine ds_expr ?_
  refine de_call f2 rfl (Nat.le_of_ble_eq_true rfl) ?_
  refine da_cons ?_
  refine de_var 0 rfl rfl rfl ?_
  refine da_nil ?_
  refine ⟨p, n, a, ha, rfl, ?_⟩
  refine dss_cons ?_
  refine ds_expr ?_
  refine de_call f2 rfl (Nat.le_of_ble_eq_true rfl) ?_
  refine da_cons ?_
  refine de_var 1 rfl rfl rfl ?_
  refine da_nil ?_
  refine ⟨p, m, b, hb, rfl, ?_⟩
  refine dss_one ?_
  refine ds_if ?_
  refine dt_cmp (nomark _) ?_
  refine de_fldA T.c4 0 ?_
  refine de_var 0 rfl rfl rfl ?_
  refine ⟨_, _, _, rfl, rfl, rfl, ?_⟩
  refine de_fldA T.c4 0 ?_
  refine de_var 1 rfl rfl rfl ?_
  refine ⟨_, _, _, rfl, rfl, rfl, ?_⟩
  refine opd_ne (T.c4 _) (T.ne _) f1 (Nat.le_of_ble_eq_true rfl) ?_
  refine ⟨p, p, rfl, _, rfl, _, rfl, no_true (by simp), fun _ => ?_⟩
  refine dss_nil ?_
  exact k

/-! ### condition_rows -/
theorem lt_sq {k j n : Nat} (hk : k < n) (hj : j < n) : k * n + j < n * n := by
  have h := Nat.mul_le_mul_right n (show k + 1 ≤ n by omega)
  rw [Nat.succ_mul] at h
  omega
def stA (p : Nat) (a : List (List Nat)) (n i j : Nat) (r : List Nat) (k : Nat) : List Nat := r.set (k * n + j) (MR.fadd p (r.getD (k * n + j) 0) ((a.getD k []).getD i 0))
def stB (p : Nat) (a : List (List Nat)) (n i j : Nat) (r : List Nat) (k : Nat) : List Nat := r.set (i * n + k) (MR.fsub p (r.getD (i * n + k) 0) ((a.getD j []).getD k 0))
def rwA (p : Nat) (a : List (List Nat)) (n i j t : Nat) : List Nat := (List.range t).foldl (stA p a n i j) (List.replicate (n * n) 0)
def rwB (p : Nat) (a : List (List Nat)) (n i j t : Nat) : List Nat := (List.range t).foldl (stB p a n i j) (rwA p a n i j n)
theorem condRow_eq (p : Nat) (a : List (List Nat)) (n i j : Nat) : MR.condRow p a n i j = rwB p a n i j n := rfl
theorem rwA_succ (p : Nat) (a : List (List Nat)) (n i j t : Nat) : rwA p a n i j (t + 1) = stA p a n i j (rwA p a n i j t) t := by
  unfold rwA
  rw [List.range_succ, List.foldl_append]
  rfl
theorem rwB_succ (p : Nat) (a : List (List Nat)) (n i j t : Nat) : rwB p a n i j (t + 1) = stB p a n i j (rwB p a n i j t) t := by
  unfold rwB
  rw [List.range_succ, List.foldl_append]
  rfl
theorem rwA_len (p : Nat) (a : List (List Nat)) (n i j : Nat) : ∀ t, (rwA p a n i j t).length = n * n
  | 0 => by unfold rwA; simp
  | t + 1 => by rw [rwA_succ]; unfold stA; rw [List.length_set, rwA_len p a n i j t]
theorem rwB_len (p : Nat) (a : List (List Nat)) (n i j : Nat) : ∀ t, (rwB p a n i j t).length = n * n
  | 0 => rwA_len p a n i j n
  | t + 1 => by rw [rwB_succ]; unfold stB; rw [List.length_set, rwB_len p a n i j t]
theorem ixN_nat {n i : Nat} (h : i < n) : L2.ixN n (i : Int) = some i := by
  unfold L2.ixN
  rw [if_pos (by omega), if_pos (by omega), Int.toNat_natCast]
def cnds (p : Nat) (a : List (List Nat)) (n i : Nat) : List (List Nat) := (List.range i).flatMap fun i => (List.range n).map fun j => MR.condRow p a n i j
theorem cnds_succ (p : Nat) (a : List (List Nat)) (n i : Nat) : cnds p a n (i + 1) = cnds p a n i ++ (List.range n).map (MR.condRow p a n i) := by
  unfold cnds
  rw [List.range_succ, List.flatMap_append]
  simp
theorem cnds_len (p : Nat) (a : List (List Nat)) (n : Nat) : ∀ i, (cnds p a n i).length = i * n
  | 0 => by simp [cnds]
  | i + 1 => by rw [cnds_succ, List.length_append, cnds_len p a n i, List.length_map, List.length_range, Nat.succ_mul]
theorem cond_len (p : Nat) (a : List (List Nat)) (n : Nat) : (MR.condRows p a n).length = n * n := cnds_len p a n n
theorem cond_w (p : Nat) (a : List (List Nat)) (n : Nat) : ∀ r ∈ MR.condRows p a n, r.length = n * n := fun r hr => by
  obtain ⟨i, _, h⟩ := List.mem_flatMap.mp hr
  obtain ⟨j, _, rfl⟩ := List.mem_map.mp h
  exact rwB_len p a n i j n
theorem map_set {p : Nat} {r : List Nat} {k x : Nat} : (r.map (rn p)).set k (rn p x) = (r.set k x).map (rn p) := by rw [List.map_set]
abbrev s_cond : Stmt := topS 57
abbrev N_cond : List Str := ["a", "b", "m", "n", "found", "i", "j", "row", "k"]
theorem sc_cond : FnScope N_cond ["a", "b"] (defScope s_cond) := ⟨rfl, rfl, rfl, by decide +kernel, rfl, by decide +kernel, by decide +kernel⟩
def pr_cond (ds : List D) (P : D → Prop) : Prop := ∃ (p n : Nat) (a : List (List Nat)), okp p ∧ Sq n a ∧ n ≤ 4 ∧ ds = [matD p a n, matD p a n] ∧ P (.lst ((MR.condRows p a n).map (rL p)))
theorem ar_cond (ds : List D) (P : D → Prop) (h : pr_cond ds P) : ds.length = 2 := by obtain ⟨p, _, _, _, _, _, rfl, _⟩ := h; rfl
theorem ok_cond {M : Md} (T : Tx M) (h : DefAt M "condition_rows" "condition_rows" "condition_rows" s_cond) (f1 : Me M .gr "zero" 1 8 [] (pr_gc 0)) (f2 : Me M .res "__add__" 2 5 [] (pr_bin (· + ·))) (f3 : Me M .res "__sub__" 2 5 [] (pr_bin (· - ·))) : Fn M "condition_rows" 2 9 [] pr_cond := by
  refine fn_intro h sc_cond rfl (fun _ _ _ _ _ _ us hl => match us, hl with | [_, _], _ => rfl) ar_cond fun ds P hp _ => ?_
  obtain ⟨p, n, a, hp, ha, hn, rfl, q⟩ := hp
  have hnn : n * n ≤ 16 := Nat.le_trans (Nat.mul_le_mul hn hn) (by decide)
  refine dss_cons ?_
  refine ds_set 2 rfl rfl ?_
  refine de_fldA T.c4 2 ?_
  refine de_var 0 rfl rfl rfl ?_
  refine ⟨_, _, _, rfl, rfl, rfl, ?_⟩
  refine dss_cons ?_
  refine ds_set 3 rfl rfl ?_
  refine de_fldA T.c4 2 ?_
  refine de_var 1 rfl rfl rfl ?_
  refine ⟨_, _, _, rfl, rfl, rfl, ?_⟩
  refine dss_cons ?_
  refine ds_setG 4 rfl rfl ?_
  refine df_lst ?_
  refine da_nil ?_
  refine ⟨by simp, ?_⟩
  refine dss_cons ?_
  refine ds_for (.nm 5) (dg_nm rfl rfl) ?_
  refine di_rng1 rfl T.g_range ?_
  refine de_var 2 rfl rfl rfl ?_
  refine ⟨(n : Nat), rfl, by omega, by omega, ?_⟩
  refine ⟨fun i Γ => ∃ e5 e6 e7 e8, Γ = [some (.dat (matD p a n)), some (.dat (matD p a n)), some (.dat (.int (n : Nat))), some (.dat (.int (n : Nat))), some (.grw ((cnds p a n i).map (rL p))), e5, e6, e7, e8], ⟨none, none, none, none, rfl⟩, ?_, ?_⟩
  · rintro i x Γ hi ⟨e5, e6, e7, e8, rfl⟩
    obtain ⟨hlt, rfl⟩ := rgD_get hi
    have hin : i < n := by omega
    rw [show (0 : Int) + (i : Int) = (i : Int) by omega]
    refine dss_one ?_
    refine ds_for (.nm 6) (dg_nm rfl rfl) ?_
    refine di_rng1 rfl T.g_range ?_
    refine de_var 3 rfl rfl rfl ?_
    refine ⟨(n : Nat), rfl, by omega, by omega, ?_⟩
    refine ⟨fun j Γ => ∃ e6 e7 e8, Γ = [some (.dat (matD p a n)), some (.dat (matD p a n)), some (.dat (.int (n : Nat))), some (.dat (.int (n : Nat))), some (.grw ((cnds p a n i ++ (List.range j).map (MR.condRow p a n i)).map (rL p))), some (.dat (.int (i : Nat))), e6, e7, e8], ⟨e6, e7, e8, by simp⟩, ?_, ?_⟩
    · rintro j x Γ hj ⟨e6, e7, e8, rfl⟩
      obtain ⟨hlt2, rfl⟩ := rgD_get hj
      have hjn : j < n := by omega
      rw [show (0 : Int) + (j : Int) = (j : Int) by omega]
      refine dss_cons ?_
      refine ds_setG 7 rfl rfl ?_
      refine df_rep ?_
      refine de_df ?_
      refine df_lst ?_
      refine da_cons ?_
      refine de_meth0 (T.c4 _) f1 (by decide +kernel) (Nat.le_of_ble_eq_true rfl) ?_ _ (fun _ => rfl)
      refine de_fldA T.c4 0 ?_
      refine de_var 0 rfl rfl rfl ?_
      refine ⟨_, _, _, rfl, rfl, rfl, ?_⟩
      refine ⟨_, rfl, ?_⟩
      refine ⟨p, hp, rfl, ?_⟩
      refine da_nil ?_
      refine ⟨by simp, _, rfl, ?_⟩
      refine de_op ?_
      refine de_var 2 rfl rfl rfl ?_
      refine de_var 3 rfl rfl rfl ?_
      refine opd_mul (.inl (by omega)) ?_
      refine ⟨((n * n : Nat) : Int), by rw [Int.natCast_mul], by omega, by simp; omega, by omega, ?_⟩
      refine dss_cons ?_
      refine ds_for (.nm 8) (dg_nm rfl rfl) ?_
      refine di_rng1 rfl T.g_range ?_
      refine de_var 2 rfl rfl rfl ?_
      refine ⟨(n : Nat), rfl, by omega, by omega, ?_⟩
      refine ⟨fun t Γ => ∃ e8, Γ = [some (.dat (matD p a n)), some (.dat (matD p a n)), some (.dat (.int (n : Nat))), some (.dat (.int (n : Nat))), some (.grw ((cnds p a n i ++ (List.range j).map (MR.condRow p a n i)).map (rL p))), some (.dat (.int (i : Nat))), some (.dat (.int (j : Nat))), some (.grw ((rwA p a n i j t).map (rn p))), e8], ⟨e8, by rw [Int.toNat_natCast]; simp [rwA]; exact .inr rfl⟩, ?_, ?_⟩
      · rintro t x Γ ht ⟨e8, rfl⟩
        obtain ⟨hlt3, rfl⟩ := rgD_get ht
        have htn : t < n := by omega
        rw [show (0 : Int) + (t : Int) = (t : Int) by omega]
        have hix : t * n + j < (rwA p a n i j t).length := by rw [rwA_len]; exact lt_sq htn hjn
        have hrt : (a.getD t []).length = n := ha.2 _ (getD_mem (by rw [ha.1]; exact htn))
        have hc : (t : Int) * (n : Int) + (j : Int) = ((t * n + j : Nat) : Int) := by rw [Int.natCast_add, Int.natCast_mul]
        refine dss_one ?_
        refine ds_ixG 7 rfl rfl rfl ?_
        refine de_op ?_
        refine de_ixG 7 (fun _ _ => rfl) rfl rfl rfl ?_
        refine de_op ?_
        refine de_op ?_
        refine de_var 8 rfl rfl rfl ?_
        refine de_var 3 rfl rfl rfl ?_
        refine opd_mul (.inl (by omega)) ?_
        refine de_var 6 rfl rfl rfl ?_
        refine opd_add ?_
        rw [hc]
        refine ⟨_, _, rfl, atI_nat (map_at (at_of 0 hix)), ?_⟩
        refine de_ix (fun _ _ => rfl) ?_
        refine de_ix (fun _ _ => rfl) ?_
        refine de_fldA T.c4 1 ?_
        refine de_var 0 rfl rfl rfl ?_
        refine ⟨_, _, _, rfl, rfl, rfl, ?_⟩
        refine ⟨_, rfl, ?_⟩
        refine de_var 8 rfl rfl rfl ?_
        refine ⟨(t : Nat), _, rfl, atI_nat (map_at (at_of [] (by rw [ha.1]; exact htn))), _, rfl, ?_⟩
        refine de_var 5 rfl rfl rfl ?_
        refine ⟨(i : Nat), _, rfl, atI_nat (map_at (at_of 0 (by rw [hrt]; exact hin))), ?_⟩
        refine opd_own (op := .Add) (T.c4 _) f2 (by decide +kernel) (Nat.le_of_ble_eq_true rfl) ?_
        refine g_add hp ?_
        refine de_op ?_
        refine de_op ?_
        refine de_var 8 rfl rfl rfl ?_
        refine de_var 3 rfl rfl rfl ?_
        refine opd_mul (.inl (by omega)) ?_
        refine de_var 6 rfl rfl rfl ?_
        refine opd_add ?_
        rw [hc]
        refine ⟨_, _, rfl, ixN_nat (by rw [List.length_map]; exact hix), some (.dat (.int (t : Nat))), ?_⟩
        rw [map_set, rwA_succ]
        rfl
      · rintro Γ ⟨e8, rfl⟩
        rw [rgD_length, Int.toNat_natCast]
        refine dss_cons ?_
        refine ds_for (.nm 8) (dg_nm rfl rfl) ?_
        refine di_rng1 rfl T.g_range ?_
        refine de_var 3 rfl rfl rfl ?_
        refine ⟨(n : Nat), rfl, by omega, by omega, ?_⟩
        refine ⟨fun t Γ => ∃ e8, Γ = [some (.dat (matD p a n)), some (.dat (matD p a n)), some (.dat (.int (n : Nat))), some (.dat (.int (n : Nat))), some (.grw ((cnds p a n i ++ (List.range j).map (MR.condRow p a n i)).map (rL p))), some (.dat (.int (i : Nat))), some (.dat (.int (j : Nat))), some (.grw ((rwB p a n i j t).map (rn p))), e8], ⟨e8, rfl⟩, ?_, ?_⟩
        · rintro t x Γ ht ⟨e8, rfl⟩
          obtain ⟨hlt3, rfl⟩ := rgD_get ht
          have htn : t < n := by omega
          rw [show (0 : Int) + (t : Int) = (t : Int) by omega]
          have hix : i * n + t < (rwB p a n i j t).length := by rw [rwB_len]; exact lt_sq hin htn
          have hrt : (a.getD j []).length = n := ha.2 _ (getD_mem (by rw [ha.1]; exact hjn))
          have hc : (i : Int) * (n : Int) + (t : Int) = ((i * n + t : Nat) : Int) := by rw [Int.natCast_add, Int.natCast_mul]
          refine dss_one ?_
          refine ds_ixG 7 rfl rfl rfl ?_
          refine de_op ?_
          refine de_ixG 7 (fun _ _ => rfl) rfl rfl rfl ?_
          refine de_op ?_
          refine de_op ?_
          refine de_var 5 rfl rfl rfl ?_
          refine de_var 3 rfl rfl rfl ?_
          refine opd_mul (.inl (by omega)) ?_
          refine de_var 8 rfl rfl rfl ?_
          refine opd_add ?_
          rw [hc]
          refine ⟨_, _, rfl, atI_nat (map_at (at_of 0 hix)), ?_⟩
          refine de_ix (fun _ _ => rfl) ?_
          refine de_ix (fun _ _ => rfl) ?_
          refine de_fldA T.c4 1 ?_
          refine de_var 1 rfl rfl rfl ?_
          refine ⟨_, _, _, rfl, rfl, rfl, ?_⟩
          refine ⟨_, rfl, ?_⟩
          refine de_var 6 rfl rfl rfl ?_
          refine ⟨(j : Nat), _, rfl, atI_nat (map_at (at_of [] (by rw [ha.1]; exact hjn))), _, rfl, ?_⟩
          refine de_var 8 rfl rfl rfl ?_
          refine ⟨(t : Nat), _, rfl, atI_nat (map_at (at_of 0 (by rw [hrt]; exact htn))), ?_⟩
          refine opd_own (op := .Sub) (T.c4 _) f3 (by decide +kernel) (Nat.le_of_ble_eq_true rfl) ?_
          refine g_sub hp ?_
          refine de_op ?_
          refine de_op ?_
          refine de_var 5 rfl rfl rfl ?_
          refine de_var 3 rfl rfl rfl ?_
          refine opd_mul (.inl (by omega)) ?_
          refine de_var 8 rfl rfl rfl ?_
          refine opd_add ?_
          rw [hc]
          refine ⟨_, _, rfl, ixN_nat (by rw [List.length_map]; exact hix), some (.dat (.int (t : Nat))), ?_⟩
          rw [map_set, rwB_succ]
          rfl
        · rintro Γ ⟨e8, rfl⟩
          rw [rgD_length, Int.toNat_natCast]
          have hcl := cnds_len p a n i
          have hin2 : i * n ≤ n * n := Nat.mul_le_mul_right n (by omega)
          refine ds_freeze 7 rfl ?_
          refine dss_one ?_
          refine ds_app 4 rfl rfl rfl (by simp [hcl]; omega) ?_
          refine de_var 7 rfl rfl rfl ?_
          have hE : (cnds p a n i ++ (List.range (j + 1)).map (MR.condRow p a n i)).map (rL p) = (cnds p a n i ++ (List.range j).map (MR.condRow p a n i)).map (rL p) ++ [rL p (rwB p a n i j n)] := by
            rw [List.range_succ]
            simp [condRow_eq]
          refine ⟨?_, ?_, ?_, ?_⟩
          rotate_left 3
          rw [hE]
          rfl
    · rintro Γ ⟨e6, e7, e8, rfl⟩
      rw [rgD_length, Int.toNat_natCast, ← cnds_succ]
      exact ⟨_, _, _, _, rfl⟩
  · rintro Γ ⟨e5, e6, e7, e8, rfl⟩
    rw [rgD_length, Int.toNat_natCast]
    refine ds_freeze 4 rfl ?_
    refine dss_one ?_
    refine ds_ret ?_
    refine de_var 4 rfl rfl rfl ?_
    exact q
end SF

-- part M11
set_option maxHeartbeats 4000000
/-! # The program's defs, one by one: the commutant, polynomials of a matrix. -/
namespace SF
open PySem PySem.Spec PyProof.Rows L2 DK

/-! ### intertwiners, commutant -/
theorem cut_len {n i : Nat} {r : List Nat} (h : r.length = n * n) (hi : i < n) : (MR.cut r i n).length = n := by
  unfold MR.cut
  have := Nat.mul_le_mul_right n (show i + 1 ≤ n by omega)
  rw [Nat.succ_mul] at this
  rw [List.length_take, List.length_drop, h]
  omega
theorem cuts_sq {n : Nat} {r : List Nat} (h : r.length = n * n) : Sq n ((List.range n).map fun i => MR.cut r i n) := ⟨by simp, fun s hs => by
  obtain ⟨i, hi, rfl⟩ := List.mem_map.mp hs
  exact cut_len h (by simpa using hi)⟩
theorem free_w (p : Nat) (a : List (List Nat)) (n : Nat) : ∀ r ∈ MR.kernel p (MR.condRows p a n) (n * n), r.length = n * n := fun r hr => by rw [kernel_w (cond_w p a n) r hr, cond_len]
theorem commutant_sq {p n : Nat} {a m : List (List Nat)} (h : m ∈ MR.commutant p a n) : Sq n m := by
  obtain ⟨r, hr, rfl⟩ := List.mem_map.mp h
  exact cuts_sq (reduce_w (free_w p a n) r hr)
abbrev s_inter : Stmt := topS 58
abbrev N_inter : List Str := ["a", "b", "m", "n", "free", "found", "row", "i"]
theorem sc_inter : FnScope N_inter ["a", "b"] (defScope s_inter) := ⟨rfl, rfl, rfl, by decide +kernel, rfl, by decide +kernel, by decide +kernel⟩
def pr_inter (ds : List D) (P : D → Prop) : Prop := ∃ (p n : Nat) (a : List (List Nat)), okp p ∧ Sq n a ∧ n ≤ 4 ∧ ds = [matD p a n, matD p a n] ∧ P (.tup ((MR.commutant p a n).map fun m => matD p m n))
theorem ar_inter (ds : List D) (P : D → Prop) (h : pr_inter ds P) : ds.length = 2 := by obtain ⟨p, _, _, _, _, _, rfl, _⟩ := h; rfl
theorem ok_inter {M : Md} (T : Tx M) (h : DefAt M "intertwiners" "intertwiners" "intertwiners" s_inter) (f1 : Fn M "check_grounds_commuting" 2 3 [] pr_cgc) (f2 : Fn M "kernel_rows" 3 8 [] pr_kernel) (f3 : Fn M "condition_rows" 2 9 [] pr_cond) (f4 : Fn M "reduce_rows" 2 7 [] pr_reduce) (f5 : Ct M "Matrix" .mat 3 10 [] pr_minit) : Fn M "intertwiners" 2 12 [] pr_inter := by
  refine fn_intro h sc_inter rfl (fun _ _ _ _ _ _ us hl => match us, hl with | [_, _], _ => rfl) ar_inter fun ds P hp _ => ?_
  obtain ⟨p, n, a, hp, ha, hn, rfl, q⟩ := hp
  have hnn : n * n ≤ 16 := Nat.le_trans (Nat.mul_le_mul hn hn) (by decide)
  have hc : (n : Int) * (n : Int) = ((n * n : Nat) : Int) := by rw [Int.natCast_mul]
  have hkn := kernel_n (p := p) (cond_w p a n)
  rw [cond_len] at hkn
  have hkw := free_w p a n
  refine dss_cons ?_
  refine ds_expr ?_
  refine de_call f1 rfl (Nat.le_of_ble_eq_true rfl) ?_
  refine da_cons ?_
  refine de_var 0 rfl rfl rfl ?_
  refine da_cons ?_
  refine de_var 1 rfl rfl rfl ?_
  refine da_nil ?_
  refine ⟨p, n, n, a, a, ha, ha, rfl, ?_⟩
  refine dss_cons ?_
  refine ds_set 2 rfl rfl ?_
  refine de_fldA T.c4 2 ?_
  refine de_var 0 rfl rfl rfl ?_
  refine ⟨_, _, _, rfl, rfl, rfl, ?_⟩
  refine dss_cons ?_
  refine ds_set 3 rfl rfl ?_
  refine de_fldA T.c4 2 ?_
  refine de_var 1 rfl rfl rfl ?_
  refine ⟨_, _, _, rfl, rfl, rfl, ?_⟩
  refine dss_cons ?_
  refine ds_set 4 rfl rfl ?_
  refine de_call f2 rfl (Nat.le_of_ble_eq_true rfl) ?_
  refine da_cons ?_
  refine de_fldA T.c4 0 ?_
  refine de_var 0 rfl rfl rfl ?_
  refine ⟨_, _, _, rfl, rfl, rfl, ?_⟩
  refine da_cons ?_
  refine de_call f3 rfl (Nat.le_of_ble_eq_true rfl) ?_
  refine da_cons ?_
  refine de_var 0 rfl rfl rfl ?_
  refine da_cons ?_
  refine de_var 1 rfl rfl rfl ?_
  refine da_nil ?_
  refine ⟨p, n, a, hp, ha, hn, rfl, ?_⟩
  refine da_cons ?_
  refine de_op ?_
  refine de_var 2 rfl rfl rfl ?_
  refine de_var 3 rfl rfl rfl ?_
  refine opd_mul (.inl (by omega)) ?_
  refine da_nil ?_
  rw [hc]
  refine ⟨p, _, _, MR.condRows p a n, n * n, hp, rfl, rfl, rowsAre_L p _, cond_w p a n, by rw [cond_len]; omega, by omega, ?_⟩
  generalize hK : MR.kernel p (MR.condRows p a n) (n * n) = K at hkn hkw
  have q' : P (.tup (((MR.reduce p K (n * n)).1.map fun row => (List.range n).map fun i => MR.cut row i n).map fun m => matD p m n)) := by rw [← hK]; exact q
  have hRw := reduce_w (p := p) hkw
  have hRn := reduce_n (p := p) hkw
  generalize hR : MR.reduce p K (n * n) = R at q' hRw hRn
  refine dss_cons ?_
  refine ds_setG 5 rfl rfl ?_
  refine df_lst ?_
  refine da_nil ?_
  refine ⟨by simp, ?_⟩
  refine dss_cons ?_
  refine ds_for (.nm 6) (dg_nm rfl rfl) ?_
  refine di_lst ?_
  refine de_ix (fun _ _ => rfl) ?_
  refine de_call f4 rfl (Nat.le_of_ble_eq_true rfl) ?_
  refine da_cons ?_
  refine de_var 4 rfl rfl rfl ?_
  refine da_cons ?_
  refine de_op ?_
  refine de_var 2 rfl rfl rfl ?_
  refine de_var 3 rfl rfl rfl ?_
  refine opd_mul (.inl (by omega)) ?_
  refine da_nil ?_
  rw [hc]
  refine ⟨p, _, _, K, n * n, hp, rfl, rfl, rowsAre_L p _, hkw, by omega, by omega, _, rfl, ?_⟩
  refine de_int ?_
  refine ⟨0, _, rfl, atI_nat (i := 0) rfl, _, rfl, ?_⟩
  rw [hR]
  refine ⟨fun i Γ => ∃ e6, Γ = [some (.dat (matD p a n)), some (.dat (matD p a n)), some (.dat (.int (n : Nat))), some (.dat (.int (n : Nat))), some (.dat (.lst (K.map (rL p)))), some (.grw (((R.1.map fun row => (List.range n).map fun i => MR.cut row i n).take i).map fun m => matD p m n)), e6, none], ⟨none, rfl⟩, ?_, ?_⟩
  · rintro i x Γ hi ⟨e6, rfl⟩
    obtain ⟨r, hr, rfl⟩ := map_get hi
    have hrl : r.length = n * n := hRw r (List.mem_of_getElem? hr)
    have hlt : i < R.1.length := (List.getElem?_eq_some_iff.mp hr).1
    refine dss_one ?_
    refine ds_app 5 rfl rfl rfl (by simp; omega) ?_
    refine de_make f5 rfl (Nat.le_of_ble_eq_true rfl) ?_
    refine da_cons ?_
    refine de_fldA T.c4 0 ?_
    refine de_var 0 rfl rfl rfl ?_
    refine ⟨_, _, _, rfl, rfl, rfl, ?_⟩
    refine da_cons ?_
    refine de_df ?_
    refine df_lc (.nm 7) [("i", 7)] (by kernel_rfl) rfl (dg_nm rfl rfl) ?_
    refine di_rng1 rfl T.g_range ?_
    refine de_var 2 rfl rfl rfl ?_
    refine ⟨(n : Nat), rfl, by omega, by omega, ?_⟩
    refine lcI_map (((List.range n).map fun i => MR.cut r i n).map (rL p)) (by simp [rgD_length]) (by simp [rgD_length]; omega) (fun j y z hy hz => ?_) ?_
    · obtain ⟨hlt2, rfl⟩ := rgD_get hy
      have hjn : j < n := by omega
      rw [map_at (map_at (range_at hjn))] at hz
      cases hz
      rw [show (0 : Int) + (j : Int) = (j : Int) by omega]
      have hm := Nat.mul_le_mul_right n (show j + 1 ≤ n by omega)
      rw [Nat.succ_mul] at hm
      refine de_df ?_
      refine df_slice ?_
      refine de_var 6 rfl rfl rfl ?_
      refine ⟨_, rfl, ?_⟩
      refine do_some ?_
      refine de_op ?_
      refine de_var 7 rfl rfl rfl ?_
      refine de_var 3 rfl rfl rfl ?_
      refine opd_mul (.inl (by omega)) ⟨((j * n : Nat) : Int), by rw [Int.natCast_mul], ?_⟩
      refine do_some ?_
      refine de_op ?_
      refine de_op ?_
      refine de_var 7 rfl rfl rfl ?_
      refine de_int ?_
      refine opd_add ?_
      refine de_var 3 rfl rfl rfl ?_
      refine opd_mul (.inl (by omega)) ⟨((j * n + n : Nat) : Int), by congr 1; rw [Int.natCast_add, Int.natCast_mul, Int.add_mul, Int.one_mul], ?_⟩
      rw [cut_mid (by omega) (by rw [List.length_map, hrl]; exact hm), Nat.add_sub_cancel_left, ← List.map_drop, ← List.map_take]
      rfl
    refine da_cons ?_
    refine de_var 3 rfl rfl rfl ?_
    refine da_nil ?_
    refine ⟨p, _, _, (List.range n).map fun i => MR.cut r i n, n, hp, rfl, rfl, rowsIt_L p _, by simp; omega, by omega, (cuts_sq hrl).2, some (.dat (rL p r)), ?_⟩
    rw [List.take_add_one, map_at hr, List.map_append]
    rfl
  · rintro Γ ⟨e6, rfl⟩
    have e : (R.1.map fun row => (List.range n).map fun i => MR.cut row i n).take (R.1.map (rL p)).length = R.1.map fun row => (List.range n).map fun i => MR.cut row i n := List.take_of_length_le (by simp)
    rw [e]
    refine ds_freeze 5 rfl ?_
    refine dss_one ?_
    refine ds_ret ?_
    refine de_callTy (T := "tuple") rfl T.g_tuple (by decide +kernel) ?_
    refine da_cons ?_
    refine de_var 5 rfl rfl rfl ?_
    refine da_nil ?_
    exact cd_tupL q'
abbrev s_commutant : Stmt := topS 59
abbrev N_commutant : List Str := ["a"]
theorem sc_commutant : FnScope N_commutant ["a"] (defScope s_commutant) := ⟨rfl, rfl, rfl, by decide +kernel, rfl, by decide +kernel, by decide +kernel⟩
def pr_commutant (ds : List D) (P : D → Prop) : Prop := ∃ (p n : Nat) (a : List (List Nat)), okp p ∧ Sq n a ∧ n ≤ 4 ∧ ds = [matD p a n] ∧ P (.tup ((MR.commutant p a n).map fun m => matD p m n))
theorem ar_commutant (ds : List D) (P : D → Prop) (h : pr_commutant ds P) : ds.length = 1 := by obtain ⟨p, _, _, _, _, _, rfl, _⟩ := h; rfl
theorem ok_commutant {M : Md} (T : Tx M) (h : DefAt M "commutant" "commutant" "commutant" s_commutant) (f1 : Fn M "intertwiners" 2 12 [] pr_inter) : Fn M "commutant" 1 13 [] pr_commutant := by
  refine fn_intro h sc_commutant rfl (fun _ _ _ _ _ _ us hl => match us, hl with | [_], _ => rfl) ar_commutant fun ds P hp _ => ?_
  obtain ⟨p, n, a, hp, ha, hn, rfl, q⟩ := hp
  refine dss_one ?_
  refine ds_ret ?_
  refine de_call f1 rfl (Nat.le_of_ble_eq_true rfl) ?_
  refine da_cons ?_
  refine de_var 0 rfl rfl rfl ?_
  refine da_cons ?_
  refine de_var 0 rfl rfl rfl ?_
  refine da_nil ?_
  exact ⟨p, n, a, hp, ha, hn, rfl, q⟩
abbrev s_csz : Stmt := topS 60
abbrev N_csz : List Str := ["a", "b"]
theorem sc_csz : FnScope N_csz ["a", "b"] (defScope s_csz) := ⟨rfl, rfl, rfl, by decide +kernel, rfl, by decide +kernel, by decide +kernel⟩
def pr_csz (ds : List D) (P : D → Prop) : Prop := ∃ (p n : Nat) (a b : List (List Nat)), Sq n a ∧ Sq n b ∧ ds = [matD p a n, matD p b n] ∧ P .non
theorem ar_csz (ds : List D) (P : D → Prop) (h : pr_csz ds P) : ds.length = 2 := by obtain ⟨p, _, _, _, _, _, rfl, _⟩ := h; rfl
theorem ok_csz {M : Md} (T : Tx M) (h : DefAt M "check_sizes" "check_sizes" "check_sizes" s_csz) (f1 : Fn M "check_grounds_commuting" 2 3 [] pr_cgc) : Fn M "check_sizes" 2 4 [] pr_csz := by
  refine fn_intro h sc_csz rfl (fun _ _ _ _ _ _ us hl => match us, hl with | [_, _], _ => rfl) ar_csz fun ds P hp _ => ?_
  obtain ⟨p, n, a, b, ha, hb, rfl, k⟩ := hp
  refine dss_cons ?_
  refine ds_expr ?_
  refine de_call f1 rfl (Nat.le_of_ble_eq_true rfl) ?_
  refine da_cons ?_
  refine de_var 0 rfl rfl rfl ?_
  refine da_cons ?_
  refine de_var 1 rfl rfl rfl ?_
  refine da_nil ?_
  refine ⟨p, n, n, a, b, ha, hb, rfl, ?_⟩
  refine dss_one ?_
  refine ds_if ?_
  refine dt_cmp (nomark _) ?_
  refine de_fldA T.c4 2 ?_
  refine de_var 0 rfl rfl rfl ?_
  refine ⟨_, _, _, rfl, rfl, rfl, ?_⟩
  refine de_fldA T.c4 2 ?_
  refine de_var 1 rfl rfl rfl ?_
  refine ⟨_, _, _, rfl, rfl, rfl, ?_⟩
  refine opd_neI ?_
  refine ⟨_, rfl, no_true (by simp), fun _ => ?_⟩
  refine dss_nil ?_
  exact k
abbrev s_commute : Stmt := topS 61
abbrev N_commute : List Str := ["a", "b"]
theorem sc_commute : FnScope N_commute ["a", "b"] (defScope s_commute) := ⟨rfl, rfl, rfl, by decide +kernel, rfl, by decide +kernel, by decide +kernel⟩
def pr_commute (ds : List D) (P : D → Prop) : Prop := ∃ (p n : Nat) (a b : List (List Nat)), okp p ∧ Sq n a ∧ Sq n b ∧ n ≤ 4 ∧ ds = [matD p a n, matD p b n] ∧ P (.bl (MR.commute p a b n))
theorem ar_commute (ds : List D) (P : D → Prop) (h : pr_commute ds P) : ds.length = 2 := by obtain ⟨p, _, _, _, _, _, _, _, rfl, _⟩ := h; rfl
theorem ok_commute {M : Md} (T : Tx M) (h : DefAt M "commute" "commute" "commute" s_commute) (f1 : Fn M "check_sizes" 2 4 [] pr_csz) (f2 : Me M .mat "__mul__" 2 12 [] pr_mmul) (f3 : Me M .mat "__eq__" 2 4 [] pr_meq) : Fn M "commute" 2 13 [] pr_commute := by
  refine fn_intro h sc_commute rfl (fun _ _ _ _ _ _ us hl => match us, hl with | [_, _], _ => rfl) ar_commute fun ds P hp _ => ?_
  obtain ⟨p, n, a, b, hp, ha, hb, hn, rfl, k⟩ := hp
  refine dss_cons ?_
  refine ds_expr ?_
  refine de_call f1 rfl (Nat.le_of_ble_eq_true rfl) ?_
  refine da_cons ?_
  refine de_var 0 rfl rfl rfl ?_
  refine da_cons ?_
  refine de_var 1 rfl rfl rfl ?_
  refine da_nil ?_
  refine ⟨p, n, a, b, ha, hb, rfl, ?_⟩
  refine dss_one ?_
  refine ds_ret ?_
  refine de_cmp (nomark _) ?_
  refine de_op ?_
  refine de_var 0 rfl rfl rfl ?_
  refine de_var 1 rfl rfl rfl ?_
  refine opd_own (op := .Mult) (T.c4 _) f2 (by decide +kernel) (Nat.le_of_ble_eq_true rfl) ?_
  refine ⟨p, n, a, b, hp, ha, hb, by omega, rfl, ?_⟩
  refine de_op ?_
  refine de_var 1 rfl rfl rfl ?_
  refine de_var 0 rfl rfl rfl ?_
  refine opd_own (op := .Mult) (T.c4 _) f2 (by decide +kernel) (Nat.le_of_ble_eq_true rfl) ?_
  refine ⟨p, n, b, a, hp, hb, ha, by omega, rfl, ?_⟩
  refine opd_eq (T.c4 .mat) f3 (Nat.le_of_ble_eq_true rfl) ?_
  exact ⟨p, n, _, _, hp, mul_sq ha hb, mul_sq hb ha, rfl, k⟩

/-! ### polynomial_of -/
def pwr (p : Nat) (a : List (List Nat)) (n : Nat) : Nat → List (List Nat) → List (List Nat)
  | 0, x => x
  | i + 1, x => pwr p a n i (MR.mul p x a n)
theorem pwr_succ (p : Nat) (a : List (List Nat)) (n : Nat) : ∀ (i : Nat) (x : List (List Nat)), pwr p a n (i + 1) x = MR.mul p (pwr p a n i x) a n
  | 0, _ => rfl
  | i + 1, x => pwr_succ p a n i (MR.mul p x a n)
theorem pwr_sq {p n : Nat} {a : List (List Nat)} (ha : Sq n a) : ∀ (i : Nat) {x : List (List Nat)}, Sq n x → Sq n (pwr p a n i x)
  | 0, _, h => h
  | i + 1, _, h => pwr_sq ha i (mul_sq h ha)
theorem powers_len (p : Nat) (a : List (List Nat)) (n : Nat) : ∀ (k : Nat) (x : List (List Nat)), (MR.powers p a n k x).length = k
  | 0, _ => rfl
  | k + 1, x => by rw [MR.powers, List.length_cons, powers_len p a n k]
theorem powers_at (p : Nat) (a : List (List Nat)) (n : Nat) : ∀ (k i : Nat) (x : List (List Nat)), i < k → (MR.powers p a n k x)[i]? = some (pwr p a n i x).flatten
  | k + 1, 0, x, _ => rfl
  | k + 1, i + 1, x, h => by rw [MR.powers, List.getElem?_cons_succ]; exact powers_at p a n k i _ (by omega)
theorem flat_len {n : Nat} : ∀ {a : List (List Nat)}, (∀ r ∈ a, r.length = n) → a.flatten.length = a.length * n
  | [], _ => by simp
  | r :: a, h => by rw [List.flatten_cons, List.length_append, h r (List.mem_cons_self ..), flat_len fun s hs => h s (List.mem_cons_of_mem _ hs), List.length_cons, Nat.succ_mul]; omega
theorem sq_flat {n : Nat} {a : List (List Nat)} (h : Sq n a) : a.flatten.length = n * n := by rw [flat_len h.2, h.1]
theorem powers_w {p n : Nat} {a : List (List Nat)} (ha : Sq n a) : ∀ (k : Nat) {x : List (List Nat)}, Sq n x → ∀ r ∈ MR.powers p a n k x, r.length = n * n
  | 0, _, _, r, hr => by cases hr
  | k + 1, x, hx, r, hr => by
    rw [MR.powers] at hr
    rcases List.mem_cons.mp hr with e | hr
    · rw [e]; exact sq_flat hx
    · exact powers_w ha k (mul_sq hx ha) r hr
/-- [f(c) for row in rows for c in row]: the walk over rows of numbers -/
theorem lc2_rows {C : DK.Ctx} {Γ : Sl} {scope : Scope} {tg1 iter1 elt : Expr} {j l : Nat} {vs : List Nat} {A : List D → Prop} {p n : Nat} {a : List (List Nat)} (f : Nat → Nat) (ha : Sq n a) (hn : n ≤ 4)
    (hi : ∀ r : List Nat, DE (C.blk scope) iter1 ((wipeS Γ vs).set j (some (.dat (rT p r)))) fun d => d = rT p r)
    (he : ∀ (r : List Nat) (c : Nat), DE (C.blk scope) elt ((wipeS ((wipeS Γ vs).set j (some (.dat (rT p r)))) [l]).set l (some (.dat (rn p c)))) fun d => d = rn p (f c)) (k : A ((a.flatten.map f).map (rn p))) :
    ∃ I : Nat → List D → Prop, I 0 [] ∧ (∀ i d acc, (a.map (rT p))[i]? = some d → I i acc → (Tg.nm j).bind d (wipeS Γ vs) fun Γ' =>
      DI (C.blk scope) tg1 iter1 Γ' fun its1 => ∃ I1 : Nat → List D → Prop, I1 0 acc ∧ (∀ j d1 acc, its1[j]? = some d1 → I1 j acc → (Tg.nm l).bind d1 (wipeS Γ' (Tg.nm l).slots) fun Γ'' => DE (C.blk scope) elt Γ'' fun y => acc.length < 100000 ∧ I1 (j + 1) (acc ++ [y])) ∧ ∀ acc, I1 its1.length acc → I (i + 1) acc) ∧ ∀ acc, I (a.map (rT p)).length acc → A acc := by
  have hnn : n * n ≤ 16 := Nat.le_trans (Nat.mul_le_mul hn hn) (by decide)
  refine ⟨fun i acc => acc = (((a.take i).flatten).map f).map (rn p), rfl, fun i d acc hd hI => ?_, fun acc hI => ?_⟩
  · obtain ⟨r, hr, rfl⟩ := map_get hd
    subst hI
    have hlt : i < a.length := (List.getElem?_eq_some_iff.mp hr).1
    have hrl := ha.2 r (List.mem_of_getElem? hr)
    have hfl : (a.take i).flatten.length = i * n := by
      rw [flat_len fun s hs => ha.2 s (List.mem_of_mem_take hs), List.length_take, Nat.min_eq_left (by omega)]
    have hin : i * n ≤ n * n := Nat.mul_le_mul_right n (by rw [← ha.1]; omega)
    show DI _ _ _ _ _
    refine di_tup (de_imp (hi r) fun d e => ?_)
    subst e
    refine ⟨_, rfl, fun j acc => acc = (((a.take i).flatten ++ r.take j).map f).map (rn p), by simp, fun m d1 acc hd1 hI1 => ?_, fun acc hI1 => ?_⟩
    · obtain ⟨c, hc, rfl⟩ := map_get hd1
      subst hI1
      have hlt2 : m < r.length := (List.getElem?_eq_some_iff.mp hc).1
      refine de_imp (he r c) fun d e => ?_
      subst e
      refine ⟨by simp only [List.length_map, List.length_append, hfl, List.length_take]; omega, ?_⟩
      show _ = (((a.take i).flatten ++ r.take (m + 1)).map f).map (rn p)
      rw [List.take_add_one, hc]
      simp
    · subst hI1
      show _ = (((a.take (i + 1)).flatten).map f).map (rn p)
      rw [List.length_map, List.take_length, List.take_add_one, hr, List.flatten_append]
      simp
  · subst hI
    rw [List.length_map, List.take_length]
    exact k
abbrev s_polyof : Stmt := topS 62
abbrev N_polyof : List Str := ["a", "x", "size", "rows", "power", "_", "row", "c"]
theorem sc_polyof : FnScope N_polyof ["a", "x"] (defScope s_polyof) := ⟨rfl, rfl, rfl, by decide +kernel, rfl, by decide +kernel, by decide +kernel⟩
def optP (p : Nat) : Option (List Nat) → D
  | none => .non
  | some s => polD p s
def pr_polyof (ds : List D) (P : D → Prop) : Prop := ∃ (p n : Nat) (a x : List (List Nat)) (r : Option (List Nat)), okp p ∧ Sq n a ∧ Sq n x ∧ n ≤ 4 ∧ ds = [matD p a n, matD p x n] ∧ MR.polyOf p a x n = some r ∧ P (optP p r)
theorem ar_polyof (ds : List D) (P : D → Prop) (h : pr_polyof ds P) : ds.length = 2 := by obtain ⟨p, _, _, _, _, _, _, _, _, rfl, _⟩ := h; rfl
theorem ok_polyof {M : Md} (T : Tx M) (h : DefAt M "polynomial_of" "polynomial_of" "polynomial_of" s_polyof) (f1 : Fn M "check_sizes" 2 4 [] pr_csz) (f2 : Fn M "unit" 2 12 [] pr_unit) (f3 : Fn M "minimal_polynomial" 1 15 [] pr_minpoly) (f4 : Me M .pol "degree" 1 1 [] pr_pdeg) (f5 : Me M .mat "__mul__" 2 12 [] pr_mmul) (f6 : Me M .res "__neg__" 1 5 [] pr_rneg) (f7 : Fn M "kernel_rows" 3 8 [] pr_kernel) (f8 : Me M .res "is_zero" 1 1 [] pr_rzero) (f9 : Me M .res "over" 2 6 [] pr_rover) (f10 : Ct M "Poly" .pol 2 9 [] pr_pinit) : Fn M "polynomial_of" 2 16 [] pr_polyof := by
  refine fn_intro h sc_polyof rfl (fun _ _ _ _ _ _ us hl => match us, hl with | [_, _], _ => rfl) ar_polyof fun ds P hp _ => ?_
  obtain ⟨p, n, a, x, r, hp, ha, hx, hn, rfl, hk, k⟩ := hp
  have hnn : n * n ≤ 16 := Nat.le_trans (Nat.mul_le_mul hn hn) (by decide)
  have hc : (n : Int) * (n : Int) = ((n * n : Nat) : Int) := by rw [Int.natCast_mul]
  unfold MR.polyOf at hk
  split at hk
  · cases hk
  rename_i m hm
  injection hk with hk
  subst hk
  have hml : m.length ≤ 25 := by
    rw [minpoly_eq] at hm
    have h1 := minpoly_len ha (MR.unit n) hm (unit_sq n).2
    rw [(unit_sq n).1] at h1
    have h2 : n * (n + 2) ≤ 4 * 6 := Nat.mul_le_mul hn (by omega)
    simp at h1
    omega
  generalize hg : m.length - 1 = g at k
  have hpl := powers_len p a n g (MR.unit n)
  have hpw := powers_w (p := p) ha g (unit_sq n)
  refine dss_cons ?_
  refine ds_expr ?_
  refine de_call f1 rfl (Nat.le_of_ble_eq_true rfl) ?_
  refine da_cons ?_
  refine de_var 0 rfl rfl rfl ?_
  refine da_cons ?_
  refine de_var 1 rfl rfl rfl ?_
  refine da_nil ?_
  refine ⟨p, n, a, x, ha, hx, rfl, ?_⟩
  refine dss_cons ?_
  refine ds_set 2 rfl rfl ?_
  refine de_fldA T.c4 2 ?_
  refine de_var 0 rfl rfl rfl ?_
  refine ⟨_, _, _, rfl, rfl, rfl, ?_⟩
  refine dss_cons ?_
  refine ds_setG 3 rfl rfl ?_
  refine df_lst ?_
  refine da_nil ?_
  refine ⟨by simp, ?_⟩
  refine dss_cons ?_
  refine ds_set 4 rfl rfl ?_
  refine de_call f2 rfl (Nat.le_of_ble_eq_true rfl) ?_
  refine da_cons ?_
  refine de_fldA T.c4 0 ?_
  refine de_var 0 rfl rfl rfl ?_
  refine ⟨_, _, _, rfl, rfl, rfl, ?_⟩
  refine da_cons ?_
  refine de_var 2 rfl rfl rfl ?_
  refine da_nil ?_
  refine ⟨p, n, hp, by omega, rfl, ?_⟩
  refine dss_cons ?_
  refine ds_for (.nm 5) (dg_nm rfl rfl) ?_
  refine di_rng1 rfl T.g_range ?_
  refine de_meth0 (T.c4 _) f4 (by decide +kernel) (Nat.le_of_ble_eq_true rfl) ?_ _ (fun _ => rfl)
  refine de_call f3 rfl (Nat.le_of_ble_eq_true rfl) ?_
  refine da_cons ?_
  refine de_var 0 rfl rfl rfl ?_
  refine da_nil ?_
  refine ⟨p, n, a, m, hp, ha, hn, rfl, hm, _, rfl, p, m, rfl, ?_⟩
  refine ⟨_, rfl, by omega, by omega, ?_⟩
  have eg : ((m.length : Int) - 1).toNat = g := by omega
  rw [eg]
  refine ⟨fun i Γ => ∃ e5, i ≤ g ∧ Γ = [some (.dat (matD p a n)), some (.dat (matD p x n)), some (.dat (.int (n : Nat))), some (.grw (((MR.powers p a n g (MR.unit n)).take i).map (rL p))), some (.dat (matD p (pwr p a n i (MR.unit n)) n)), e5, none, none], ⟨none, Nat.zero_le _, rfl⟩, ?_, ?_⟩
  · rintro i y Γ hi ⟨e5, hig, rfl⟩
    have hlt : i < g := by have := (List.getElem?_eq_some_iff.mp hi).1; rw [rgD_length] at this; exact this
    have hsq := pwr_sq (p := p) ha i (unit_sq n)
    refine dss_cons ?_
    refine ds_app 3 rfl rfl rfl (by rw [List.length_map, List.length_take]; omega) ?_
    refine de_df ?_
    refine df_lc2 (.nm 6) (.nm 7) [("row", 6), ("c", 7)] (by kernel_rfl) rfl rfl (dg_nm rfl rfl) (dg_nm rfl rfl) ?_
    refine di_tup ?_
    refine de_fldA T.c4 1 ?_
    refine de_var 4 rfl rfl rfl ?_
    refine ⟨_, _, _, rfl, rfl, rfl, ?_⟩
    refine ⟨_, rfl, ?_⟩
    refine lc2_rows (fun c => c) hsq hn (fun r => ?_) (fun r c => ?_) ?_
    · refine de_var 6 rfl rfl rfl ?_
      rfl
    · refine de_var 7 rfl rfl rfl ?_
      rfl
    rw [List.map_id']
    refine dss_one ?_
    refine ds_set 4 rfl rfl ?_
    refine de_op ?_
    refine de_var 4 rfl rfl rfl ?_
    refine de_var 0 rfl rfl rfl ?_
    refine opd_own (op := .Mult) (T.c4 _) f5 (by decide +kernel) (Nat.le_of_ble_eq_true rfl) ?_
    refine ⟨p, n, _, a, hp, hsq, ha, by omega, rfl, ?_⟩
    refine ⟨?_, hlt, ?_⟩
    rotate_left 1
    rw [List.take_add_one, powers_at p a n g i _ hlt, List.map_append, pwr_succ]
    rfl
  · rintro Γ ⟨e5, _, rfl⟩
    have et : (MR.powers p a n g (MR.unit n)).take (rgD 0 g).length = MR.powers p a n g (MR.unit n) := List.take_of_length_le (by rw [rgD_length, hpl]; exact Nat.le_refl _)
    rw [et]
    generalize hPS : MR.powers p a n g (MR.unit n) = PS at hpl hpw k
    refine dss_cons ?_
    refine ds_app 3 rfl rfl rfl (by rw [List.length_map]; omega) ?_
    refine de_df ?_
    refine df_lc2 (.nm 6) (.nm 7) [("row", 6), ("c", 7)] (by kernel_rfl) rfl rfl (dg_nm rfl rfl) (dg_nm rfl rfl) ?_
    refine di_tup ?_
    refine de_fldA T.c4 1 ?_
    refine de_var 1 rfl rfl rfl ?_
    refine ⟨_, _, _, rfl, rfl, rfl, ?_⟩
    refine ⟨_, rfl, ?_⟩
    refine lc2_rows (MR.fneg p) hx hn (fun r => ?_) (fun r c => ?_) ?_
    · refine de_var 6 rfl rfl rfl ?_
      rfl
    · refine de_un ?_
      refine de_var 7 rfl rfl rfl ?_
      refine und_neg (T.c4 _) f6 (Nat.le_of_ble_eq_true rfl) ?_
      exact g_neg hp rfl
    have e : PS.map (rL p) ++ [D.lst ((x.flatten.map (MR.fneg p)).map (rn p))] = (PS ++ [x.flatten.map (MR.fneg p)]).map (rL p) := by rw [List.map_append]; rfl
    rw [e]
    have hrw : ∀ r ∈ PS ++ [x.flatten.map (MR.fneg p)], r.length = n * n := fun r hr => by
      rcases List.mem_append.mp hr with hr | hr
      · exact hpw r hr
      · rw [List.mem_singleton.mp hr, List.length_map, sq_flat hx]
    have hrl : (PS ++ [x.flatten.map (MR.fneg p)]).length = g + 1 := by rw [List.length_append, hpl]; rfl
    have hkw := kernel_w (p := p) hrw
    rw [hrl] at hkw
    generalize hK : MR.kernel p (PS ++ [x.flatten.map (MR.fneg p)]) (n * n) = K at k hkw
    refine ds_freeze 3 rfl ?_
    refine dss_cons ?_
    refine ds_for (.nm 6) (dg_nm rfl rfl) ?_
    refine di_lst ?_
    refine de_call f7 rfl (Nat.le_of_ble_eq_true rfl) ?_
    refine da_cons ?_
    refine de_fldA T.c4 0 ?_
    refine de_var 0 rfl rfl rfl ?_
    refine ⟨_, _, _, rfl, rfl, rfl, ?_⟩
    refine da_cons ?_
    refine de_var 3 rfl rfl rfl ?_
    refine da_cons ?_
    refine de_op ?_
    refine de_var 2 rfl rfl rfl ?_
    refine de_var 2 rfl rfl rfl ?_
    refine opd_mul (.inl (by omega)) ?_
    refine da_nil ?_
    rw [hc]
    refine ⟨p, _, _, _, n * n, hp, rfl, rfl, rowsAre_L p _, hrw, by omega, by omega, _, rfl, ?_⟩
    rw [hK]
    have nil_ : MR.firstSol p (K.drop K.length) = none := by rw [List.drop_length]; rfl
    refine ⟨fun i Γ => ∃ e6, Γ = [some (.dat (matD p a n)), some (.dat (matD p x n)), some (.dat (.int (n : Nat))), some (.dat (.lst ((PS ++ [x.flatten.map (MR.fneg p)]).map (rL p)))), some (.dat (matD p (pwr p a n (rgD 0 g).length (MR.unit n)) n)), e5, e6, none] ∧ MR.firstSol p K = MR.firstSol p (K.drop i), ⟨none, rfl, rfl⟩, ?_, ?_⟩
    · rintro i y Γ hi ⟨e6, rfl, hf⟩
      obtain ⟨r, hri, rfl⟩ := map_get hi
      have hlt : i < K.length := (List.getElem?_eq_some_iff.mp hri).1
      have er : K[i] = r := by rw [List.getElem?_eq_getElem hlt] at hri; exact Option.some.inj hri
      have hrl2 : r.length = g + 1 := hkw r (List.mem_of_getElem? hri)
      have hla : (r.map (rn p))[(r.map (rn p)).length - 1]? = some (rn p (MR.lastD r)) := by rw [List.length_map]; exact map_at (lastD_at (by omega))
      rw [first_drop hlt, er] at hf
      refine dss_one ?_
      refine ds_if ?_
      refine dt_not ?_
      refine dt_val ?_
      refine de_meth0 (T.c4 _) f8 (by decide +kernel) (Nat.le_of_ble_eq_true rfl) ?_ _ (fun _ => rfl)
      refine de_ix (fun _ _ => rfl) ?_
      refine de_var 6 rfl rfl rfl ?_
      refine ⟨_, rfl, ?_⟩
      refine de_un ?_
      refine de_int ?_
      refine und_negI ⟨-1, _, rfl, atI_last hla, _, rfl, g_zero ⟨_, rfl, fun h0 => ?_, fun h0 => ?_⟩⟩
      · rw [if_neg (by simpa using h0)] at hf
        rw [hf] at k
        refine dss_one ?_
        refine ds_ret ?_
        refine de_make f10 rfl (Nat.le_of_ble_eq_true rfl) ?_
        refine da_cons ?_
        refine de_fldA T.c4 0 ?_
        refine de_var 0 rfl rfl rfl ?_
        refine ⟨_, _, _, rfl, rfl, rfl, ?_⟩
        refine da_cons ?_
        refine de_df ?_
        refine df_lc (.nm 7) [("c", 7)] (by kernel_rfl) rfl (dg_nm rfl rfl) ?_
        refine di_lst ?_
        refine de_df ?_
        refine df_slice ?_
        refine de_var 6 rfl rfl rfl ?_
        refine ⟨_, rfl, ?_⟩
        refine do_none ?_
        refine do_some ?_
        refine de_un ?_
        refine de_int ?_
        refine und_negI ⟨-1, rfl, ?_⟩
        rw [cut_last, ← List.map_dropLast]
        refine ⟨_, rfl, ?_⟩
        refine lcI_map ((r.dropLast.map fun x => MR.fmul p x (MR.lastD r)).map (rn p)) (by simp) (by simp; omega) (fun j y z hy hz => ?_) ?_
        · obtain ⟨b, hb, rfl⟩ := map_get hy
          rw [map_at (map_at hb)] at hz
          cases hz
          refine de_meth (T.c4 _) f9 (by decide +kernel) (Nat.le_of_ble_eq_true rfl) ?_ _ (fun _ => rfl)
          refine de_var 7 rfl rfl rfl ?_
          refine ⟨_, rfl, ?_⟩
          refine da_cons ?_
          refine de_ix (fun _ _ => rfl) ?_
          refine de_var 6 rfl rfl rfl ?_
          refine ⟨_, rfl, ?_⟩
          refine de_un ?_
          refine de_int ?_
          refine und_negI ⟨-1, _, rfl, atI_last hla, ?_⟩
          refine da_nil ?_
          exact g_over hp (by simpa using h0) rfl
        refine da_nil ?_
        exact ⟨p, _, _, _, hp, rfl, rfl, rowIt_rn p _, by simp; omega, k⟩
      · rw [if_pos (by simpa using h0)] at hf
        refine dss_nil ?_
        exact ⟨_, rfl, hf⟩
    · rintro Γ ⟨e6, rfl, hf⟩
      rw [List.length_map, nil_] at hf
      rw [hf] at k
      refine dss_one ?_
      refine ds_ret ?_
      refine de_non ?_
      exact k
end SF

-- part L0
set_option maxHeartbeats 4000000
/-! # Helpers for the law's own defs: rows and matrices of ints, told by their form. -/
namespace SF
open PySem PySem.Spec PyProof.Rows L2 DK

theorem choose_list {α : Type} (f : α → D) (R : Nat → α → Prop) : ∀ (ds : List D) (k : Nat), (∀ (i : Nat) d, ds[i]? = some d → ∃ a, d = f a ∧ R (k + i) a) → ∃ as : List α, ds = as.map f ∧ ∀ (i : Nat) a, as[i]? = some a → R (k + i) a
  | [], _, _ => ⟨[], rfl, fun i a h => by simp at h⟩
  | d :: ds, k, h => by
    obtain ⟨a, rfl, ra⟩ := h 0 d rfl
    obtain ⟨as, rfl, rs⟩ := choose_list f R ds (k + 1) fun i d hd => by
      obtain ⟨b, e, rb⟩ := h (i + 1) d (by simpa using hd)
      exact ⟨b, e, by rw [show k + 1 + i = k + (i + 1) by omega]; exact rb⟩
    refine ⟨a :: as, rfl, fun i b hb => ?_⟩
    cases i with
    | zero => cases hb; exact ra
    | succ i => rw [show k + (i + 1) = k + 1 + i by omega]; exact rs i b (by simpa using hb)
def bnd (z : Int) : Prop := -100 ≤ z ∧ z ≤ 100
def bnds (r : List Int) : Prop := ∀ z ∈ r, bnd z
abbrev iL (r : List Int) : D := .lst (r.map D.int)
def qInt (d : D) : Prop := ∃ z : Int, d = .int z ∧ bnd z
/-- n rows of m bounded ints -/
def mOk (n m : Nat) (rs : List (List Int)) : Prop := rs.length = n ∧ ∀ r ∈ rs, r.length = m ∧ bnds r
abbrev mL (rs : List (List Int)) : D := .lst (rs.map iL)
def qRow (m : Nat) (d : D) : Prop := ∃ r, d = iL r ∧ r.length = m ∧ bnds r
def qMat (n : Nat) (d : D) : Prop := ∃ rs, d = mL rs ∧ mOk n n rs
theorem ints_of {ds : List D} (h : ∀ d ∈ ds, qInt d) : ∃ r : List Int, ds = r.map D.int ∧ bnds r := by
  obtain ⟨r, e, hr⟩ := choose_list D.int (fun _ z => bnd z) ds 0 fun i d hd => h d (List.mem_of_getElem? hd)
  exact ⟨r, e, fun z hz => by obtain ⟨i, hi⟩ := List.mem_iff_getElem?.mp hz; exact hr i z hi⟩
theorem rows_of {m : Nat} {ds : List D} (h : ∀ d ∈ ds, qRow m d) : ∃ rs : List (List Int), ds = rs.map iL ∧ ∀ r ∈ rs, r.length = m ∧ bnds r := by
  obtain ⟨r, e, hr⟩ := choose_list iL (fun _ r => r.length = m ∧ bnds r) ds 0 fun i d hd => h d (List.mem_of_getElem? hd)
  exact ⟨r, e, fun z hz => by obtain ⟨i, hi⟩ := List.mem_iff_getElem?.mp hz; exact hr i z hi⟩
theorem mod_bnd {p : Nat} (hp : okp p) (z : Int) : bnd (z % (p : Int)) := by
  have h1 := Int.emod_nonneg z hp.ne
  have h2 := Int.emod_lt_of_pos z hp.pos
  have h3 := hp.le
  constructor <;> omega
theorem CMulB {z : Int} (h : bnd z) (w : Int) : CMul z w := .inl ⟨by have := h.1; omega, by have := h.2; omega⟩
section
variable {C : DK.Ctx} {b : Tg} {Γ : Sl} {vs : List Nat} {scope : Scope} {elt : Expr} {ifs : List Expr} {A : List D → Prop} {its : List D}
theorem lcI_weak (Q : Nat → D → Prop) (hle : its.length ≤ 100000)
    (h : ∀ (i : Nat) d, its[i]? = some d → b.bind d (wipeS Γ vs) fun Γ' => DE (C.blk scope) elt Γ' (Q i)) (k : ∀ ds : List D, ds.length = its.length → (∀ (i : Nat) d, ds[i]? = some d → Q i d) → A ds) : LcI C b Γ vs scope [] elt A its := by
  refine ⟨hle, fun i acc => acc.length = i ∧ ∀ (j : Nat) d, acc[j]? = some d → Q j d, ⟨rfl, fun j d h => by simp at h⟩, fun i d acc hi hI _ => ?_, fun acc hI => k acc hI.1 hI.2⟩
  refine bind_imp (h i d hi) fun Γ' q => dps_nil ⟨fun _ => de_imp q fun z e => ?_, fun e => by cases e⟩
  refine ⟨by rw [List.length_append, hI.1]; rfl, fun j y hy => ?_⟩
  by_cases hj : j < acc.length
  · rw [List.getElem?_append_left hj] at hy
    exact hI.2 j y hy
  · rw [List.getElem?_append_right (by omega)] at hy
    have hj' : j - acc.length = 0 := by
      have := (List.getElem?_eq_some_iff.mp hy).1
      simp at this
      omega
    rw [hj'] at hy
    cases hy
    rw [show j = i by rw [← hI.1]; omega]
    exact e
theorem lcI_all (Q : D → Prop) (hle : its.length ≤ 100000)
    (h : ∀ (i : Nat) d, its[i]? = some d → b.bind d (wipeS Γ vs) fun Γ' => DE (C.blk scope) elt Γ' Q) (k : ∀ ds : List D, ds.length = its.length → (∀ d ∈ ds, Q d) → A ds) : LcI C b Γ vs scope [] elt A its :=
  lcI_weak (fun _ => Q) hle h fun ds hl hq => k ds hl fun d hd => by obtain ⟨i, hi⟩ := List.mem_iff_getElem?.mp hd; exact hq i d hi
end
/-! ### rows and matrices of ints, in either form -/
def IRow (n : Nat) (d : D) : Prop := d = .inv (.irow n) ∨ qRow n d
def IMat (n : Nat) (d : D) : Prop := d = .inv (.imat n) ∨ qMat n d
section
variable {C : DK.Ctx} {Γ : Sl} {P : D → Prop} {A : List D → Prop} {a b l tg : Expr} {n : Nat} {d : D} {pos : Pos}
theorem ix_IRow (hd : IRow n d) (h : DE C b Γ fun y => ∃ i : Nat, y = .int (i : Int) ∧ i < n ∧ ∀ z : Int, bnd z → P (.int z)) :
    (∃ ds, seqOf d = some ds ∧ DE C b Γ fun y => ∃ i z, y = .int i ∧ atI ds i = some z ∧ P z) ∨ (∃ n, d = .inv (.irow n) ∧ DE C b Γ fun y => ∃ i : Nat, y = .int (i : Int) ∧ i < n ∧ ∀ z : Int, -100 ≤ z → z ≤ 100 → P (.int z)) ∨
    ∃ n, d = .inv (.imat n) ∧ DE C b Γ fun y => ∃ i : Nat, y = .int (i : Int) ∧ i < n ∧ P (.inv (.irow n)) := by
  rcases hd with rfl | ⟨r, rfl, hl, hb⟩
  · exact .inr (.inl ⟨n, rfl, de_imp h fun y hy => by obtain ⟨i, e, hi, k⟩ := hy; exact ⟨i, e, hi, fun z h1 h2 => k z ⟨h1, h2⟩⟩⟩)
  · refine .inl ⟨_, rfl, de_imp h fun y hy => ?_⟩
    obtain ⟨i, rfl, hi, k⟩ := hy
    have hi' : i < r.length := by rw [hl]; exact hi
    exact ⟨i, _, rfl, atI_nat (map_at (List.getElem?_eq_getElem hi')), k _ (hb _ (List.getElem_mem hi'))⟩
theorem ix_IMat (hd : IMat n d) (h : DE C b Γ fun y => ∃ i : Nat, y = .int (i : Int) ∧ i < n ∧ ∀ r : D, IRow n r → P r) :
    (∃ ds, seqOf d = some ds ∧ DE C b Γ fun y => ∃ i z, y = .int i ∧ atI ds i = some z ∧ P z) ∨ (∃ n, d = .inv (.irow n) ∧ DE C b Γ fun y => ∃ i : Nat, y = .int (i : Int) ∧ i < n ∧ ∀ z : Int, -100 ≤ z → z ≤ 100 → P (.int z)) ∨
    ∃ n, d = .inv (.imat n) ∧ DE C b Γ fun y => ∃ i : Nat, y = .int (i : Int) ∧ i < n ∧ P (.inv (.irow n)) := by
  rcases hd with rfl | ⟨rs, rfl, hl, hb⟩
  · exact .inr (.inr ⟨n, rfl, de_imp h fun y hy => by obtain ⟨i, e, hi, k⟩ := hy; exact ⟨i, e, hi, k _ (.inl rfl)⟩⟩)
  · refine .inl ⟨_, rfl, de_imp h fun y hy => ?_⟩
    obtain ⟨i, rfl, hi, k⟩ := hy
    have hi' : i < rs.length := by rw [hl]; exact hi
    have hm := hb _ (List.getElem_mem hi')
    exact ⟨i, _, rfl, atI_nat (map_at (List.getElem?_eq_getElem hi')), k _ (.inr ⟨_, rfl, hm.1, hm.2⟩)⟩
theorem cd_lenI (hd : IMat n d) (k : P (.int (n : Nat))) : CallD C (.builtin "len") [d] P := by
  rcases hd with rfl | ⟨rs, rfl, hl, _⟩
  · exact cd_lenM k
  · exact cd_len rfl (by rw [List.length_map, hl]; exact k)
theorem di_IMat (hd : IMat n d) (h : DE C l Γ fun e => e = d) (k : ∀ its : List D, its.length = n → (∀ x ∈ its, IRow n x) → A its) : DI C tg l Γ A := by
  rcases hd with rfl | ⟨rs, rfl, hl, hb⟩
  · exact di_imat (de_imp h fun e q => by subst q; exact ⟨n, rfl, k _ (by simp) fun x hx => .inl (List.mem_replicate.mp hx).2⟩)
  · refine di_lst (de_imp h fun e q => ?_)
    subst q
    refine ⟨_, rfl, k _ (by rw [List.length_map, hl]) fun x hx => ?_⟩
    obtain ⟨r, hr, rfl⟩ := List.mem_map.mp hx
    exact .inr ⟨r, rfl, hb r hr⟩
end
end SF

-- part L1
set_option maxHeartbeats 4000000
/-! # The law's own defs: the drawn numbers, small matrices. -/
namespace SF
open PySem PySem.Spec PyProof.Rows L2 DK

/-! ### _law_numbers, _law_next, _law_rest -/
abbrev s_lnum : Stmt := topS 64
abbrev N_lnum : List Str := ["_law_script", "_law_found", "_law_k", "_law_cell", "_law_turn", "_law_i", "_law_mixed"]
theorem sc_lnum : FnScope N_lnum ["_law_script"] (defScope s_lnum) := ⟨rfl, rfl, rfl, by decide +kernel, rfl, by decide +kernel, by decide +kernel⟩
def pr_lnum (K : PySem.W.Frag) (ds : List D) (P : D → Prop) : Prop := ∃ (xs : List Int) (d : D), ds = [d] ∧ Script K xs d ∧ xs.length ≤ 63 ∧ P (.inv .nums)
theorem ar_lnum {K : PySem.W.Frag} (ds : List D) (P : D → Prop) (h : pr_lnum K ds P) : ds.length = 1 := by obtain ⟨_, _, rfl, _⟩ := h; rfl
theorem nums_snoc {ns : List Int} {z : Int} (h : numsOk ns) (h1 : 0 ≤ z) (h2 : z < 1009) : numsOk (ns ++ [z]) := fun n hn => by
  rcases List.mem_append.mp hn with hn | hn
  · exact h n hn
  · rw [List.mem_singleton.mp hn]; exact ⟨h1, h2⟩
theorem ok_lnum {M : Md} (T : Tx M) (h : DefAt M "_law_numbers" "_law_numbers" "_law_numbers" s_lnum) : Fn M "_law_numbers" 1 1 [] (pr_lnum M.K) := by
  refine fn_intro h sc_lnum rfl (fun _ _ _ _ _ _ us hl => match us, hl with | [_], _ => rfl) ar_lnum fun ds P hp _ => ?_
  obtain ⟨xs, sd, rfl, hsd, hx, k⟩ := hp
  refine dss_cons ?_
  refine ds_setG 1 rfl rfl ?_
  refine df_lst ?_
  refine da_nil ?_
  refine ⟨by simp, ?_⟩
  refine dss_cons ?_
  refine ds_for (.nm 2) (dg_nm rfl rfl) ?_
  refine di_rng1 rfl T.g_range ?_
  refine de_callB (id := "min") rfl T.g_min (by decide +kernel) ?_
  refine da_cons ?_
  refine de_callB rfl T.g_len PySem.boot_len (da_cons ?_)
  refine de_var 0 rfl rfl rfl ?_
  refine da_nil (cd_lenS hsd ?_)
  refine da_cons ?_
  refine de_int ?_
  refine da_nil ?_
  refine cd_min2 ?_
  have e1 : (if (63 : Int) < (xs.length : Int) then 63 else (xs.length : Int)) = (xs.length : Int) := by rw [if_neg (by omega)]
  rw [e1]
  refine ⟨_, rfl, by omega, by omega, ?_⟩
  refine ⟨fun i Γ => ∃ (ns : List Int) (e2 e3 e4 e5 e6 : Option Ent), Γ = [some (.dat sd), some (.grw (ns.map D.int)), e2, e3, e4, e5, e6] ∧ numsOk ns ∧ ns.length ≤ i * 60 ∧ i ≤ 63, ⟨[], none, none, none, none, none, rfl, (fun _ h => nomatch h), by simp, by omega⟩, ?_, ?_⟩
  · rintro i x Γ hi ⟨ns, e2, e3, e4, e5, e6, rfl, hns, hnl, hi63⟩
    obtain ⟨hlt, rfl⟩ := rgD_get hi
    have hil : i < xs.length := by omega
    rw [show (0 : Int) + (i : Int) = (i : Int) by omega]
    refine dss_cons ?_
    refine ds_set 3 rfl rfl ?_
    refine de_callB (id := "abs") rfl T.g_abs (by decide +kernel) ?_
    refine da_cons ?_
    refine de_ixS (xs := xs) (fun _ _ => rfl) ?_
    refine de_var 0 rfl rfl rfl ?_
    refine ⟨hsd, ?_⟩
    refine de_var 2 rfl rfl rfl ?_
    refine ⟨i, _, rfl, List.getElem?_eq_getElem hil, ?_⟩
    refine da_nil ?_
    refine cd_abs ?_
    refine dss_one ?_
    refine ds_if ?_
    refine dt_cmp (nomark _) ?_
    refine de_var 3 rfl rfl rfl ?_
    refine de_op ?_
    refine de_int ?_
    refine de_int ?_
    refine opd_pow ⟨by decide, by decide, by decide⟩ ?_
    refine opd_ge ?_
    refine ⟨_, rfl, fun _ => ?_, fun _ => ?_⟩
    · refine dss_one ?_
      refine ds_for (.nm 4) (dg_nm rfl rfl) ?_
      refine di_rng1 rfl T.g_range ?_
      refine de_int ?_
      refine ⟨60, rfl, by decide, by decide, ?_⟩
      refine ⟨fun t Γ => ∃ (ns : List Int) (c : Int) (e4 : Option Ent), Γ = [some (.dat sd), some (.grw (ns.map D.int)), some (.dat (.int (i : Nat))), some (.dat (.int c)), e4, e5, e6] ∧ numsOk ns ∧ ns.length ≤ i * 60 + t ∧ t ≤ 60, ⟨ns, _, e4, rfl, hns, by omega, by omega⟩, ?_, ?_⟩
      · rintro t x Γ ht ⟨ns, c, e4, rfl, hns, hnl, ht60⟩
        obtain ⟨hlt2, rfl⟩ := rgD_get ht
        have ht' : t < 60 := by have : (60 : Int).toNat = 60 := rfl; omega
        refine dss_one ?_
        refine ds_if ?_
        refine dt_cmp (nomark _) ?_
        refine de_var 3 rfl rfl rfl ?_
        refine de_int ?_
        refine opd_gt ?_
        refine ⟨_, rfl, fun hc => ?_, fun _ => ?_⟩
        · refine dss_cons ?_
          refine ds_app 1 rfl rfl rfl (by rw [List.length_map]; omega) ?_
          refine de_op ?_
          refine de_var 3 rfl rfl rfl ?_
          refine de_int ?_
          refine opd_mod (by decide) ?_
          refine dss_one ?_
          refine ds_set 3 rfl rfl ?_
          refine de_op ?_
          refine de_var 3 rfl rfl rfl ?_
          refine de_int ?_
          refine opd_fdiv (by decide) ?_
          refine ⟨ns ++ [c % 1009], ?_, ?_, ?_, nums_snoc hns (Int.emod_nonneg _ (by decide)) (Int.emod_lt_of_pos _ (by decide)), by simp; omega, by omega⟩
          rotate_left 2
          rw [List.map_append]
          rfl
        · refine dss_nil ?_
          exact ⟨ns, c, _, rfl, hns, by omega, by omega⟩
      · rintro Γ ⟨ns, c, e4, rfl, hns, hnl, _⟩
        rw [rgD_length, show (60 : Int).toNat = 60 from rfl] at hnl
        exact ⟨ns, _, _, _, _, _, rfl, hns, by omega, by omega⟩
    · refine dss_one ?_
      refine ds_for (.nm 5) (dg_nm rfl rfl) ?_
      refine di_rng1 rfl T.g_range ?_
      refine de_int ?_
      refine ⟨5, rfl, by decide, by decide, ?_⟩
      refine ⟨fun t Γ => ∃ (ns : List Int) (c : Int) (e5 e6 : Option Ent), Γ = [some (.dat sd), some (.grw (ns.map D.int)), some (.dat (.int (i : Nat))), some (.dat (.int c)), e4, e5, e6] ∧ numsOk ns ∧ ns.length ≤ i * 60 + t ∧ t ≤ 5, ⟨ns, _, e5, e6, rfl, hns, by omega, by omega⟩, ?_, ?_⟩
      · rintro t x Γ ht ⟨ns, c, e5, e6, rfl, hns, hnl, ht60⟩
        obtain ⟨hlt2, rfl⟩ := rgD_get ht
        have ht' : t < 5 := by have : (5 : Int).toNat = 5 := rfl; omega
        refine dss_cons ?_
        refine ds_set 3 rfl rfl ?_
        refine de_op ?_
        refine de_op ?_
        refine de_op ?_
        refine de_op ?_
        refine de_var 3 rfl rfl rfl ?_
        refine de_int ?_
        refine opd_mul (.inr (by decide)) ?_
        refine de_op ?_
        refine de_int ?_
        refine de_op ?_
        refine de_var 5 rfl rfl rfl ?_
        refine de_var 2 rfl rfl rfl ?_
        refine opd_add ?_
        refine opd_mul (.inl (by decide)) ?_
        refine opd_add ?_
        refine de_int ?_
        refine opd_add ?_
        refine de_int ?_
        refine opd_mod (by decide) ?_
        refine dss_cons ?_
        refine ds_set 6 rfl rfl ?_
        refine de_op ?_
        refine de_op ?_
        refine de_op ?_
        refine de_var 3 rfl rfl rfl ?_
        refine de_int ?_
        refine opd_mul (.inr (by decide)) ?_
        refine de_op ?_
        refine de_var 3 rfl rfl rfl ?_
        refine de_int ?_
        refine opd_fdiv (by decide) ?_
        refine opd_add ?_
        refine de_int ?_
        refine opd_mod (by decide) ?_
        refine dss_one ?_
        refine ds_app 1 rfl rfl rfl (by rw [List.length_map]; omega) ?_
        refine de_op ?_
        refine de_var 6 rfl rfl rfl ?_
        refine de_int ?_
        refine opd_mod (by decide) ?_
        refine ⟨ns ++ [?a % 1009], ?_, ?_, ?_, ?_, nums_snoc hns (Int.emod_nonneg ?a (show (1009 : Int) ≠ 0 by decide)) (Int.emod_lt_of_pos ?a (show (0 : Int) < 1009 by decide)), by simp; omega, by omega⟩
        rotate_left 4
        rw [List.map_append]
        rfl
      · rintro Γ ⟨ns, c, e5, e6, rfl, hns, hnl, _⟩
        rw [rgD_length, show (5 : Int).toNat = 5 from rfl] at hnl
        exact ⟨ns, _, _, _, _, _, rfl, hns, by omega, by omega⟩
  · rintro Γ ⟨ns, e2, e3, e4, e5, e6, rfl, hns, hnl, _⟩
    refine ds_pool 1 .nums rfl ⟨ns, rfl, hns⟩ ?_
    refine dss_one ?_
    refine ds_ret ?_
    refine de_var 1 rfl rfl rfl ?_
    exact k
abbrev s_lnext : Stmt := topS 65
abbrev N_lnext : List Str := ["_law_numbers_here", "_law_many"]
theorem sc_lnext : FnScope N_lnext ["_law_numbers_here", "_law_many"] (defScope s_lnext) := ⟨rfl, rfl, rfl, by decide +kernel, rfl, by decide +kernel, by decide +kernel⟩
def pr_lnext (ds : List D) (P : D → Prop) : Prop := ∃ m : Int, ds = [.inv .nums, .int m] ∧ 0 < m ∧ ∀ r : Int, 0 ≤ r → r < m → P (.int r)
theorem ar_lnext (ds : List D) (P : D → Prop) (h : pr_lnext ds P) : ds.length = 2 := by obtain ⟨_, rfl, _⟩ := h; rfl
theorem ok_lnext {M : Md} (T : Tx M) (h : DefAt M "_law_next" "_law_next" "_law_next" s_lnext) : Fn M "_law_next" 2 1 [] pr_lnext := by
  refine fn_intro h sc_lnext rfl (fun _ _ _ _ _ _ us hl => match us, hl with | [_, _], _ => rfl) ar_lnext fun ds P hp _ => ?_
  obtain ⟨m, rfl, hm, k⟩ := hp
  exact dss_next hm rfl rfl rfl rfl rfl rfl rfl T.g_len k
abbrev s_lrest : Stmt := topS 66
abbrev N_lrest : List Str := ["_law_p", "_law_x"]
theorem sc_lrest : FnScope N_lrest ["_law_p", "_law_x"] (defScope s_lrest) := ⟨rfl, rfl, rfl, by decide +kernel, rfl, by decide +kernel, by decide +kernel⟩
def pr_lrest (ds : List D) (P : D → Prop) : Prop := ∃ (p : Nat) (z : Int), okp p ∧ ds = [.int (p : Nat), .int z] ∧ P (.int (z % (p : Int)))
theorem ar_lrest (ds : List D) (P : D → Prop) (h : pr_lrest ds P) : ds.length = 2 := by obtain ⟨_, _, _, rfl, _⟩ := h; rfl
theorem ok_lrest {M : Md} (T : Tx M) (h : DefAt M "_law_rest" "_law_rest" "_law_rest" s_lrest) : Fn M "_law_rest" 2 1 [] pr_lrest := by
  refine fn_intro h sc_lrest rfl (fun _ _ _ _ _ _ us hl => match us, hl with | [_, _], _ => rfl) ar_lrest fun ds P hp _ => ?_
  obtain ⟨p, z, hp, rfl, k⟩ := hp
  refine dss_cons ?_
  refine ds_if ?_
  refine dt_cmp (nomark _) ?_
  refine de_var 0 rfl rfl rfl ?_
  refine de_int ?_
  refine opd_eqI ?_
  refine ⟨_, rfl, no_true (decide_eq_false hp.ne), fun _ => ?_⟩
  refine dss_nil ?_
  refine dss_one ?_
  refine ds_ret ?_
  refine de_op ?_
  refine de_var 1 rfl rfl rfl ?_
  refine de_var 0 rfl rfl rfl ?_
  exact opd_mod hp.pos k

/-! ### _law_matrix -/
theorem seven {r : Int} (h1 : 0 ≤ r) (h2 : r < 7) : ∃ z : Int, atI [D.int 0, .int 1, .int (-1), .int 0, .int 2, .int 1, .int 0] r = some (.int z) ∧ bnd z := by
  have h : r = 0 ∨ r = 1 ∨ r = 2 ∨ r = 3 ∨ r = 4 ∨ r = 5 ∨ r = 6 := by omega
  rcases h with rfl | rfl | rfl | rfl | rfl | rfl | rfl <;> exact ⟨_, rfl, by constructor <;> decide⟩
theorem four {r : Int} (h1 : 0 ≤ r) (h2 : r < 4) : ∃ z : Int, atI [D.int 0, .int 1, .int (-1), .int 2] r = some (.int z) ∧ bnd z := by
  have h : r = 0 ∨ r = 1 ∨ r = 2 ∨ r = 3 := by omega
  rcases h with rfl | rfl | rfl | rfl <;> exact ⟨_, rfl, by constructor <;> decide⟩
abbrev s_lmat : Stmt := topS 67
abbrev N_lmat : List Str := ["_law_numbers_here", "_law_n", "_law_m", "_law_i", "_law_j"]
theorem sc_lmat : FnScope N_lmat ["_law_numbers_here", "_law_n", "_law_m"] (defScope s_lmat) := ⟨rfl, rfl, rfl, by decide +kernel, rfl, by decide +kernel, by decide +kernel⟩
def pr_lmat (ds : List D) (P : D → Prop) : Prop := ∃ (n m : Nat), n ≤ 100 ∧ m ≤ 100 ∧ ds = [.inv .nums, .int (n : Nat), .int (m : Nat)] ∧ ∀ rs, mOk n m rs → P (mL rs)
theorem ar_lmat (ds : List D) (P : D → Prop) (h : pr_lmat ds P) : ds.length = 3 := by obtain ⟨_, _, _, _, rfl, _⟩ := h; rfl
theorem ok_lmat {M : Md} (T : Tx M) (h : DefAt M "_law_matrix" "_law_matrix" "_law_matrix" s_lmat) (f1 : Fn M "_law_next" 2 1 [] pr_lnext) : Fn M "_law_matrix" 3 2 [] pr_lmat := by
  refine fn_intro h sc_lmat rfl (fun _ _ _ _ _ _ us hl => match us, hl with | [_, _, _], _ => rfl) ar_lmat fun ds P hp _ => ?_
  obtain ⟨n, m, hn, hm, rfl, k⟩ := hp
  refine dss_one ?_
  refine ds_ret ?_
  refine de_df ?_
  refine df_lc (.nm 3) [("_law_i", 3)] (by kernel_rfl) rfl (dg_nm rfl rfl) ?_
  refine di_rng1 rfl T.g_range ?_
  refine de_var 1 rfl rfl rfl ?_
  refine ⟨(n : Nat), rfl, by omega, by omega, ?_⟩
  refine lcI_all (qRow m) (by rw [rgD_length]; omega) (fun i d hi => ?_) fun ds hl hq => ?_
  · refine de_df ?_
    refine df_lc (.nm 4) [("_law_j", 4)] (by kernel_rfl) rfl (dg_nm rfl rfl) ?_
    refine di_rng1 rfl T.g_range ?_
    refine de_var 2 rfl rfl rfl ?_
    refine ⟨(m : Nat), rfl, by omega, by omega, ?_⟩
    refine lcI_all qInt (by rw [rgD_length]; omega) (fun j d hj => ?_) fun ds hl hq => ?_
    · refine de_ix (fun _ _ => rfl) ?_
      refine de_df ?_
      refine df_lst ?_
      refine da_cons ?_
      refine de_int ?_
      refine da_cons ?_
      refine de_int ?_
      refine da_cons ?_
      refine de_un ?_
      refine de_int ?_
      refine und_negI ?_
      refine da_cons ?_
      refine de_int ?_
      refine da_cons ?_
      refine de_int ?_
      refine da_cons ?_
      refine de_int ?_
      refine da_cons ?_
      refine de_int ?_
      refine da_nil ?_
      refine ⟨by simp, _, rfl, ?_⟩
      refine de_call f1 rfl (Nat.le_of_ble_eq_true rfl) ?_
      refine da_cons ?_
      refine de_var 0 rfl rfl rfl ?_
      refine da_cons ?_
      refine de_int ?_
      refine da_nil ?_
      refine ⟨7, rfl, by decide, fun r h1 h2 => ?_⟩
      obtain ⟨z, hz, hb⟩ := seven h1 h2
      exact ⟨r, _, rfl, hz, z, rfl, hb⟩
    · obtain ⟨r, rfl, hb⟩ := ints_of hq
      exact ⟨r, rfl, by rw [List.length_map, rgD_length] at hl; omega, hb⟩
  · obtain ⟨rs, rfl, hb⟩ := rows_of hq
    exact k rs ⟨by rw [List.length_map, rgD_length] at hl; omega, hb⟩

/-! ### _law_times -/
abbrev s_ltimes : Stmt := topS 68
abbrev N_ltimes : List Str := ["_law_p", "_law_a", "_law_b", "_law_width", "_law_found", "_law_row", "_law_line", "_law_j", "_law_k"]
theorem sc_ltimes : FnScope N_ltimes ["_law_p", "_law_a", "_law_b", "_law_width"] (defScope s_ltimes) := ⟨rfl, rfl, rfl, by decide +kernel, rfl, by decide +kernel, by decide +kernel⟩
def pr_ltimes (ds : List D) (P : D → Prop) : Prop := ∃ (p n : Nat) (a b : D), okp p ∧ n ≤ 100 ∧ IMat n a ∧ IMat n b ∧ ds = [.int (p : Nat), a, b, .int (n : Nat)] ∧ ∀ rs, mOk n n rs → P (mL rs)
theorem ar_ltimes (ds : List D) (P : D → Prop) (h : pr_ltimes ds P) : ds.length = 4 := by obtain ⟨_, _, _, _, _, _, _, _, rfl, _⟩ := h; rfl
theorem sums_of {ds : List D} (h : ∀ d ∈ ds, ∃ z : Int, d = .int z) : ∃ r : List Int, ds = r.map D.int := by
  obtain ⟨r, e, _⟩ := choose_list D.int (fun _ _ => True) ds 0 fun i d hd => by obtain ⟨z, e⟩ := h d (List.mem_of_getElem? hd); exact ⟨z, e, trivial⟩
  exact ⟨r, e⟩
theorem bnds_snoc {r : List Int} {z : Int} (h : bnds r) (hz : bnd z) : bnds (r ++ [z]) := fun w hw => by
  rcases List.mem_append.mp hw with hw | hw
  · exact h w hw
  · rw [List.mem_singleton.mp hw]; exact hz
theorem ok_ltimes {M : Md} (T : Tx M) (h : DefAt M "_law_times" "_law_times" "_law_times" s_ltimes) (f1 : Fn M "_law_rest" 2 1 [] pr_lrest) : Fn M "_law_times" 4 2 [] pr_ltimes := by
  refine fn_intro h sc_ltimes rfl (fun _ _ _ _ _ _ us hl => match us, hl with | [_, _, _, _], _ => rfl) ar_ltimes fun ds P hp _ => ?_
  obtain ⟨p, n, a, b, hp, hn, ha, hb, rfl, k⟩ := hp
  refine dss_cons ?_
  refine ds_setG 4 rfl rfl ?_
  refine df_lst ?_
  refine da_nil ?_
  refine ⟨by simp, ?_⟩
  refine dss_cons ?_
  refine ds_for (.nm 5) (dg_nm rfl rfl) ?_
  refine di_IMat ha (de_var 1 rfl rfl rfl rfl) fun its hil hir => ?_
  refine ⟨fun i Γ => ∃ (rs : List (List Int)) (e5 e6 e7 : Option Ent), Γ = [some (.dat (.int (p : Nat))), some (.dat a), some (.dat b), some (.dat (.int (n : Nat))), some (.grw (rs.map iL)), e5, e6, e7, none] ∧ rs.length = i ∧ i ≤ n ∧ ∀ r ∈ rs, r.length = n ∧ bnds r, ⟨[], none, none, none, rfl, rfl, by omega, fun _ h => nomatch h⟩, ?_, ?_⟩
  · rintro i x Γ hi ⟨rs, e5, e6, e7, rfl, hrl, hin, hr⟩
    have hlt : i < n := by rw [← hil]; exact (List.getElem?_eq_some_iff.mp hi).1
    have hx := hir x (List.mem_of_getElem? hi)
    refine dss_cons ?_
    refine ds_setG 6 rfl rfl ?_
    refine df_lst ?_
    refine da_nil ?_
    refine ⟨by simp, ?_⟩
    refine dss_cons ?_
    refine ds_for (.nm 7) (dg_nm rfl rfl) ?_
    refine di_rng1 rfl T.g_range ?_
    refine de_var 3 rfl rfl rfl ?_
    refine ⟨(n : Nat), rfl, by omega, by omega, ?_⟩
    refine ⟨fun j Γ => ∃ (r : List Int) (e7 : Option Ent), Γ = [some (.dat (.int (p : Nat))), some (.dat a), some (.dat b), some (.dat (.int (n : Nat))), some (.grw (rs.map iL)), some (.dat x), some (.grw (r.map D.int)), e7, none] ∧ r.length = j ∧ j ≤ n ∧ bnds r, ⟨[], e7, rfl, rfl, by omega, fun _ h => nomatch h⟩, ?_, ?_⟩
    · rintro j y Γ hj ⟨r, e7, rfl, hrj, hjn, hbr⟩
      obtain ⟨hlt2, rfl⟩ := rgD_get hj
      have hj' : j < n := by omega
      refine dss_one ?_
      refine ds_app 6 rfl rfl rfl (by rw [List.length_map]; omega) ?_
      refine de_call f1 rfl (Nat.le_of_ble_eq_true rfl) ?_
      refine da_cons ?_
      refine de_var 0 rfl rfl rfl ?_
      refine da_cons ?_
      refine de_callB (id := "sum") rfl T.g_sum (by decide +kernel) ?_
      refine da_cons ?_
      refine de_df ?_
      refine df_lc (.nm 8) [("_law_k", 8)] (by kernel_rfl) rfl (dg_nm rfl rfl) ?_
      refine di_rng1 rfl T.g_range ?_
      refine de_callB rfl T.g_len PySem.boot_len (da_cons ?_)
      refine de_var 2 rfl rfl rfl ?_
      refine da_nil (cd_lenI hb ?_)
      refine ⟨(n : Nat), rfl, by omega, by omega, ?_⟩
      refine lcI_all (fun d => ∃ z : Int, d = .int z) (by rw [rgD_length]; omega) (fun l y hl => ?_) fun ds hl hq => ?_
      · obtain ⟨hlt3, rfl⟩ := rgD_get hl
        have hl' : l < n := by omega
        refine de_op ?_
        refine de_ixO (fun _ _ => rfl) ?_
        refine de_var 5 rfl rfl rfl ?_
        refine ix_IRow hx ?_
        refine de_var 8 rfl rfl rfl ?_
        refine ⟨l, by simp, hl', fun z1 hz1 => ?_⟩
        refine de_ixO (fun _ _ => rfl) (de_ixO (fun _ _ => rfl) ?_)
        refine de_var 2 rfl rfl rfl ?_
        refine ix_IMat hb ?_
        refine de_var 8 rfl rfl rfl ?_
        refine ⟨l, by simp, hl', fun row hrow => ?_⟩
        refine ix_IRow hrow ?_
        refine de_var 7 rfl rfl rfl ?_
        refine ⟨j, by simp, hj', fun z2 hz2 => ?_⟩
        exact opd_mul (CMulB hz1 z2) ⟨_, rfl⟩
      obtain ⟨zs, rfl⟩ := sums_of hq
      refine da_nil ?_
      refine cd_sum ?_
      refine da_nil ?_
      refine ⟨p, _, hp, rfl, r ++ [zs.sum % (p : Int)], ?_, ?_, by simp [hrj], by omega, bnds_snoc hbr (mod_bnd hp _)⟩
      rotate_left 1
      rw [List.map_append]
      rfl
    · rintro Γ ⟨r, e7, rfl, hrj, hjn, hbr⟩
      rw [rgD_length, Int.toNat_natCast] at hrj
      refine ds_freeze 6 rfl ?_
      refine dss_one ?_
      refine ds_app 4 rfl rfl rfl (by rw [List.length_map]; omega) ?_
      refine de_var 6 rfl rfl rfl ?_
      refine ⟨rs ++ [r], ?_, ?_, ?_, ?_, by simp [hrl], by omega, fun q hq => ?_⟩
      rotate_left 3
      · rw [List.map_append]
        rfl
      · rcases List.mem_append.mp hq with hq | hq
        · exact hr q hq
        · rw [List.mem_singleton.mp hq]; exact ⟨hrj, hbr⟩
  · rintro Γ ⟨rs, e5, e6, e7, rfl, hrl, hin, hr⟩
    refine ds_freeze 4 rfl ?_
    refine dss_one ?_
    refine ds_ret ?_
    refine de_var 4 rfl rfl rfl ?_
    exact k rs ⟨by rw [hrl, hil], hr⟩

/-! ### _law_unit, _law_pair -/
abbrev s_lunit : Stmt := topS 69
abbrev N_lunit : List Str := ["_law_n", "_law_i", "_law_j"]
theorem sc_lunit : FnScope N_lunit ["_law_n"] (defScope s_lunit) := ⟨rfl, rfl, rfl, by decide +kernel, rfl, by decide +kernel, by decide +kernel⟩
def pr_lunit (ds : List D) (P : D → Prop) : Prop := ∃ (n : Nat), n ≤ 100 ∧ ds = [.int (n : Nat)] ∧ P (.inv (.imat n))
theorem ar_lunit (ds : List D) (P : D → Prop) (h : pr_lunit ds P) : ds.length = 1 := by obtain ⟨_, _, rfl, _⟩ := h; rfl
theorem ok_lunit {M : Md} (T : Tx M) (h : DefAt M "_law_unit" "_law_unit" "_law_unit" s_lunit) : Fn M "_law_unit" 1 1 [] pr_lunit := by
  refine fn_intro h sc_lunit rfl (fun _ _ _ _ _ _ us hl => match us, hl with | [_], _ => rfl) ar_lunit fun ds P hp _ => ?_
  obtain ⟨n, hn, rfl, k⟩ := hp
  refine dss_one ?_
  refine ds_ret ?_
  refine de_dfI (.imat n) ?_
  refine df_lc (.nm 1) [("_law_i", 1)] (by kernel_rfl) rfl (dg_nm rfl rfl) ?_
  refine di_rng1 rfl T.g_range ?_
  refine de_var 0 rfl rfl rfl ?_
  refine ⟨(n : Nat), rfl, by omega, by omega, ?_⟩
  refine lcI_all (fun d => d = .inv (.irow n)) (by rw [rgD_length]; omega) (fun i d hi => ?_) fun ds hl hq => ?_
  · refine de_dfI (.irow n) ?_
    refine df_lc (.nm 2) [("_law_j", 2)] (by kernel_rfl) rfl (dg_nm rfl rfl) ?_
    refine di_rng1 rfl T.g_range ?_
    refine de_var 0 rfl rfl rfl ?_
    refine ⟨(n : Nat), rfl, by omega, by omega, ?_⟩
    refine lcI_all qInt (by rw [rgD_length]; omega) (fun j d hj => ?_) fun ds hl hq => ?_
    · obtain ⟨_, rfl⟩ := rgD_get hi
      obtain ⟨_, rfl⟩ := rgD_get hj
      refine de_callTy (T := "int") rfl T.g_int (by decide +kernel) ?_
      refine da_cons ?_
      refine de_cmp (nomark _) ?_
      refine de_var 1 rfl rfl rfl ?_
      refine de_var 2 rfl rfl rfl ?_
      refine opd_eqI ?_
      refine da_nil ?_
      refine cd_intB ⟨_, rfl, ?_⟩
      split <;> constructor <;> decide
    · exact ⟨⟨by rw [rgD_length] at hl; omega, fun d hd => by obtain ⟨z, e, h⟩ := hq d hd; exact ⟨z, e, h.1, h.2⟩⟩, rfl⟩
  · exact ⟨⟨by rw [rgD_length] at hl; omega, hq⟩, k⟩
abbrev s_lpair : Stmt := topS 70
abbrev N_lpair : List Str := ["_law_numbers_here", "_law_p", "_law_n", "_law_one", "_law_two", "_law_turn", "_law_i", "_law_j", "_law_c", "_law_k", "_law_row"]
theorem sc_lpair : FnScope N_lpair ["_law_numbers_here", "_law_p", "_law_n"] (defScope s_lpair) := ⟨rfl, rfl, rfl, by decide +kernel, rfl, by decide +kernel, by decide +kernel⟩
def pr_lpair (ds : List D) (P : D → Prop) : Prop := ∃ (p n : Nat), okp p ∧ 0 < n ∧ n ≤ 100 ∧ ds = [.inv .nums, .int (p : Nat), .int (n : Nat)] ∧ P (.tup [.inv (.imat n), .inv (.imat n)])
theorem ar_lpair (ds : List D) (P : D → Prop) (h : pr_lpair ds P) : ds.length = 3 := by obtain ⟨_, _, _, _, _, rfl, _⟩ := h; rfl
theorem ok_lpair {M : Md} (T : Tx M) (h : DefAt M "_law_pair" "_law_pair" "_law_pair" s_lpair) (f1 : Fn M "_law_next" 2 1 [] pr_lnext) (f2 : Fn M "_law_rest" 2 1 [] pr_lrest) (f3 : Fn M "_law_unit" 1 1 [] pr_lunit) : Fn M "_law_pair" 3 2 [] pr_lpair := by
  refine fn_intro h sc_lpair rfl (fun _ _ _ _ _ _ us hl => match us, hl with | [_, _, _], _ => rfl) ar_lpair fun ds P hp _ => ?_
  obtain ⟨p, n, hp, hn0, hn, rfl, k⟩ := hp
  refine dss_cons ?_
  refine ds_set 3 rfl rfl ?_
  refine de_call f3 rfl (Nat.le_of_ble_eq_true rfl) ?_
  refine da_cons ?_
  refine de_var 2 rfl rfl rfl ?_
  refine da_nil ?_
  refine ⟨n, hn, rfl, ?_⟩
  refine dss_cons ?_
  refine ds_set 4 rfl rfl ?_
  refine de_call f3 rfl (Nat.le_of_ble_eq_true rfl) ?_
  refine da_cons ?_
  refine de_var 2 rfl rfl rfl ?_
  refine da_nil ?_
  refine ⟨n, hn, rfl, ?_⟩
  refine dss_cons ?_
  refine ds_for (.nm 5) (dg_nm rfl rfl) ?_
  refine di_rng1 rfl T.g_range ?_
  refine de_call f1 rfl (Nat.le_of_ble_eq_true rfl) ?_
  refine da_cons ?_
  refine de_var 0 rfl rfl rfl ?_
  refine da_cons ?_
  refine de_int ?_
  refine da_nil ?_
  refine ⟨5, rfl, by decide, fun turns t1 t2 => ⟨turns, rfl, by omega, by omega, ?_⟩⟩
  refine ⟨fun i Γ => ∃ (e5 e6 e7 e8 e10 : Option Ent), Γ = [some (.dat (.inv .nums)), some (.dat (.int (p : Nat))), some (.dat (.int (n : Nat))), some (.dat (.inv (.imat n))), some (.dat (.inv (.imat n))), e5, e6, e7, e8, none, e10], ⟨none, none, none, none, none, rfl⟩, ?_, ?_⟩
  · rintro i x Γ hi ⟨e5, e6, e7, e8, e10, rfl⟩
    refine dss_cons ?_
    refine ds_set 6 rfl rfl ?_
    refine de_call f1 rfl (Nat.le_of_ble_eq_true rfl) ?_
    refine da_cons ?_
    refine de_var 0 rfl rfl rfl ?_
    refine da_cons ?_
    refine de_var 2 rfl rfl rfl ?_
    refine da_nil ?_
    refine ⟨(n : Nat), rfl, by omega, fun ri i1 i2 => ?_⟩
    obtain ⟨ni, rfl⟩ := Int.eq_ofNat_of_zero_le i1
    have hni : ni < n := by omega
    refine dss_cons ?_
    refine ds_set 7 rfl rfl ?_
    refine de_call f1 rfl (Nat.le_of_ble_eq_true rfl) ?_
    refine da_cons ?_
    refine de_var 0 rfl rfl rfl ?_
    refine da_cons ?_
    refine de_var 2 rfl rfl rfl ?_
    refine da_nil ?_
    refine ⟨(n : Nat), rfl, by omega, fun rj j1 j2 => ?_⟩
    obtain ⟨nj, rfl⟩ := Int.eq_ofNat_of_zero_le j1
    have hnj : nj < n := by omega
    refine dss_cons ?_
    refine ds_set 8 rfl rfl ?_
    refine de_op ?_
    refine de_int ?_
    refine de_op ?_
    refine de_int ?_
    refine de_call f1 rfl (Nat.le_of_ble_eq_true rfl) ?_
    refine da_cons ?_
    refine de_var 0 rfl rfl rfl ?_
    refine da_cons ?_
    refine de_int ?_
    refine da_nil ?_
    refine ⟨2, rfl, by decide, fun rc c1 c2 => ?_⟩
    refine opd_mul (.inl (by decide)) ?_
    refine opd_sub ?_
    have hc : bnd (1 - 2 * rc) := by constructor <;> omega
    generalize 1 - 2 * rc = c at hc
    refine dss_one ?_
    refine ds_if ?_
    refine dt_cmp (nomark _) ?_
    refine de_var 6 rfl rfl rfl ?_
    refine de_var 7 rfl rfl rfl ?_
    refine opd_neI ?_
    refine ⟨_, rfl, fun _ => ?_, fun _ => ?_⟩
    · refine dss_cons ?_
      refine ds_ixI 3 (n := n) (kd := .imat n) (.inr rfl) rfl rfl rfl ?_
      refine de_dfI (.irow n) ?_
      refine df_lc (.nm 9) [("_law_k", 9)] (by kernel_rfl) rfl (dg_nm rfl rfl) ?_
      refine di_rng1 rfl T.g_range ?_
      refine de_var 2 rfl rfl rfl ?_
      refine ⟨(n : Nat), rfl, by omega, by omega, ?_⟩
      refine lcI_all qInt (by rw [rgD_length]; omega) (fun l d hl => ?_) fun ds hl hq => ?_
      · obtain ⟨hlt, rfl⟩ := rgD_get hl
        have hl' : l < n := by omega
        refine de_call f2 rfl (Nat.le_of_ble_eq_true rfl) ?_
        refine da_cons ?_
        refine de_var 1 rfl rfl rfl ?_
        refine da_cons ?_
        refine de_op ?_
        refine de_ixO (fun _ _ => rfl) (de_ixO (fun _ _ => rfl) ?_)
        refine de_var 3 rfl rfl rfl ?_
        refine ix_IMat (.inl rfl) ?_
        refine de_var 6 rfl rfl rfl ?_
        refine ⟨ni, rfl, hni, fun row hrow => ix_IRow hrow ?_⟩
        refine de_var 9 rfl rfl rfl ?_
        refine ⟨l, by simp, hl', fun z1 hz1 => ?_⟩
        refine de_op ?_
        refine de_var 8 rfl rfl rfl ?_
        refine de_ixO (fun _ _ => rfl) (de_ixO (fun _ _ => rfl) ?_)
        refine de_var 3 rfl rfl rfl ?_
        refine ix_IMat (.inl rfl) ?_
        refine de_var 7 rfl rfl rfl ?_
        refine ⟨nj, rfl, hnj, fun row hrow => ix_IRow hrow ?_⟩
        refine de_var 9 rfl rfl rfl ?_
        refine ⟨l, by simp, hl', fun z2 hz2 => ?_⟩
        refine opd_mul (CMulB hc z2) ?_
        refine opd_add ?_
        refine da_nil ?_
        exact ⟨p, _, hp, rfl, _, rfl, mod_bnd hp _⟩
      refine ⟨⟨by rw [rgD_length] at hl; omega, fun d hd => by obtain ⟨z, e, h⟩ := hq d hd; exact ⟨z, e, h.1, h.2⟩⟩, .inr ⟨rfl, rfl⟩, ?_⟩
      refine de_var 6 rfl rfl rfl ?_
      refine ⟨ni, rfl, hni, ?_⟩
      refine dss_one ?_
      refine ds_for (.nm 10) (dg_nm rfl rfl) ?_
      refine di_imat (de_var 4 rfl rfl rfl ⟨n, rfl, ?_⟩)
      refine ⟨fun t Γ => ∃ (e10 : Option Ent), Γ = [some (.dat (.inv .nums)), some (.dat (.int (p : Nat))), some (.dat (.int (n : Nat))), some (.dat (.inv (.imat n))), some (.dat (.inv (.imat n))), some (.dat x), some (.dat (.int (ni : Nat))), some (.dat (.int (nj : Nat))), some (.dat (.int c)), none, e10], ⟨e10, rfl⟩, ?_, ?_⟩
      · rintro t y Γ ht ⟨e10, rfl⟩
        have hy : y = .inv (.irow n) := (List.mem_replicate.mp (List.mem_of_getElem? ht)).2
        subst hy
        refine dss_one ?_
        refine ds_ixI 10 (n := n) (kd := .irow n) (.inl ⟨rfl, fun _ => trivial⟩) rfl rfl rfl ?_
        refine de_call f2 rfl (Nat.le_of_ble_eq_true rfl) ?_
        refine da_cons ?_
        refine de_var 1 rfl rfl rfl ?_
        refine da_cons ?_
        refine de_op ?_
        refine de_ixO (fun _ _ => rfl) ?_
        refine de_var 10 rfl rfl rfl ?_
        refine ix_IRow (.inl rfl) ?_
        refine de_var 7 rfl rfl rfl ?_
        refine ⟨nj, rfl, hnj, fun z1 hz1 => ?_⟩
        refine de_op ?_
        refine de_var 8 rfl rfl rfl ?_
        refine de_ixO (fun _ _ => rfl) ?_
        refine de_var 10 rfl rfl rfl ?_
        refine ix_IRow (.inl rfl) ?_
        refine de_var 6 rfl rfl rfl ?_
        refine ⟨ni, rfl, hni, fun z2 hz2 => ?_⟩
        refine opd_mul (CMulB hc z2) ?_
        refine opd_sub ?_
        refine da_nil ?_
        refine ⟨p, _, hp, rfl, .inl ⟨rfl, _, rfl, (mod_bnd hp _).1, (mod_bnd hp _).2⟩, ?_⟩
        refine de_var 7 rfl rfl rfl ?_
        exact ⟨nj, rfl, hnj, _, rfl⟩
      · rintro Γ ⟨e10, rfl⟩
        exact ⟨_, _, _, _, _, rfl⟩
    · refine dss_nil ?_
      exact ⟨_, _, _, _, _, rfl⟩
  · rintro Γ ⟨e5, e6, e7, e8, e10, rfl⟩
    refine dss_one ?_
    refine ds_ret ?_
    refine de_tup ?_
    refine da_cons ?_
    refine de_var 3 rfl rfl rfl ?_
    refine da_cons ?_
    refine de_var 4 rfl rfl rfl ?_
    refine da_nil ?_
    exact ⟨by simp, k⟩
end SF

-- part L2
set_option maxHeartbeats 4000000
/-! # The law's own defs: polynomials, blocks, the square matrix. -/
namespace SF
open PySem PySem.Spec PyProof.Rows L2 DK

/-! ### _law_poly, _law_product -/
abbrev s_lpoly : Stmt := topS 71
abbrev N_lpoly : List Str := ["_law_numbers_here", "_law_p", "_law_degree", "_law_k"]
theorem sc_lpoly : FnScope N_lpoly ["_law_numbers_here", "_law_p", "_law_degree"] (defScope s_lpoly) := ⟨rfl, rfl, rfl, by decide +kernel, rfl, by decide +kernel, by decide +kernel⟩
def pr_lpoly (ds : List D) (P : D → Prop) : Prop := ∃ (p n : Nat), okp p ∧ n ≤ 100 ∧ ds = [.inv .nums, .int (p : Nat), .int (n : Nat)] ∧ ∀ r : List Int, r.length = n + 1 → bnds r → P (iL r)
theorem ar_lpoly (ds : List D) (P : D → Prop) (h : pr_lpoly ds P) : ds.length = 3 := by obtain ⟨_, _, _, _, rfl, _⟩ := h; rfl
theorem ok_lpoly {M : Md} (T : Tx M) (h : DefAt M "_law_poly" "_law_poly" "_law_poly" s_lpoly) (f1 : Fn M "_law_next" 2 1 [] pr_lnext) (f2 : Fn M "_law_rest" 2 1 [] pr_lrest) : Fn M "_law_poly" 3 2 [] pr_lpoly := by
  refine fn_intro h sc_lpoly rfl (fun _ _ _ _ _ _ us hl => match us, hl with | [_, _, _], _ => rfl) ar_lpoly fun ds P hp _ => ?_
  obtain ⟨p, n, hp, hn, rfl, k⟩ := hp
  refine dss_one ?_
  refine ds_ret ?_
  refine de_op ?_
  refine de_df ?_
  refine df_lc (.nm 3) [("_law_k", 3)] (by kernel_rfl) rfl (dg_nm rfl rfl) ?_
  refine di_rng1 rfl T.g_range ?_
  refine de_var 2 rfl rfl rfl ?_
  refine ⟨(n : Nat), rfl, by omega, by omega, ?_⟩
  refine lcI_all qInt (by rw [rgD_length]; omega) (fun i d hi => ?_) fun ds hl hq => ?_
  · refine de_call f2 rfl (Nat.le_of_ble_eq_true rfl) ?_
    refine da_cons ?_
    refine de_var 1 rfl rfl rfl ?_
    refine da_cons ?_
    refine de_ix (fun _ _ => rfl) ?_
    refine de_df ?_
    refine df_lst ?_
    refine da_cons ?_
    refine de_int ?_
    refine da_cons ?_
    refine de_int ?_
    refine da_cons ?_
    refine de_un ?_
    refine de_int ?_
    refine und_negI ?_
    refine da_cons ?_
    refine de_int ?_
    refine da_nil ?_
    refine ⟨by simp, _, rfl, ?_⟩
    refine de_call f1 rfl (Nat.le_of_ble_eq_true rfl) ?_
    refine da_cons ?_
    refine de_var 0 rfl rfl rfl ?_
    refine da_cons ?_
    refine de_int ?_
    refine da_nil ?_
    refine ⟨4, rfl, by decide, fun r h1 h2 => ?_⟩
    obtain ⟨z, hz, hb⟩ := four h1 h2
    refine ⟨r, _, rfl, hz, ?_⟩
    refine da_nil ?_
    exact ⟨p, z, hp, rfl, _, rfl, mod_bnd hp z⟩
  · obtain ⟨r, rfl, hb⟩ := ints_of hq
    rw [List.length_map, rgD_length] at hl
    refine de_df ?_
    refine df_lst ?_
    refine da_cons ?_
    refine de_int ?_
    refine da_nil ?_
    refine ⟨by simp, ?_⟩
    refine opd_cat (by simp; omega) ?_
    have e : r.map D.int ++ [D.int 1] = (r ++ [1]).map D.int := by rw [List.map_append]; rfl
    rw [e]
    exact k _ (by simp; omega) (bnds_snoc hb (by constructor <;> decide))
abbrev s_lprod : Stmt := topS 72
abbrev N_lprod : List Str := ["_law_p", "_law_f", "_law_g", "_law_found", "_law_k", "_law_i", "_law_j"]
theorem sc_lprod : FnScope N_lprod ["_law_p", "_law_f", "_law_g"] (defScope s_lprod) := ⟨rfl, rfl, rfl, by decide +kernel, rfl, by decide +kernel, by decide +kernel⟩
def pr_lprod (ds : List D) (P : D → Prop) : Prop := ∃ (p : Nat) (f g : List Int), okp p ∧ 0 < f.length ∧ 0 < g.length ∧ f.length ≤ 50 ∧ g.length ≤ 50 ∧ bnds f ∧ bnds g ∧ ds = [.int (p : Nat), iL f, iL g] ∧ ∀ r : List Int, r.length = f.length + g.length - 1 → bnds r → P (iL r)
theorem ar_lprod (ds : List D) (P : D → Prop) (h : pr_lprod ds P) : ds.length = 3 := by obtain ⟨_, _, _, _, _, _, _, _, _, _, rfl, _⟩ := h; rfl
theorem bnds_set {r : List Int} {z : Int} {i : Nat} (h : bnds r) (hz : bnd z) : bnds (r.set i z) := fun w hw => by
  rcases List.mem_or_eq_of_mem_set hw with hw | rfl
  · exact h w hw
  · exact hz
theorem bnd0 : bnd 0 := by constructor <;> decide
theorem ok_lprod {M : Md} (T : Tx M) (h : DefAt M "_law_product" "_law_product" "_law_product" s_lprod) (f1 : Fn M "_law_rest" 2 1 [] pr_lrest) : Fn M "_law_product" 3 2 [] pr_lprod := by
  refine fn_intro h sc_lprod rfl (fun _ _ _ _ _ _ us hl => match us, hl with | [_, _, _], _ => rfl) ar_lprod fun ds P hp _ => ?_
  obtain ⟨p, f, g, hp, hf0, hg0, hf, hg, bf, bg, rfl, k⟩ := hp
  have ef : ((f.map D.int).length : Nat) = f.length := List.length_map ..
  have eg : ((g.map D.int).length : Nat) = g.length := List.length_map ..
  refine dss_cons ?_
  refine ds_setLcG 3 (.nm 4) [("_law_k", 4)] rfl rfl (by intro env h; cases env; cases h; rfl) (by kernel_rfl) rfl (dg_nm rfl rfl) ?_
  refine di_rng1 rfl T.g_range ?_
  refine de_op ?_
  refine de_op ?_
  refine de_callB rfl T.g_len PySem.boot_len (da_cons ?_)
  refine de_var 1 rfl rfl rfl ?_
  refine da_nil (cd_len rfl ?_)
  refine de_callB rfl T.g_len PySem.boot_len (da_cons ?_)
  refine de_var 2 rfl rfl rfl ?_
  refine da_nil (cd_len rfl ?_)
  refine opd_add ?_
  refine de_int ?_
  refine opd_sub ?_
  rw [ef, eg]
  refine ⟨_, rfl, by omega, by omega, ?_⟩
  refine lcI_all (fun d => d = .int 0) (by rw [rgD_length]; omega) (fun i d hi => ?_) fun ds hl hq => ?_
  · refine de_int ?_
    rfl
  rw [rgD_length] at hl
  obtain ⟨r0, rfl, hb0⟩ := ints_of (ds := ds) fun d hd => ⟨0, hq d hd, bnd0⟩
  rw [List.length_map] at hl
  refine dss_cons ?_
  refine ds_for (.nm 5) (dg_nm rfl rfl) ?_
  refine di_rng1 rfl T.g_range ?_
  refine de_callB rfl T.g_len PySem.boot_len (da_cons ?_)
  refine de_var 1 rfl rfl rfl ?_
  refine da_nil (cd_len rfl ?_)
  rw [ef]
  refine ⟨_, rfl, by omega, by omega, ?_⟩
  refine ⟨fun i Γ => ∃ (r : List Int) (e5 e6 : Option Ent), Γ = [some (.dat (.int (p : Nat))), some (.dat (iL f)), some (.dat (iL g)), some (.grw (r.map D.int)), none, e5, e6] ∧ r.length = f.length + g.length - 1 ∧ bnds r, ⟨r0, none, none, rfl, by omega, hb0⟩, ?_, ?_⟩
  · rintro i x Γ hi ⟨r, e5, e6, rfl, hrl, hrb⟩
    obtain ⟨hlt, rfl⟩ := rgD_get hi
    have hi' : i < f.length := by omega
    rw [show (0 : Int) + (i : Int) = (i : Int) by omega]
    refine dss_one ?_
    refine ds_for (.nm 6) (dg_nm rfl rfl) ?_
    refine di_rng1 rfl T.g_range ?_
    refine de_callB rfl T.g_len PySem.boot_len (da_cons ?_)
    refine de_var 2 rfl rfl rfl ?_
    refine da_nil (cd_len rfl ?_)
    rw [eg]
    refine ⟨_, rfl, by omega, by omega, ?_⟩
    refine ⟨fun j Γ => ∃ (r : List Int) (e6 : Option Ent), Γ = [some (.dat (.int (p : Nat))), some (.dat (iL f)), some (.dat (iL g)), some (.grw (r.map D.int)), none, some (.dat (.int (i : Nat))), e6] ∧ r.length = f.length + g.length - 1 ∧ bnds r, ⟨r, e6, rfl, hrl, hrb⟩, ?_, ?_⟩
    · rintro j y Γ hj ⟨r, e6, rfl, hrl, hrb⟩
      obtain ⟨hlt2, rfl⟩ := rgD_get hj
      have hj' : j < g.length := by omega
      rw [show (0 : Int) + (j : Int) = (j : Int) by omega]
      have hix : i + j < r.length := by omega
      have hc : (i : Int) + (j : Int) = ((i + j : Nat) : Int) := by omega
      refine dss_one ?_
      refine ds_ixG 3 rfl rfl rfl ?_
      refine de_call f1 rfl (Nat.le_of_ble_eq_true rfl) ?_
      refine da_cons ?_
      refine de_var 0 rfl rfl rfl ?_
      refine da_cons ?_
      refine de_op ?_
      refine de_ixG 3 (fun _ _ => rfl) rfl rfl rfl ?_
      refine de_op ?_
      refine de_var 5 rfl rfl rfl ?_
      refine de_var 6 rfl rfl rfl ?_
      refine opd_add ?_
      rw [hc]
      refine ⟨_, _, rfl, atI_nat (map_at (List.getElem?_eq_getElem hix)), ?_⟩
      refine de_op ?_
      refine de_ix (fun _ _ => rfl) ?_
      refine de_var 1 rfl rfl rfl ?_
      refine ⟨_, rfl, ?_⟩
      refine de_var 5 rfl rfl rfl ?_
      refine ⟨(i : Nat), _, rfl, atI_nat (map_at (List.getElem?_eq_getElem hi')), ?_⟩
      refine de_ix (fun _ _ => rfl) ?_
      refine de_var 2 rfl rfl rfl ?_
      refine ⟨_, rfl, ?_⟩
      refine de_var 6 rfl rfl rfl ?_
      refine ⟨(j : Nat), _, rfl, atI_nat (map_at (List.getElem?_eq_getElem hj')), ?_⟩
      refine opd_mul (CMulB (bf _ (List.getElem_mem hi')) _) ?_
      refine opd_add ?_
      refine da_nil ?_
      refine ⟨p, _, hp, rfl, ?_⟩
      refine de_op ?_
      refine de_var 5 rfl rfl rfl ?_
      refine de_var 6 rfl rfl rfl ?_
      refine opd_add ?_
      rw [hc]
      refine ⟨_, i + j, rfl, ixN_nat (by rw [List.length_map]; exact hix), r.set (i + j) ((r[i + j] + f[i] * g[j]) % (p : Int)), some (.dat (.int (j : Nat))), ?_, by rw [List.length_set]; exact hrl, bnds_set hrb (mod_bnd hp _)⟩
      rw [List.map_set]
      rfl
    · rintro Γ ⟨r, e6, rfl, hrl, hrb⟩
      exact ⟨r, _, _, rfl, hrl, hrb⟩
  · rintro Γ ⟨r, e5, e6, rfl, hrl, hrb⟩
    refine ds_freeze 3 rfl ?_
    refine dss_one ?_
    refine ds_ret ?_
    refine de_var 3 rfl rfl rfl ?_
    exact k r hrl hrb

/-! ### _law_companion, _law_blocks -/
abbrev s_lcomp : Stmt := topS 73
abbrev N_lcomp : List Str := ["_law_p", "_law_f", "_law_d", "_law_rows", "_law_i", "_law_j", "_law_c"]
theorem sc_lcomp : FnScope N_lcomp ["_law_p", "_law_f"] (defScope s_lcomp) := ⟨rfl, rfl, rfl, by decide +kernel, rfl, by decide +kernel, by decide +kernel⟩
def pr_lcomp (ds : List D) (P : D → Prop) : Prop := ∃ (p n : Nat) (f : List Int), okp p ∧ 0 < n ∧ n ≤ 50 ∧ f.length = n + 1 ∧ bnds f ∧ ds = [.int (p : Nat), iL f] ∧ ∀ rs, mOk n n rs → P (mL rs)
theorem ar_lcomp (ds : List D) (P : D → Prop) (h : pr_lcomp ds P) : ds.length = 2 := by obtain ⟨_, _, _, _, _, _, _, _, rfl, _⟩ := h; rfl
theorem ok_lcomp {M : Md} (T : Tx M) (h : DefAt M "_law_companion" "_law_companion" "_law_companion" s_lcomp) (f1 : Fn M "_law_rest" 2 1 [] pr_lrest) : Fn M "_law_companion" 2 2 [] pr_lcomp := by
  refine fn_intro h sc_lcomp rfl (fun _ _ _ _ _ _ us hl => match us, hl with | [_, _], _ => rfl) ar_lcomp fun ds P hp _ => ?_
  obtain ⟨p, n, f, hp, hn0, hn, hf, bf, rfl, k⟩ := hp
  refine dss_cons ?_
  refine ds_set 2 rfl rfl ?_
  refine de_op ?_
  refine de_callB rfl T.g_len PySem.boot_len (da_cons ?_)
  refine de_var 1 rfl rfl rfl ?_
  refine da_nil (cd_len rfl ?_)
  refine de_int ?_
  refine opd_sub ?_
  rw [List.length_map, hf, show (((n + 1 : Nat) : Int) - 1) = (n : Int) by omega]
  refine dss_cons ?_
  refine ds_setLcG 3 (.nm 4) [("_law_i", 4)] rfl rfl (by intro env h; cases env; cases h; rfl) (by kernel_rfl) rfl (dg_nm rfl rfl) ?_
  refine di_rng1 rfl T.g_range ?_
  refine de_op ?_
  refine de_var 2 rfl rfl rfl ?_
  refine de_int ?_
  refine opd_sub ?_
  refine ⟨_, rfl, by omega, by omega, ?_⟩
  refine lcI_all (qRow n) (by rw [rgD_length]; omega) (fun i d hi => ?_) fun ds hl hq => ?_
  · obtain ⟨_, rfl⟩ := rgD_get hi
    refine de_df ?_
    refine df_lc (.nm 5) [("_law_j", 5)] (by kernel_rfl) rfl (dg_nm rfl rfl) ?_
    refine di_rng1 rfl T.g_range ?_
    refine de_var 2 rfl rfl rfl ?_
    refine ⟨(n : Nat), rfl, by omega, by omega, ?_⟩
    refine lcI_all qInt (by rw [rgD_length]; omega) (fun j d hj => ?_) fun ds hl hq => ?_
    · obtain ⟨_, rfl⟩ := rgD_get hj
      refine de_callTy (T := "int") rfl T.g_int (by decide +kernel) ?_
      refine da_cons ?_
      refine de_cmp (nomark _) ?_
      refine de_var 5 rfl rfl rfl ?_
      refine de_op ?_
      refine de_var 4 rfl rfl rfl ?_
      refine de_int ?_
      refine opd_add ?_
      refine opd_eqI ?_
      refine da_nil ?_
      refine cd_intB ⟨_, rfl, ?_⟩
      split <;> constructor <;> decide
    · obtain ⟨r, rfl, hb⟩ := ints_of hq
      exact ⟨r, rfl, by rw [List.length_map, rgD_length] at hl; omega, hb⟩
  obtain ⟨rs, rfl, hb⟩ := rows_of hq
  rw [List.length_map, rgD_length] at hl
  refine dss_cons ?_
  refine ds_if ?_
  refine dt_cmp (nomark _) ?_
  refine de_var 2 rfl rfl rfl ?_
  refine de_int ?_
  refine opd_gt ?_
  refine ⟨_, rfl, fun _ => ?_, no_false (by simp; omega)⟩
  · refine dss_one ?_
    refine ds_app 3 rfl rfl rfl (by rw [List.length_map]; omega) ?_
    refine de_df ?_
    refine df_lc (.nm 6) [("_law_c", 6)] (by kernel_rfl) rfl (dg_nm rfl rfl) ?_
    refine di_lst ?_
    refine de_df ?_
    refine df_slice ?_
    refine de_var 1 rfl rfl rfl ?_
    refine ⟨_, rfl, ?_⟩
    refine do_none ?_
    refine do_some ?_
    refine de_var 2 rfl rfl rfl ?_
    refine ⟨(n : Nat), rfl, ?_⟩
    rw [cut_to, ← List.map_take]
    refine ⟨_, rfl, ?_⟩
    refine lcI_all qInt (by simp; omega) (fun j d hj => ?_) fun ds hl2 hq => ?_
    · obtain ⟨z, hz, rfl⟩ := map_get hj
      refine de_call f1 rfl (Nat.le_of_ble_eq_true rfl) ?_
      refine da_cons ?_
      refine de_var 0 rfl rfl rfl ?_
      refine da_cons ?_
      refine de_un ?_
      refine de_var 6 rfl rfl rfl ?_
      refine und_negI ?_
      refine da_nil ?_
      exact ⟨p, _, hp, rfl, _, rfl, mod_bnd hp _⟩
    obtain ⟨r, rfl, hbr⟩ := ints_of hq
    have hrl : r.length = n := by simp at hl2; omega
    refine ds_freeze 3 rfl ?_
    refine dss_one ?_
    refine ds_ret ?_
    refine de_var 3 rfl rfl rfl ?_
    have e : rs.map iL ++ [iL r] = (rs ++ [r]).map iL := by rw [List.map_append]; rfl
    rw [e]
    refine k _ ⟨by simp; omega, fun q hq => ?_⟩
    rcases List.mem_append.mp hq with hq | hq
    · exact hb q hq
    · rw [List.mem_singleton.mp hq]; exact ⟨hrl, hbr⟩
abbrev s_lblocks : Stmt := topS 74
abbrev N_lblocks : List Str := ["_law_parts", "_law_size", "_law_rows", "_law_part", "_law_start", "_law_row", "_law_k"]
theorem sc_lblocks : FnScope N_lblocks ["_law_parts"] (defScope s_lblocks) := ⟨rfl, rfl, rfl, by decide +kernel, rfl, by decide +kernel, by decide +kernel⟩
def pr_lblocks (ds : List D) (P : D → Prop) : Prop := ∃ (pss : List (List (List Int))), pss.length ≤ 50 ∧ (pss.map List.length).sum ≤ 50 ∧ (∀ rs ∈ pss, mOk rs.length rs.length rs) ∧ ds = [.lst (pss.map mL)] ∧ ∀ rs, mOk (pss.map List.length).sum (pss.map List.length).sum rs → P (mL rs)
theorem ar_lblocks (ds : List D) (P : D → Prop) (h : pr_lblocks ds P) : ds.length = 1 := by obtain ⟨_, _, _, _, rfl, _⟩ := h; rfl
theorem sum_cast : ∀ ns : List Nat, (ns.map fun n => ((n : Nat) : Int)).sum = ((ns.sum : Nat) : Int)
  | [] => rfl
  | n :: ns => by rw [List.map_cons, List.sum_cons, List.sum_cons, sum_cast ns, Int.natCast_add]
theorem sum_take {ns : List Nat} {i : Nat} (h : i < ns.length) : (ns.take (i + 1)).sum = (ns.take i).sum + ns[i] := by rw [take_snoc h, List.sum_append]; simp
theorem sum_take_le : ∀ (ns : List Nat) (i : Nat), (ns.take i).sum ≤ ns.sum
  | [], i => by simp
  | n :: ns, 0 => by simp
  | n :: ns, i + 1 => by rw [List.take_succ_cons, List.sum_cons, List.sum_cons]; have := sum_take_le ns i; omega
theorem bnds_append {r s : List Int} (h : bnds r) (h2 : bnds s) : bnds (r ++ s) := fun z hz => (List.mem_append.mp hz).elim (h z) (h2 z)
theorem ok_lblocks {M : Md} (T : Tx M) (h : DefAt M "_law_blocks" "_law_blocks" "_law_blocks" s_lblocks) : Fn M "_law_blocks" 1 1 [] pr_lblocks := by
  refine fn_intro h sc_lblocks rfl (fun _ _ _ _ _ _ us hl => match us, hl with | [_], _ => rfl) ar_lblocks fun ds P hp _ => ?_
  obtain ⟨pss, hn, hS, hp, rfl, k⟩ := hp
  generalize hSd : (pss.map List.length).sum = S at hS k
  refine dss_cons ?_
  refine ds_set 1 rfl rfl ?_
  refine de_callB (id := "sum") rfl T.g_sum (by decide +kernel) ?_
  refine da_cons ?_
  refine de_df ?_
  refine df_lc (.nm 3) [("_law_part", 3)] (by kernel_rfl) rfl (dg_nm rfl rfl) ?_
  refine di_lst ?_
  refine de_var 0 rfl rfl rfl ?_
  refine ⟨_, rfl, ?_⟩
  refine lcI_map ((pss.map List.length).map fun n => D.int (n : Nat)) (by simp) (by simp; omega) (fun j y z hy hz => ?_) ?_
  · obtain ⟨rs, hrs, rfl⟩ := map_get hy
    rw [map_at (map_at hrs)] at hz
    cases hz
    refine de_callB rfl T.g_len PySem.boot_len (da_cons ?_)
    refine de_var 3 rfl rfl rfl ?_
    refine da_nil (cd_len rfl ?_)
    rw [List.length_map]
  refine da_nil ?_
  have e : (pss.map List.length).map (fun n => D.int (n : Nat)) = ((pss.map List.length).map fun n => ((n : Nat) : Int)).map D.int := by simp only [List.map_map, Function.comp_def]
  rw [e]
  refine cd_sum ?_
  rw [sum_cast, hSd]
  refine dss_cons ?_
  refine ds_setG 2 rfl rfl ?_
  refine df_lst ?_
  refine da_nil ?_
  refine ⟨by simp, ?_⟩
  refine dss_cons ?_
  refine ds_for (.nm 3) (dg_nm rfl rfl) ?_
  refine di_lst ?_
  refine de_var 0 rfl rfl rfl ?_
  refine ⟨_, rfl, ?_⟩
  refine ⟨fun i Γ => ∃ (rs : List (List Int)) (e3 e4 e5 : Option Ent), Γ = [some (.dat (.lst (pss.map mL))), some (.dat (.int (S : Nat))), some (.grw (rs.map iL)), e3, e4, e5, none] ∧ rs.length = ((pss.map List.length).take i).sum ∧ ∀ r ∈ rs, r.length = S ∧ bnds r, ⟨[], none, none, none, rfl, by simp, fun _ h => nomatch h⟩, ?_, ?_⟩
  · rintro i x Γ hi ⟨rs, e3, e4, e5, rfl, hrl, hr⟩
    obtain ⟨ps, hps, rfl⟩ := map_get hi
    have hlt : i < pss.length := (List.getElem?_eq_some_iff.mp hps).1
    have hpo := hp ps (List.mem_of_getElem? hps)
    have hsum : ((pss.map List.length).take (i + 1)).sum = ((pss.map List.length).take i).sum + ps.length := by
      rw [sum_take (by simpa using hlt)]
      congr 1
      have := map_at (f := List.length) hps
      rw [List.getElem?_eq_getElem (by simpa using hlt)] at this
      exact Option.some.inj this
    have hle := sum_take_le (pss.map List.length) (i + 1)
    rw [hSd] at hle
    generalize hst : ((pss.map List.length).take i).sum = st at hrl hsum
    refine dss_cons ?_
    refine ds_set 4 rfl rfl ?_
    refine de_lenG 2 rfl T.g_len rfl rfl rfl ?_
    rw [List.length_map, hrl]
    refine dss_one ?_
    refine ds_for (.nm 5) (dg_nm rfl rfl) ?_
    refine di_lst ?_
    refine de_var 3 rfl rfl rfl ?_
    refine ⟨_, rfl, ?_⟩
    refine ⟨fun t Γ => ∃ (rs : List (List Int)) (e5 : Option Ent), Γ = [some (.dat (.lst (pss.map mL))), some (.dat (.int (S : Nat))), some (.grw (rs.map iL)), some (.dat (mL ps)), some (.dat (.int (st : Nat))), e5, none] ∧ rs.length = st + t ∧ t ≤ ps.length ∧ ∀ r ∈ rs, r.length = S ∧ bnds r, ⟨rs, e5, rfl, by omega, by omega, hr⟩, ?_, ?_⟩
    · rintro t y Γ ht ⟨rs, e5, rfl, hrl, htl, hr⟩
      obtain ⟨row, hrow, rfl⟩ := map_get ht
      have hlt2 : t < ps.length := (List.getElem?_eq_some_iff.mp hrow).1
      have hro := hpo.2 row (List.mem_of_getElem? hrow)
      refine dss_one ?_
      refine ds_app 2 rfl rfl rfl (by rw [List.length_map]; omega) ?_
      refine de_op ?_
      refine de_op ?_
      refine de_df ?_
      refine df_lc (.nm 6) [("_law_k", 6)] (by kernel_rfl) rfl (dg_nm rfl rfl) ?_
      refine di_rng1 rfl T.g_range ?_
      refine de_var 4 rfl rfl rfl ?_
      refine ⟨(st : Nat), rfl, by omega, by omega, ?_⟩
      refine lcI_all (fun d => d = .int 0) (by rw [rgD_length]; omega) (fun i d hi => ?_) fun ds hl hq => ?_
      · refine de_int ?_
        rfl
      obtain ⟨z1, rfl, hb1⟩ := ints_of (ds := ds) fun d hd => ⟨0, hq d hd, bnd0⟩
      rw [List.length_map, rgD_length, Int.toNat_natCast] at hl
      refine de_var 5 rfl rfl rfl ?_
      refine opd_cat (by simp; omega) ?_
      refine de_df ?_
      refine df_lc (.nm 6) [("_law_k", 6)] (by kernel_rfl) rfl (dg_nm rfl rfl) ?_
      refine di_rng1 rfl T.g_range ?_
      refine de_op ?_
      refine de_op ?_
      refine de_var 1 rfl rfl rfl ?_
      refine de_var 4 rfl rfl rfl ?_
      refine opd_sub ?_
      refine de_callB rfl T.g_len PySem.boot_len (da_cons ?_)
      refine de_var 3 rfl rfl rfl ?_
      refine da_nil (cd_len rfl ?_)
      refine opd_sub ?_
      rw [List.length_map]
      refine ⟨_, rfl, by omega, by omega, ?_⟩
      refine lcI_all (fun d => d = .int 0) (by rw [rgD_length]; omega) (fun i d hi => ?_) fun ds hl2 hq => ?_
      · refine de_int ?_
        rfl
      obtain ⟨z2, rfl, hb2⟩ := ints_of (ds := ds) fun d hd => ⟨0, hq d hd, bnd0⟩
      rw [List.length_map, rgD_length] at hl2
      refine opd_cat (by simp; omega) ?_
      refine ⟨rs ++ [z1 ++ row ++ z2], some (.dat (iL row)), ?_, by simp; omega, by omega, fun q hq => ?_⟩
      · rw [List.map_append]
        simp only [List.map_append, List.map_cons, List.map_nil, iL]
        rfl
      · rcases List.mem_append.mp hq with hq | hq
        · exact hr q hq
        · rw [List.mem_singleton.mp hq]
          exact ⟨by simp; omega, bnds_append (bnds_append hb1 hro.2) hb2⟩
    · rintro Γ ⟨rs, e5, rfl, hrl, htl, hr⟩
      rw [List.length_map] at hrl
      exact ⟨rs, _, _, _, rfl, by rw [hsum]; exact hrl, hr⟩
  · rintro Γ ⟨rs, e3, e4, e5, rfl, hrl, hr⟩
    refine ds_freeze 2 rfl ?_
    refine dss_one ?_
    refine ds_ret ?_
    refine de_var 2 rfl rfl rfl ?_
    refine k rs ⟨?_, hr⟩
    rw [hrl, List.length_map, List.take_of_length_le (by simp), hSd]
end SF

-- part L3
set_option maxHeartbeats 4000000
/-! # The law's own defs: the drawn square; all rows; the matrices that are tried. -/
namespace SF
open PySem PySem.Spec PyProof.Rows L2 DK

abbrev s_lconj : Stmt := topS 75
abbrev N_lconj : List Str := ["_law_numbers_here", "_law_p", "_law_rows", "_law_n", "_law_one", "_law_two"]
theorem sc_lconj : FnScope N_lconj ["_law_numbers_here", "_law_p", "_law_rows"] (defScope s_lconj) := ⟨rfl, rfl, rfl, by decide +kernel, rfl, by decide +kernel, by decide +kernel⟩
def pr_lconj (ds : List D) (P : D → Prop) : Prop := ∃ (p n : Nat) (rs : List (List Int)), okp p ∧ n ≤ 50 ∧ mOk n n rs ∧ ds = [.inv .nums, .int (p : Nat), mL rs] ∧ ∀ rs, mOk n n rs → P (mL rs)
theorem ar_lconj (ds : List D) (P : D → Prop) (h : pr_lconj ds P) : ds.length = 3 := by obtain ⟨_, _, _, _, _, _, rfl, _⟩ := h; rfl
theorem ok_lconj {M : Md} (T : Tx M) (h : DefAt M "_law_conjugated" "_law_conjugated" "_law_conjugated" s_lconj) (f1 : Fn M "_law_pair" 3 2 [] pr_lpair) (f2 : Fn M "_law_times" 4 2 [] pr_ltimes) : Fn M "_law_conjugated" 3 3 [] pr_lconj := by
  refine fn_intro h sc_lconj rfl (fun _ _ _ _ _ _ us hl => match us, hl with | [_, _, _], _ => rfl) ar_lconj fun ds P hp _ => ?_
  obtain ⟨p, n, rs, hp, hn, hrs, rfl, k⟩ := hp
  refine dss_cons ?_
  refine ds_set 3 rfl rfl ?_
  refine de_callB rfl T.g_len PySem.boot_len (da_cons ?_)
  refine de_var 2 rfl rfl rfl ?_
  refine da_nil (cd_len rfl ?_)
  rw [List.length_map, hrs.1]
  refine dss_cons ?_
  refine ds_if ?_
  refine dt_cmp (nomark _) ?_
  refine de_var 3 rfl rfl rfl ?_
  refine de_int ?_
  refine opd_eqI ?_
  refine ⟨_, rfl, fun _ => ?_, fun h0 => ?_⟩
  · refine dss_one ?_
    refine ds_ret ?_
    refine de_var 2 rfl rfl rfl ?_
    exact k rs hrs
  · have hn0 : 0 < n := by have h0' : ¬ (n : Int) = 0 := by simpa using h0
                           omega
    refine dss_nil ?_
    refine dss_cons ?_
    refine ds_unp (.pr 4 5) (dg_pr rfl rfl rfl rfl) ?_
    refine de_call f1 rfl (Nat.le_of_ble_eq_true rfl) ?_
    refine da_cons ?_
    refine de_var 0 rfl rfl rfl ?_
    refine da_cons ?_
    refine de_var 1 rfl rfl rfl ?_
    refine da_cons ?_
    refine de_var 3 rfl rfl rfl ?_
    refine da_nil ?_
    refine ⟨p, n, hp, hn0, by omega, rfl, _, _, rfl, ?_⟩
    refine dss_one ?_
    refine ds_ret ?_
    refine de_call f2 rfl (Nat.le_of_ble_eq_true rfl) ?_
    refine da_cons ?_
    refine de_var 1 rfl rfl rfl ?_
    refine da_cons ?_
    refine de_call f2 rfl (Nat.le_of_ble_eq_true rfl) ?_
    refine da_cons ?_
    refine de_var 1 rfl rfl rfl ?_
    refine da_cons ?_
    refine de_var 4 rfl rfl rfl ?_
    refine da_cons ?_
    refine de_var 2 rfl rfl rfl ?_
    refine da_cons ?_
    refine de_var 3 rfl rfl rfl ?_
    refine da_nil ?_
    refine ⟨p, n, _, _, hp, by omega, .inl rfl, .inr ⟨rs, rfl, hrs⟩, rfl, fun r1 h1 => ?_⟩
    refine da_cons ?_
    refine de_var 5 rfl rfl rfl ?_
    refine da_cons ?_
    refine de_var 3 rfl rfl rfl ?_
    refine da_nil ?_
    exact ⟨p, n, _, _, hp, by omega, .inr ⟨r1, rfl, h1⟩, .inl rfl, rfl, k⟩
def degs (fs : List (List Int)) : Nat := (fs.map fun f => f.length - 1).sum
abbrev s_lchain : Stmt := topS 76
abbrev N_lchain : List Str := ["_law_numbers_here", "_law_p", "_law_parts", "_law_f", "_law_size", "_law_turn"]
theorem sc_lchain : FnScope N_lchain ["_law_numbers_here", "_law_p"] (defScope s_lchain) := ⟨rfl, rfl, rfl, by decide +kernel, rfl, by decide +kernel, by decide +kernel⟩
def pr_lchain (ds : List D) (P : D → Prop) : Prop := ∃ (p : Nat), okp p ∧ ds = [.inv .nums, .int (p : Nat)] ∧ ∀ fs : List (List Int), (∀ f ∈ fs, 2 ≤ f.length ∧ bnds f) → degs fs ≤ 4 → fs.length ≤ 3 → P (.lst (fs.map iL))
theorem ar_lchain (ds : List D) (P : D → Prop) (h : pr_lchain ds P) : ds.length = 2 := by obtain ⟨_, _, rfl, _⟩ := h; rfl
theorem ok_lchain {M : Md} (T : Tx M) (h : DefAt M "_law_chain" "_law_chain" "_law_chain" s_lchain) (f1 : Fn M "_law_next" 2 1 [] pr_lnext) (f2 : Fn M "_law_poly" 3 2 [] pr_lpoly) (f3 : Fn M "_law_product" 3 2 [] pr_lprod) : Fn M "_law_chain" 2 3 [] pr_lchain := by
  refine fn_intro h sc_lchain rfl (fun _ _ _ _ _ _ us hl => match us, hl with | [_, _], _ => rfl) ar_lchain fun ds P hp _ => ?_
  obtain ⟨p, hp, rfl, k⟩ := hp
  refine dss_cons ?_
  refine ds_set 2 rfl rfl ?_
  refine de_df ?_
  refine df_lst ?_
  refine da_nil ?_
  refine ⟨by simp, ?_⟩
  refine dss_cons ?_
  refine ds_set 3 rfl rfl ?_
  refine de_call f2 rfl (Nat.le_of_ble_eq_true rfl) ?_
  refine da_cons ?_
  refine de_var 0 rfl rfl rfl ?_
  refine da_cons ?_
  refine de_var 1 rfl rfl rfl ?_
  refine da_cons ?_
  refine de_op ?_
  refine de_int ?_
  refine de_call f1 rfl (Nat.le_of_ble_eq_true rfl) ?_
  refine da_cons ?_
  refine de_var 0 rfl rfl rfl ?_
  refine da_cons ?_
  refine de_int ?_
  refine da_nil ?_
  refine ⟨2, rfl, by decide, fun r h1 h2 => ?_⟩
  obtain ⟨nr, rfl⟩ := Int.eq_ofNat_of_zero_le h1
  refine opd_add ?_
  refine da_nil ?_
  refine ⟨p, 1 + nr, hp, by omega, by rw [Int.natCast_add]; rfl, fun f0 hf0 bf0 => ?_⟩
  refine dss_cons ?_
  refine ds_set 4 rfl rfl ?_
  refine de_int ?_
  refine dss_cons ?_
  refine ds_for (.nm 5) (dg_nm rfl rfl) ?_
  refine di_rng1 rfl T.g_range ?_
  refine de_op ?_
  refine de_int ?_
  refine de_call f1 rfl (Nat.le_of_ble_eq_true rfl) ?_
  refine da_cons ?_
  refine de_var 0 rfl rfl rfl ?_
  refine da_cons ?_
  refine de_int ?_
  refine da_nil ?_
  refine ⟨3, rfl, by decide, fun r3 h3 h4 => ?_⟩
  refine opd_add ?_
  refine ⟨_, rfl, by omega, by omega, ?_⟩
  refine ⟨fun i Γ => ∃ (fs : List (List Int)) (f : List Int) (e5 : Option Ent), Γ = [some (.dat (.inv .nums)), some (.dat (.int (p : Nat))), some (.dat (.lst (fs.map iL))), some (.dat (iL f)), some (.dat (.int (degs fs : Nat))), e5] ∧
    2 ≤ f.length ∧ f.length ≤ 3 + i ∧ bnds f ∧ (∀ f ∈ fs, 2 ≤ f.length ∧ bnds f) ∧ degs fs ≤ 4 ∧ fs.length ≤ i ∧ i ≤ 3, ⟨[], f0, none, rfl, by omega, by omega, bf0, (fun _ h => nomatch h), by simp [degs], by simp, by omega⟩, ?_, ?_⟩
  · rintro i x Γ hi ⟨fs, f, e5, rfl, hf2, hf3, hfb, hfs, hdg, hfl, hi3⟩
    have hi4 : i < 3 := by
      have := (List.getElem?_eq_some_iff.mp hi).1
      rw [rgD_length] at this
      omega
    refine dss_cons ?_
    refine ds_if ?_
    refine dt_cmp (nomark _) ?_
    refine de_op ?_
    refine de_op ?_
    refine de_var 4 rfl rfl rfl ?_
    refine de_callB rfl T.g_len PySem.boot_len (da_cons ?_)
    refine de_var 3 rfl rfl rfl ?_
    refine da_nil (cd_len rfl ?_)
    refine opd_add ?_
    refine de_int ?_
    refine opd_sub ?_
    refine de_int ?_
    refine opd_le ?_
    rw [List.length_map]
    refine ⟨_, rfl, fun hd => ?_, fun hd => ?_⟩
    · have hd' : degs fs + (f.length - 1) ≤ 4 := by have : (degs fs : Int) + (f.length : Int) - 1 ≤ 4 := by simpa using hd
                                                    omega
      refine dss_cons ?_
      refine ds_set 2 rfl rfl ?_
      refine de_op ?_
      refine de_df ?_
      refine df_lst ?_
      refine da_cons ?_
      refine de_df ?_
      refine df_list rfl T.g_list (by decide +kernel) ?_
      refine de_var 3 rfl rfl rfl ?_
      refine ⟨_, rfl, ?_⟩
      refine da_nil ?_
      refine ⟨by simp, ?_⟩
      refine de_var 2 rfl rfl rfl ?_
      refine opd_cat (by simp; omega) ?_
      refine dss_one ?_
      refine ds_set 4 rfl rfl ?_
      refine de_op ?_
      refine de_op ?_
      refine de_var 4 rfl rfl rfl ?_
      refine de_callB rfl T.g_len PySem.boot_len (da_cons ?_)
      refine de_var 3 rfl rfl rfl ?_
      refine da_nil (cd_len rfl ?_)
      refine opd_add ?_
      refine de_int ?_
      refine opd_sub ?_
      rw [List.length_map]
      have e : (degs fs : Int) + (f.length : Int) - 1 = ((degs (f :: fs) : Nat) : Int) := by simp [degs]; omega
      rw [e]
      have hdg' : degs (f :: fs) ≤ 4 := by simp [degs] at hd' ⊢; omega
      have hfs' : ∀ g ∈ f :: fs, 2 ≤ g.length ∧ bnds g := fun g hg => by
        rcases List.mem_cons.mp hg with rfl | hg
        · exact ⟨hf2, hfb⟩
        · exact hfs g hg
      have hfl' : (f :: fs).length ≤ i + 1 := by simp; omega
      refine dss_one ?_
      refine ds_if ?_
      refine dt_cmp (nomark _) ?_
      refine de_call f1 rfl (Nat.le_of_ble_eq_true rfl) ?_
      refine da_cons ?_
      refine de_var 0 rfl rfl rfl ?_
      refine da_cons ?_
      refine de_int ?_
      refine da_nil ?_
      refine ⟨2, rfl, by decide, fun r h1 h2 => ?_⟩
      refine de_int ?_
      refine opd_eqI ?_
      refine ⟨_, rfl, fun _ => ?_, fun _ => ?_⟩
      · refine dss_one ?_
        refine ds_set 3 rfl rfl ?_
        refine de_call f3 rfl (Nat.le_of_ble_eq_true rfl) ?_
        refine da_cons ?_
        refine de_var 1 rfl rfl rfl ?_
        refine da_cons ?_
        refine de_var 3 rfl rfl rfl ?_
        refine da_cons ?_
        refine de_call f2 rfl (Nat.le_of_ble_eq_true rfl) ?_
        refine da_cons ?_
        refine de_var 0 rfl rfl rfl ?_
        refine da_cons ?_
        refine de_var 1 rfl rfl rfl ?_
        refine da_cons ?_
        refine de_int ?_
        refine da_nil ?_
        refine ⟨p, 1, hp, by decide, rfl, fun g hg bg => ?_⟩
        refine da_nil ?_
        refine ⟨p, f, g, hp, by omega, by omega, by omega, by omega, hfb, bg, rfl, fun q hq bq => ?_⟩
        exact ⟨f :: fs, q, _, rfl, by omega, by omega, bq, hfs', hdg', hfl', by omega⟩
      · refine dss_nil ?_
        exact ⟨f :: fs, f, _, rfl, hf2, by omega, hfb, hfs', hdg', hfl', by omega⟩
    · refine dss_nil ?_
      refine dss_one ?_
      refine ds_if ?_
      refine dt_cmp (nomark _) ?_
      refine de_call f1 rfl (Nat.le_of_ble_eq_true rfl) ?_
      refine da_cons ?_
      refine de_var 0 rfl rfl rfl ?_
      refine da_cons ?_
      refine de_int ?_
      refine da_nil ?_
      refine ⟨2, rfl, by decide, fun r h1 h2 => ?_⟩
      refine de_int ?_
      refine opd_eqI ?_
      refine ⟨_, rfl, fun _ => ?_, fun _ => ?_⟩
      · refine dss_one ?_
        refine ds_set 3 rfl rfl ?_
        refine de_call f3 rfl (Nat.le_of_ble_eq_true rfl) ?_
        refine da_cons ?_
        refine de_var 1 rfl rfl rfl ?_
        refine da_cons ?_
        refine de_var 3 rfl rfl rfl ?_
        refine da_cons ?_
        refine de_call f2 rfl (Nat.le_of_ble_eq_true rfl) ?_
        refine da_cons ?_
        refine de_var 0 rfl rfl rfl ?_
        refine da_cons ?_
        refine de_var 1 rfl rfl rfl ?_
        refine da_cons ?_
        refine de_int ?_
        refine da_nil ?_
        refine ⟨p, 1, hp, by decide, rfl, fun g hg bg => ?_⟩
        refine da_nil ?_
        refine ⟨p, f, g, hp, by omega, by omega, by omega, by omega, hfb, bg, rfl, fun q hq bq => ?_⟩
        exact ⟨fs, q, _, rfl, by omega, by omega, bq, hfs, hdg, by omega, by omega⟩
      · refine dss_nil ?_
        exact ⟨fs, f, _, rfl, hf2, by omega, hfb, hfs, hdg, by omega, by omega⟩
  · rintro Γ ⟨fs, f, e5, rfl, hf2, hf3, hfb, hfs, hdg, hfl, hi3⟩
    refine dss_one ?_
    refine ds_ret ?_
    refine de_var 2 rfl rfl rfl ?_
    exact k fs hfs hdg (by omega)
abbrev s_lsquare : Stmt := topS 77
abbrev N_lsquare : List Str := ["_law_numbers_here", "_law_p", "_law_kind", "_law_n", "_law_blocks_here", "_law_f"]
theorem sc_lsquare : FnScope N_lsquare ["_law_numbers_here", "_law_p"] (defScope s_lsquare) := ⟨rfl, rfl, rfl, by decide +kernel, rfl, by decide +kernel, by decide +kernel⟩
def pr_lsquare (ds : List D) (P : D → Prop) : Prop := ∃ (p : Nat), okp p ∧ ds = [.inv .nums, .int (p : Nat)] ∧ ∀ n rs, n ≤ 4 → mOk n n rs → P (mL rs)
theorem ar_lsquare (ds : List D) (P : D → Prop) (h : pr_lsquare ds P) : ds.length = 2 := by obtain ⟨_, _, rfl, _⟩ := h; rfl
theorem ok_lsquare {M : Md} (T : Tx M) (h : DefAt M "_law_square" "_law_square" "_law_square" s_lsquare) (f1 : Fn M "_law_next" 2 1 [] pr_lnext) (f2 : Fn M "_law_matrix" 3 2 [] pr_lmat) (f3 : Fn M "_law_blocks" 1 1 [] pr_lblocks) (f4 : Fn M "_law_companion" 2 2 [] pr_lcomp) (f5 : Fn M "_law_chain" 2 3 [] pr_lchain) (f6 : Fn M "_law_conjugated" 3 3 [] pr_lconj) : Fn M "_law_square" 2 4 [] pr_lsquare := by
  refine fn_intro h sc_lsquare rfl (fun _ _ _ _ _ _ us hl => match us, hl with | [_, _], _ => rfl) ar_lsquare fun ds P hp _ => ?_
  obtain ⟨p, hp, rfl, k⟩ := hp
  refine dss_cons ?_
  refine ds_set 2 rfl rfl ?_
  refine de_call f1 rfl (Nat.le_of_ble_eq_true rfl) ?_
  refine da_cons ?_
  refine de_var 0 rfl rfl rfl ?_
  refine da_cons ?_
  refine de_int ?_
  refine da_nil ?_
  refine ⟨3, rfl, by decide, fun r h1 h2 => ?_⟩
  refine dss_cons ?_
  refine ds_if ?_
  refine dt_cmp (nomark _) ?_
  refine de_var 2 rfl rfl rfl ?_
  refine de_int ?_
  refine opd_eqI ?_
  refine ⟨_, rfl, fun _ => ?_, fun _ => ?_⟩
  · refine dss_cons ?_
    refine ds_set 3 rfl rfl ?_
    refine de_call f1 rfl (Nat.le_of_ble_eq_true rfl) ?_
    refine da_cons ?_
    refine de_var 0 rfl rfl rfl ?_
    refine da_cons ?_
    refine de_int ?_
    refine da_nil ?_
    refine ⟨4, rfl, by decide, fun rn h3 h4 => ?_⟩
    obtain ⟨n, rfl⟩ := Int.eq_ofNat_of_zero_le h3
    refine dss_one ?_
    refine ds_ret ?_
    refine de_call f2 rfl (Nat.le_of_ble_eq_true rfl) ?_
    refine da_cons ?_
    refine de_var 0 rfl rfl rfl ?_
    refine da_cons ?_
    refine de_var 3 rfl rfl rfl ?_
    refine da_cons ?_
    refine de_var 3 rfl rfl rfl ?_
    refine da_nil ?_
    exact ⟨n, n, by omega, by omega, rfl, fun rs hrs => k n rs (by omega) hrs⟩
  · refine dss_nil ?_
    refine dss_cons ?_
    refine ds_set 4 rfl rfl ?_
    refine de_call f3 rfl (Nat.le_of_ble_eq_true rfl) ?_
    refine da_cons ?_
    refine de_df ?_
    refine df_lc (.nm 5) [("_law_f", 5)] (by kernel_rfl) rfl (dg_nm rfl rfl) ?_
    refine di_lst ?_
    refine de_call f5 rfl (Nat.le_of_ble_eq_true rfl) ?_
    refine da_cons ?_
    refine de_var 0 rfl rfl rfl ?_
    refine da_cons ?_
    refine de_var 1 rfl rfl rfl ?_
    refine da_nil ?_
    refine ⟨p, hp, rfl, fun fs hfs hdg hfl => ⟨_, rfl, ?_⟩⟩
    refine lcI_weak (fun i d => ∃ (f : List Int) (rs : List (List Int)), fs[i]? = some f ∧ d = mL rs ∧ mOk (f.length - 1) (f.length - 1) rs) (by rw [List.length_map]; omega) (fun i d hi => ?_) fun ds hl hq => ?_
    · obtain ⟨f, hf, rfl⟩ := map_get hi
      obtain ⟨h2f, hbf⟩ := hfs f (List.mem_of_getElem? hf)
      have hfle : f.length - 1 ≤ 4 := by
        have hlt : i < (fs.map fun f => f.length - 1).length := by simpa using (List.getElem?_eq_some_iff.mp hf).1
        have e1 := sum_take (ns := fs.map fun f => f.length - 1) hlt
        have e2 := sum_take_le (fs.map fun f => f.length - 1) (i + 1)
        have e3 := map_at (f := fun f : List Int => f.length - 1) hf
        rw [List.getElem?_eq_getElem hlt] at e3
        rw [Option.some.inj e3] at e1
        unfold degs at hdg
        omega
      refine de_call f4 rfl (Nat.le_of_ble_eq_true rfl) ?_
      refine da_cons ?_
      refine de_var 1 rfl rfl rfl ?_
      refine da_cons ?_
      refine de_var 5 rfl rfl rfl ?_
      refine da_nil ?_
      exact ⟨p, f.length - 1, f, hp, by omega, by omega, by omega, hbf, rfl, fun rs hrs => ⟨f, rs, hf, rfl, hrs⟩⟩
    obtain ⟨pss, rfl, hps⟩ := choose_list mL (fun i rs => ∃ f : List Int, fs[i]? = some f ∧ mOk (f.length - 1) (f.length - 1) rs) ds 0 fun i d hd => by
      obtain ⟨f, rs, hf, e, hrs⟩ := hq i d hd
      exact ⟨rs, e, f, by rw [Nat.zero_add]; exact hf, hrs⟩
    have hlen : pss.length = fs.length := by rw [List.length_map, List.length_map] at hl; exact hl
    have hmap : pss.map List.length = fs.map fun f => f.length - 1 := by
      apply List.ext_getElem? 
      intro i
      rw [List.getElem?_map, List.getElem?_map]
      cases hp1 : pss[i]? with
      | none =>
        have : fs[i]? = none := List.getElem?_eq_none (by rw [← hlen]; exact List.getElem?_eq_none_iff.mp hp1)
        rw [this]
        rfl
      | some rs =>
        obtain ⟨f, hf, hrs⟩ := hps i rs hp1
        rw [Nat.zero_add] at hf
        rw [hf]
        show some rs.length = some (f.length - 1)
        rw [hrs.1]
    refine da_nil ?_
    refine ⟨pss, by omega, by rw [hmap]; unfold degs at hdg; omega, fun rs hrs => ?_, rfl, fun rs hrs => ?_⟩
    · obtain ⟨i, hi⟩ := List.mem_iff_getElem?.mp hrs
      obtain ⟨f, _, hr⟩ := hps i rs hi
      have e := hr.1
      rw [e]
      exact hr
    · rw [hmap] at hrs
      unfold degs at hdg
      refine dss_one ?_
      refine ds_ret ?_
      refine de_call f6 rfl (Nat.le_of_ble_eq_true rfl) ?_
      refine da_cons ?_
      refine de_var 0 rfl rfl rfl ?_
      refine da_cons ?_
      refine de_var 1 rfl rfl rfl ?_
      refine da_cons ?_
      refine de_var 4 rfl rfl rfl ?_
      refine da_nil ?_
      exact ⟨p, _, rs, hp, Nat.le_trans hdg (by decide), hrs, rfl, fun rs2 h2 => k _ rs2 hdg h2⟩

/-! ### _law_lines -/
abbrev nL (r : List Nat) : D := .lst (r.map fun x => D.int (x : Nat))
abbrev nM (m : List (List Nat)) : D := .lst (m.map nL)
theorem lines_len (p : Nat) : ∀ n, (MR.lines p n).length = p ^ n
  | 0 => rfl
  | n + 1 => by
    have e : ∀ l : List (List Nat), (l.flatMap fun r => (List.range p).map fun x => r ++ [x]).length = l.length * p := fun l => by
      induction l with
      | nil => simp
      | cons a l ih => rw [List.flatMap_cons, List.length_append, ih, List.length_map, List.length_range, List.length_cons, Nat.succ_mul]; omega
    rw [MR.lines, e, lines_len p n, Nat.pow_succ]
def lext (p : Nat) (r : List Nat) : List (List Nat) := (List.range p).map fun x => r ++ [x]
theorem flat_snoc {l : List (List Nat)} {p i : Nat} {r : List Nat} (h : l[i]? = some r) : (l.take (i + 1)).flatMap (lext p) = (l.take i).flatMap (lext p) ++ lext p r := by
  rw [List.take_add_one, h, List.flatMap_append]
  simp
theorem lext_len (p : Nat) (l : List (List Nat)) : (l.flatMap (lext p)).length = l.length * p := by
  induction l with
  | nil => simp
  | cons a l ih => rw [List.flatMap_cons, List.length_append, ih, List.length_cons, Nat.succ_mul]; unfold lext; rw [List.length_map, List.length_range]; omega
abbrev s_llines : Stmt := topS 78
abbrev N_llines : List Str := ["_law_p", "_law_n", "_law_rows", "_law_turn", "_law_longer", "_law_row", "_law_x"]
theorem sc_llines : FnScope N_llines ["_law_p", "_law_n"] (defScope s_llines) := ⟨rfl, rfl, rfl, by decide +kernel, rfl, by decide +kernel, by decide +kernel⟩
def pr_llines (ds : List D) (P : D → Prop) : Prop := ∃ (p n : Nat), okp p ∧ n ≤ 4 ∧ ds = [.int (p : Nat), .int (n : Nat)] ∧ P (.lst ((MR.lines p n).map nL))
theorem ar_llines (ds : List D) (P : D → Prop) (h : pr_llines ds P) : ds.length = 2 := by obtain ⟨_, _, _, _, rfl, _⟩ := h; rfl
theorem pow_le {p n : Nat} (hp : okp p) (hn : n ≤ 5) : p ^ n ≤ 243 := Nat.le_trans (Nat.pow_le_pow_right (by have := hp.pos; omega) hn) (by rcases hp with rfl | rfl <;> decide)
theorem lines_w (p : Nat) : ∀ n, ∀ r ∈ MR.lines p n, r.length = n
  | 0, r, h => by rw [List.mem_singleton.mp h]; rfl
  | n + 1, r, h => by
    obtain ⟨s, hs, h2⟩ := List.mem_flatMap.mp h
    obtain ⟨x, _, rfl⟩ := List.mem_map.mp h2
    rw [List.length_append, lines_w p n s hs]
    rfl
theorem ok_llines {M : Md} (T : Tx M) (h : DefAt M "_law_lines" "_law_lines" "_law_lines" s_llines) : Fn M "_law_lines" 2 1 [] pr_llines := by
  refine fn_intro h sc_llines rfl (fun _ _ _ _ _ _ us hl => match us, hl with | [_, _], _ => rfl) ar_llines fun ds P hp _ => ?_
  obtain ⟨p, n, hp, hn, rfl, k⟩ := hp
  refine dss_cons ?_
  refine ds_set 2 rfl rfl ?_
  refine de_df ?_
  refine df_lst ?_
  refine da_cons ?_
  refine de_df ?_
  refine df_lst ?_
  refine da_nil ?_
  refine ⟨by simp, ?_⟩
  refine da_nil ?_
  refine ⟨by simp, ?_⟩
  refine dss_cons ?_
  refine ds_for (.nm 3) (dg_nm rfl rfl) ?_
  refine di_rng1 rfl T.g_range ?_
  refine de_var 1 rfl rfl rfl ?_
  refine ⟨(n : Nat), rfl, by omega, by omega, ?_⟩
  refine ⟨fun t Γ => ∃ e3 e4 e5 e6, Γ = [some (.dat (.int (p : Nat))), some (.dat (.int (n : Nat))), some (.dat (.lst ((MR.lines p t).map nL))), e3, e4, e5, e6], ⟨none, none, none, none, rfl⟩, ?_, ?_⟩
  · rintro t x Γ ht ⟨e3, e4, e5, e6, rfl⟩
    obtain ⟨hlt, rfl⟩ := rgD_get ht
    have htn : t < n := by omega
    have hL := lines_len p t
    have hL2 := pow_le (n := t + 1) hp (by omega)
    rw [Nat.pow_succ, ← hL] at hL2
    have hLw := lines_w p t
    have hS : MR.lines p (t + 1) = (MR.lines p t).flatMap (lext p) := rfl
    generalize MR.lines p t = L at hL2 hLw hS ⊢
    refine dss_cons ?_
    refine ds_setG 4 rfl rfl ?_
    refine df_lst ?_
    refine da_nil ?_
    refine ⟨by simp, ?_⟩
    refine dss_cons ?_
    refine ds_for (.nm 5) (dg_nm rfl rfl) ?_
    refine di_lst ?_
    refine de_df ?_
    refine df_list rfl T.g_list (by decide +kernel) ?_
    refine de_var 2 rfl rfl rfl ?_
    refine ⟨_, rfl, _, rfl, ?_⟩
    refine ⟨fun i Γ => ∃ e5 e6, Γ = [some (.dat (.int (p : Nat))), some (.dat (.int (n : Nat))), some (.dat (.lst (L.map nL))), some (.dat (.int (0 + (t : Int)))), some (.grw (((L.take i).flatMap (lext p)).map nL)), e5, e6], ⟨e5, e6, rfl⟩, ?_, ?_⟩
    · rintro i x Γ hi ⟨e5, e6, rfl⟩
      obtain ⟨r, hr, rfl⟩ := map_get hi
      have hrw := hLw r (List.mem_of_getElem? hr)
      have hil : i < L.length := (List.getElem?_eq_some_iff.mp hr).1
      have hfl := lext_len p (L.take i)
      rw [List.length_take, Nat.min_eq_left (by omega)] at hfl
      have hip : (i + 1) * p ≤ L.length * p := Nat.mul_le_mul_right p (by omega)
      rw [Nat.succ_mul] at hip
      have hF := flat_snoc (p := p) hr
      refine dss_one ?_
      refine ds_for (.nm 6) (dg_nm rfl rfl) ?_
      refine di_rng1 rfl T.g_range ?_
      refine de_var 0 rfl rfl rfl ?_
      refine ⟨(p : Nat), rfl, by have := hp.le; omega, by have := hp.le; omega, ?_⟩
      refine ⟨fun x Γ => ∃ e6, Γ = [some (.dat (.int (p : Nat))), some (.dat (.int (n : Nat))), some (.dat (.lst (L.map nL))), some (.dat (.int (0 + (t : Int)))), some (.grw (((L.take i).flatMap (lext p) ++ (lext p r).take x).map nL)), some (.dat (nL r)), e6], ⟨e6, by simp⟩, ?_, ?_⟩
      · rintro y d Γ hy ⟨e6, rfl⟩
        obtain ⟨hlt2, rfl⟩ := rgD_get hy
        have hyp : y < p := by omega
        have hle : (lext p r)[y]? = some (r ++ [y]) := map_at (range_at hyp)
        refine dss_one ?_
        refine ds_app 4 rfl rfl rfl (by rw [List.length_map, List.length_append, hfl, List.length_take]; unfold lext; rw [List.length_map, List.length_range]; omega) ?_
        refine de_op ?_
        refine de_var 5 rfl rfl rfl ?_
        refine de_df ?_
        refine df_lst ?_
        refine da_cons ?_
        refine de_var 6 rfl rfl rfl ?_
        refine da_nil ?_
        refine ⟨by simp, ?_⟩
        refine opd_cat (by simp; omega) ⟨some (.dat (.int (0 + (y : Int)))), ?_⟩
        have e : ((L.take i).flatMap (lext p) ++ (lext p r).take (y + 1)).map nL = ((L.take i).flatMap (lext p) ++ (lext p r).take y).map nL ++ [nL (r ++ [y])] := by
          rw [List.take_add_one, hle, ← List.append_assoc, List.map_append]
          rfl
        rw [e, show (0 : Int) + (y : Int) = (y : Int) by omega]
        have e2 : nL (r ++ [y]) = .lst (r.map (fun x => D.int (x : Nat)) ++ [D.int (y : Int)]) := by unfold nL; rw [List.map_append]; rfl
        rw [e2]
        rfl
      · rintro Γ ⟨e6, rfl⟩
        rw [rgD_length, Int.toNat_natCast]
        have e : (lext p r).take p = lext p r := List.take_of_length_le (by unfold lext; simp)
        rw [e]
        refine ⟨?_, ?_, ?_⟩
        rotate_left 2
        rw [hF]
    · rintro Γ ⟨e5, e6, rfl⟩
      rw [List.length_map, List.take_length]
      refine ds_freeze 4 rfl ?_
      refine dss_one ?_
      refine ds_set 2 rfl rfl ?_
      refine de_var 4 rfl rfl rfl ?_
      refine ⟨?_, ?_, ?_, ?_, ?_⟩
      rotate_left 4
      rw [hS]
      rfl
  · rintro Γ ⟨e3, e4, e5, e6, rfl⟩
    rw [rgD_length, Int.toNat_natCast]
    refine dss_one ?_
    refine ds_ret ?_
    refine de_var 2 rfl rfl rfl ?_
    exact k
end SF

-- part MQ
/-! # What is asked of the mirror, over a finite field of cases. -/
namespace MR
def modM (p : Nat) (ms : List (List (List Nat))) : List (List (List Nat)) := ms.map fun m => m.map fun r => r.map fun x => x % p
def cstep (p : Nat) (ts : List (List (List Nat))) (m : List (List Nat)) : List (List (List Nat)) := ts.flatMap fun t => (List.range p).map fun c => List.zipWith (List.zipWith fun x y => (x + c * y) % p) t m
theorem combos_eq (p n : Nat) (ms : List (List (List Nat))) : combos p n ms = ms.foldl (cstep p) [List.replicate n (List.replicate n 0)] := rfl
def bigM (p n : Nat) (a : List (List Nat)) : Bool :=
  let ms := commutant p a n
  (combos p n (modM p ms)).all fun x => fine p n a x ms
end MR

-- part L4
set_option maxHeartbeats 4000000
/-! # The law's own defs: what is tried; the law. -/
namespace SF
open PySem PySem.Spec PyProof.Rows L2 DK

theorem zz_get {t m : List (List Nat)} {f : Nat → Nat → Nat} {i : Nat} {r s : List Nat} (hr : t[i]? = some r) (hs : m[i]? = some s) : (List.zipWith (List.zipWith f) t m)[i]? = some (List.zipWith f r s) := zw_get hr hs
theorem sq_zip {n : Nat} {t m : List (List Nat)} {f : Nat → Nat → Nat} (ht : Sq n t) (hm : Sq n m) : Sq n (List.zipWith (List.zipWith f) t m) := by
  refine ⟨by rw [List.length_zipWith, ht.1, hm.1, Nat.min_self], fun r hr => ?_⟩
  obtain ⟨i, hi⟩ := List.mem_iff_getElem?.mp hr
  have hlt : i < n := by
    have := (List.getElem?_eq_some_iff.mp hi).1
    rw [List.length_zipWith, ht.1, hm.1] at this
    omega
  have h1 : i < t.length := by rw [ht.1]; exact hlt
  have h2 : i < m.length := by rw [hm.1]; exact hlt
  rw [zz_get (List.getElem?_eq_getElem h1) (List.getElem?_eq_getElem h2)] at hi
  cases hi
  rw [List.length_zipWith, ht.2 _ (List.getElem_mem h1), hm.2 _ (List.getElem_mem h2), Nat.min_self]
theorem sq_zero (n : Nat) : Sq n (List.replicate n (List.replicate n 0)) := ⟨by simp, fun r hr => by rw [(List.mem_replicate.mp hr).2]; simp⟩
theorem sq_at {n i : Nat} {m : List (List Nat)} (h : Sq n m) (hi : i < n) : ∃ r, m[i]? = some r ∧ r.length = n := by
  have h1 : i < m.length := by rw [h.1]; exact hi
  exact ⟨m[i], List.getElem?_eq_getElem h1, h.2 _ (List.getElem_mem h1)⟩
theorem row_at {n i : Nat} {r : List Nat} (h : r.length = n) (hi : i < n) : ∃ x, r[i]? = some x := ⟨r[i]'(by omega), List.getElem?_eq_getElem _⟩
theorem allMats_sq {p n : Nat} {m : List (List Nat)} (h : m ∈ MR.allMats p n) : Sq n m := by
  obtain ⟨r, hr, rfl⟩ := List.mem_map.mp h
  exact cuts_sq (lines_w p (n * n) r hr)
theorem cstep_mem {p : Nat} {ts : List (List (List Nat))} {t m : List (List Nat)} {c : Nat} (ht : t ∈ ts) (hc : c < p) : List.zipWith (List.zipWith fun x y => (x + c * y) % p) t m ∈ MR.cstep p ts m :=
  List.mem_flatMap.mpr ⟨t, ht, List.mem_map.mpr ⟨c, by simpa using hc, rfl⟩⟩
theorem combos_sq {p n : Nat} : ∀ (ms : List (List (List Nat))) (ts : List (List (List Nat))), (∀ m ∈ ms, Sq n m) → (∀ t ∈ ts, Sq n t) → ∀ t ∈ ms.foldl (MR.cstep p) ts, Sq n t
  | [], ts, _, ht => ht
  | m :: ms, ts, hm, ht => combos_sq ms _ (fun q hq => hm q (List.mem_cons_of_mem _ hq)) fun t h => by
    obtain ⟨s, hs, h2⟩ := List.mem_flatMap.mp h
    obtain ⟨c, _, rfl⟩ := List.mem_map.mp h2
    exact sq_zip (ht s hs) (hm m (List.mem_cons_self ..))
abbrev s_lsome : Stmt := topS 79
abbrev N_lsome : List Str := ["_law_numbers_here", "_law_p", "_law_n", "_law_members", "_law_found", "_law_turn", "_law_total", "_law_i", "_law_j", "_law_rows", "_law_c", "_law_row"]
theorem sc_lsome : FnScope N_lsome ["_law_numbers_here", "_law_p", "_law_n", "_law_members"] (defScope s_lsome) := ⟨rfl, rfl, rfl, by decide +kernel, rfl, by decide +kernel, by decide +kernel⟩
def pr_lsome (ds : List D) (P : D → Prop) : Prop := ∃ (p n : Nat) (ms : List (List (List Nat))), okp p ∧ n ≤ 3 ∧ (∀ m ∈ ms, Sq n m) ∧ ms.length ≤ 100 ∧ ds = [.inv .nums, .int (p : Nat), .int (n : Nat), .lst (ms.map nM)] ∧
  ∀ xs : List (List (List Nat)), xs.length ≤ 100 → (n < 3 → xs = MR.allMats p n) → (n = 3 → ∀ x ∈ xs, x ∈ MR.combos p n ms) → P (.lst (xs.map nM))
theorem ar_lsome (ds : List D) (P : D → Prop) (h : pr_lsome ds P) : ds.length = 4 := by obtain ⟨_, _, _, _, _, _, _, rfl, _⟩ := h; rfl
theorem ok_lsome {M : Md} (T : Tx M) (h : DefAt M "_law_some" "_law_some" "_law_some" s_lsome) (f1 : Fn M "_law_next" 2 1 [] pr_lnext) (f2 : Fn M "_law_rest" 2 1 [] pr_lrest) (f3 : Fn M "_law_lines" 2 1 [] pr_llines) : Fn M "_law_some" 4 2 [] pr_lsome := by
  refine fn_intro h sc_lsome rfl (fun _ _ _ _ _ _ us hl => match us, hl with | [_, _, _, _], _ => rfl) ar_lsome fun ds P hp _ => ?_
  obtain ⟨p, n, ms, hp, hn, hms, hml, rfl, k1⟩ := hp
  have hnn : (n : Int) * (n : Int) = ((n * n : Nat) : Int) := by rw [Int.natCast_mul]
  have hnn9 : n * n ≤ 9 := Nat.le_trans (Nat.mul_le_mul hn hn) (by decide)
  refine dss_cons ?_
  refine ds_if ?_
  refine dt_cmp (nomark _) ?_
  refine de_var 2 rfl rfl rfl ?_
  refine de_int ?_
  refine opd_lt ?_
  refine ⟨_, rfl, fun h3 => ?_, fun h3 => ?_⟩
  · have hn3 : n < 3 := by have : (n : Int) < 3 := by simpa using h3
                           omega
    have hnn4 : n * n ≤ 4 := Nat.le_trans (Nat.mul_le_mul (show n ≤ 2 by omega) (show n ≤ 2 by omega)) (by decide)
    have hLl := lines_len p (n * n)
    have hLp := pow_le (n := n * n) hp (by omega)
    refine dss_one ?_
    refine ds_ret ?_
    refine de_df ?_
    refine df_lc (.nm 11) [("_law_row", 11)] (by kernel_rfl) rfl (dg_nm rfl rfl) ?_
    refine di_lst ?_
    refine de_call f3 rfl (Nat.le_of_ble_eq_true rfl) ?_
    refine da_cons ?_
    refine de_var 1 rfl rfl rfl ?_
    refine da_cons ?_
    refine de_op ?_
    refine de_var 2 rfl rfl rfl ?_
    refine de_var 2 rfl rfl rfl ?_
    refine opd_mul (.inl (by omega)) ?_
    refine da_nil ?_
    rw [hnn]
    refine ⟨p, n * n, hp, hnn4, rfl, _, rfl, ?_⟩
    refine lcI_map ((MR.allMats p n).map nM) (by simp [MR.allMats]) (by rw [List.length_map]; omega) (fun i y z hy hz => ?_) (k1 _ (by unfold MR.allMats; rw [List.length_map, hLl]; exact Nat.le_trans (Nat.pow_le_pow_right (by have := hp.pos; omega) hnn4) (by rcases hp with rfl | rfl <;> decide)) (fun _ => rfl) (fun h => by omega))
    obtain ⟨r, hr, rfl⟩ := map_get hy
    have hrl : r.length = n * n := lines_w p (n * n) r (List.mem_of_getElem? hr)
    have e : (MR.allMats p n)[i]? = some ((List.range n).map fun i => MR.cut r i n) := map_at hr
    rw [map_at e] at hz
    cases hz
    refine de_df ?_
    refine df_lc (.nm 7) [("_law_i", 7)] (by kernel_rfl) rfl (dg_nm rfl rfl) ?_
    refine di_rng1 rfl T.g_range ?_
    refine de_var 2 rfl rfl rfl ?_
    refine ⟨(n : Nat), rfl, by omega, by omega, ?_⟩
    refine lcI_map _ (by simp [rgD_length]) (by rw [rgD_length]; omega) (fun j y z hy hz => ?_) rfl
    obtain ⟨hlt2, rfl⟩ := rgD_get hy
    have hjn : j < n := by omega
    rw [map_at (map_at (range_at hjn))] at hz
    cases hz
    rw [show (0 : Int) + (j : Int) = (j : Int) by omega]
    have hm := Nat.mul_le_mul_right n (show j + 1 ≤ n by omega)
    rw [Nat.succ_mul] at hm
    refine de_df ?_
    refine df_slice ?_
    refine de_var 11 rfl rfl rfl ?_
    refine ⟨_, rfl, ?_⟩
    refine do_some ?_
    refine de_op ?_
    refine de_var 7 rfl rfl rfl ?_
    refine de_var 2 rfl rfl rfl ?_
    refine opd_mul (.inl (by omega)) ⟨((j * n : Nat) : Int), by rw [Int.natCast_mul], ?_⟩
    refine do_some ?_
    refine de_op ?_
    refine de_op ?_
    refine de_var 7 rfl rfl rfl ?_
    refine de_int ?_
    refine opd_add ?_
    refine de_var 2 rfl rfl rfl ?_
    refine opd_mul (.inl (by omega)) ⟨((j * n + n : Nat) : Int), by congr 1; rw [Int.natCast_add, Int.natCast_mul, Int.add_mul, Int.one_mul], ?_⟩
    rw [cut_mid (by omega) (by rw [List.length_map, hrl]; exact hm), Nat.add_sub_cancel_left, ← List.map_drop, ← List.map_take]
    rfl
  · have hn3 : n = 3 := by have : ¬ (n : Int) < 3 := by simpa using h3
                           omega
    refine dss_nil ?_
    refine dss_cons ?_
    refine ds_setG 4 rfl rfl ?_
    refine df_lst ?_
    refine da_nil ?_
    refine ⟨by simp, ?_⟩
    refine dss_cons ?_
    refine ds_for (.nm 5) (dg_nm rfl rfl) ?_
    refine di_rng1 rfl T.g_range ?_
    refine de_int ?_
    refine ⟨4, rfl, by decide, by decide, ?_⟩
    refine ⟨fun t Γ => ∃ (xs : List (List (List Nat))) (e5 e6 e9 e10 : Option Ent), Γ = [some (.dat (.inv .nums)), some (.dat (.int (p : Nat))), some (.dat (.int (n : Nat))), some (.dat (.lst (ms.map nM))), some (.grw (xs.map nM)), e5, e6, none, none, e9, e10, none] ∧ xs.length = t ∧ t ≤ 4 ∧ ∀ x ∈ xs, x ∈ MR.combos p n ms, ⟨[], none, none, none, none, rfl, rfl, by omega, fun _ h => nomatch h⟩, ?_, ?_⟩
    · rintro t y Γ ht ⟨xs, e5, e6, e9, e10, rfl, hxl, ht4, hxs⟩
      have ht4' : t < 4 := by
        have := (List.getElem?_eq_some_iff.mp ht).1
        rw [rgD_length, show (4 : Int).toNat = 4 from rfl] at this
        exact this
      refine dss_cons ?_
      refine ds_set 6 rfl rfl ?_ (by intro env h; cases env; cases h; rfl)
      refine de_df ?_
      refine df_lc (.nm 7) [("_law_i", 7)] (by kernel_rfl) rfl (dg_nm rfl rfl) ?_
      refine di_rng1 rfl T.g_range ?_
      refine de_var 2 rfl rfl rfl ?_
      refine ⟨(n : Nat), rfl, by omega, by omega, ?_⟩
      refine lcI_map ((List.replicate n (List.replicate n 0)).map nL) (by simp [rgD_length]) (by rw [rgD_length]; omega) (fun i y z hy hz => ?_) ?_
      · have hz' : z = nL (List.replicate n 0) := by
          obtain ⟨a, ha, rfl⟩ := map_get hz
          rw [(List.mem_replicate.mp (List.mem_of_getElem? ha)).2]
        subst hz'
        refine de_df ?_
        refine df_lc (.nm 8) [("_law_j", 8)] (by kernel_rfl) rfl (dg_nm rfl rfl) ?_
        refine di_rng1 rfl T.g_range ?_
        refine de_var 2 rfl rfl rfl ?_
        refine ⟨(n : Nat), rfl, by omega, by omega, ?_⟩
        refine lcI_map ((List.replicate n 0).map fun x => D.int ((x : Nat) : Int)) (by simp [rgD_length]) (by rw [rgD_length]; omega) (fun i y z hy hz => ?_) rfl
        obtain ⟨a, ha, rfl⟩ := map_get hz
        rw [(List.mem_replicate.mp (List.mem_of_getElem? ha)).2]
        refine de_int ?_
        rfl
      refine dss_cons ?_
      refine ds_for (.nm 9) (dg_nm rfl rfl) ?_
      refine di_lst ?_
      refine de_var 3 rfl rfl rfl ?_
      refine ⟨_, rfl, ?_⟩
      refine ⟨fun m Γ => ∃ (t : List (List Nat)) (e9 e10 : Option Ent), Γ = [some (.dat (.inv .nums)), some (.dat (.int (p : Nat))), some (.dat (.int (n : Nat))), some (.dat (.lst (ms.map nM))), some (.grw (xs.map nM)), some (.dat y), some (.dat (nM t)), none, none, e9, e10, none] ∧ Sq n t ∧ t ∈ (ms.take m).foldl (MR.cstep p) [List.replicate n (List.replicate n 0)], ⟨_, e9, e10, rfl, sq_zero n, List.mem_singleton.mpr rfl⟩, ?_, ?_⟩
      · rintro m y2 Γ hm ⟨t, e9, e10, rfl, hts, htm⟩
        obtain ⟨mm, hmm, rfl⟩ := map_get hm
        have hmsq := hms mm (List.mem_of_getElem? hmm)
        refine dss_cons ?_
        refine ds_set 10 rfl rfl ?_
        refine de_call f1 rfl (Nat.le_of_ble_eq_true rfl) ?_
        refine da_cons ?_
        refine de_var 0 rfl rfl rfl ?_
        refine da_cons ?_
        refine de_var 1 rfl rfl rfl ?_
        refine da_nil ?_
        refine ⟨(p : Nat), rfl, hp.pos, fun rc c1 c2 => ?_⟩
        obtain ⟨c, rfl⟩ := Int.eq_ofNat_of_zero_le c1
        have hcp : c < p := by omega
        refine dss_one ?_
        refine ds_set 6 rfl rfl ?_ (by intro env h; cases env; cases h; rfl)
        refine de_df ?_
        refine df_lc (.nm 7) [("_law_i", 7)] (by kernel_rfl) rfl (dg_nm rfl rfl) ?_
        refine di_rng1 rfl T.g_range ?_
        refine de_var 2 rfl rfl rfl ?_
        refine ⟨(n : Nat), rfl, by omega, by omega, ?_⟩
        refine lcI_map ((List.zipWith (List.zipWith fun x y => (x + c * y) % p) t mm).map nL) (by rw [List.length_map, List.length_zipWith, hts.1, hmsq.1, rgD_length]; simp) (by rw [rgD_length]; omega) (fun i y z hy hz => ?_) ?_
        · obtain ⟨hlt, rfl⟩ := rgD_get hy
          have hin : i < n := by omega
          obtain ⟨r, hr, hrl⟩ := sq_at hts hin
          obtain ⟨s, hs, hsl⟩ := sq_at hmsq hin
          rw [map_at (zz_get hr hs)] at hz
          cases hz
          refine de_df ?_
          refine df_lc (.nm 8) [("_law_j", 8)] (by kernel_rfl) rfl (dg_nm rfl rfl) ?_
          refine di_rng1 rfl T.g_range ?_
          refine de_var 2 rfl rfl rfl ?_
          refine ⟨(n : Nat), rfl, by omega, by omega, ?_⟩
          refine lcI_map _ (by rw [List.length_map, List.length_zipWith, hrl, hsl, rgD_length]; simp) (by rw [rgD_length]; omega) (fun j y z hy hz => ?_) rfl
          obtain ⟨hlt2, rfl⟩ := rgD_get hy
          have hjn : j < n := by omega
          obtain ⟨u, hu⟩ := row_at hrl hjn
          obtain ⟨v, hv⟩ := row_at hsl hjn
          rw [map_at (zw_get hu hv)] at hz
          cases hz
          refine de_call f2 rfl (Nat.le_of_ble_eq_true rfl) ?_
          refine da_cons ?_
          refine de_var 1 rfl rfl rfl ?_
          refine da_cons ?_
          refine de_op ?_
          refine de_ix (fun _ _ => rfl) ?_
          refine de_ix (fun _ _ => rfl) ?_
          refine de_var 6 rfl rfl rfl ?_
          refine ⟨_, rfl, ?_⟩
          refine de_var 7 rfl rfl rfl ?_
          refine ⟨((i : Nat) : Int), _, by simp, atI_nat (map_at hr), _, rfl, ?_⟩
          refine de_var 8 rfl rfl rfl ?_
          refine ⟨((j : Nat) : Int), _, by simp, atI_nat (map_at hu), ?_⟩
          refine de_op ?_
          refine de_var 10 rfl rfl rfl ?_
          refine de_ix (fun _ _ => rfl) ?_
          refine de_ix (fun _ _ => rfl) ?_
          refine de_var 9 rfl rfl rfl ?_
          refine ⟨_, rfl, ?_⟩
          refine de_var 7 rfl rfl rfl ?_
          refine ⟨((i : Nat) : Int), _, by simp, atI_nat (map_at hs), _, rfl, ?_⟩
          refine de_var 8 rfl rfl rfl ?_
          refine ⟨((j : Nat) : Int), _, by simp, atI_nat (map_at hv), ?_⟩
          refine opd_mul (.inl (by have := hp.le; omega)) ?_
          refine opd_add ?_
          refine da_nil ?_
          refine ⟨p, _, hp, rfl, ?_⟩
          rw [Int.natCast_emod, Int.natCast_add, Int.natCast_mul]
        · refine ⟨_, _, _, rfl, sq_zip hts hmsq, ?_⟩
          rw [List.take_add_one, hmm, List.foldl_append]
          exact cstep_mem htm hcp
      · rintro Γ ⟨t2, e9, e10, rfl, hts, htm⟩
        rw [List.length_map, List.take_length] at htm
        refine dss_one ?_
        refine ds_app 4 rfl rfl rfl (by rw [List.length_map]; omega) ?_
        refine de_var 6 rfl rfl rfl ?_
        refine ⟨xs ++ [t2], ?_, ?_, ?_, ?_, ?_, by simp [hxl], by omega, fun x hx => ?_⟩
        rotate_left 4
        · rw [List.map_append]
          rfl
        · rcases List.mem_append.mp hx with hx | hx
          · exact hxs x hx
          · rw [List.mem_singleton.mp hx]; exact htm
    · rintro Γ ⟨xs, e5, e6, e9, e10, rfl, hxl, ht4, hxs⟩
      refine ds_freeze 4 rfl ?_
      refine dss_one ?_
      refine ds_ret ?_
      refine de_var 4 rfl rfl rfl ?_
      exact k1 xs (by omega) (fun h => by omega) fun _ => hxs

/-! ### _law_integer -/
abbrev s_lint : Stmt := topS 80
abbrev N_lint : List Str := ["_law_ground", "_law_p", "_law_item", "_law_k"]
theorem sc_lint : FnScope N_lint ["_law_ground", "_law_p", "_law_item"] (defScope s_lint) := ⟨rfl, rfl, rfl, by decide +kernel, rfl, by decide +kernel, by decide +kernel⟩
def pr_lint (ds : List D) (P : D → Prop) : Prop := ∃ (p a : Nat), okp p ∧ ds = [gr p, .int (p : Nat), rn p a] ∧ P (.int ((a % p : Nat) : Int))
theorem ar_lint (ds : List D) (P : D → Prop) (h : pr_lint ds P) : ds.length = 3 := by obtain ⟨_, _, _, rfl, _⟩ := h; rfl
theorem ok_lint {M : Md} (T : Tx M) (h : DefAt M "_law_integer" "_law_integer" "_law_integer" s_lint) (f1 : Me M .gr "number" 3 7 [.int 1] pr_gnum) (f2 : Me M .res "__eq__" 2 1 [] pr_req) : Fn M "_law_integer" 3 8 [] pr_lint := by
  refine fn_intro h sc_lint rfl (fun _ _ _ _ _ _ us hl => match us, hl with | [_, _, _], _ => rfl) ar_lint fun ds P hp _ => ?_
  obtain ⟨p, a, hp, rfl, k⟩ := hp
  have hap : a % p < p := Nat.mod_lt _ (by have := hp.pos; omega)
  refine dss_cons ?_
  refine ds_for (.nm 3) (dg_nm rfl rfl) ?_
  refine di_rng1 rfl T.g_range ?_
  refine de_var 1 rfl rfl rfl ?_
  refine ⟨(p : Nat), rfl, by have := hp.le; omega, by have := hp.le; omega, ?_⟩
  refine ⟨fun i Γ => ∃ e, Γ = [some (.dat (gr p)), some (.dat (.int (p : Nat))), some (.dat (rn p a)), e] ∧ i ≤ a % p, ⟨none, rfl, by omega⟩, ?_, ?_⟩
  · rintro i x Γ hi ⟨e, rfl, hia⟩
    obtain ⟨hlt, rfl⟩ := rgD_get hi
    have hip : i < p := by omega
    rw [show (0 : Int) + (i : Int) = (i : Int) by omega]
    refine dss_one ?_
    refine ds_if ?_
    refine dt_cmp (nomark _) ?_
    refine de_meth (T.c4 _) f1 (by decide +kernel) (Nat.le_of_ble_eq_true rfl) ?_ _ (fun _ => rfl)
    refine de_var 0 rfl rfl rfl ?_
    refine ⟨_, rfl, ?_⟩
    refine da_cons ?_
    refine de_var 3 rfl rfl rfl ?_
    refine da_nil ?_
    refine ⟨p, (i : Int), hp, rfl, ?_⟩
    refine de_var 2 rfl rfl rfl ?_
    refine opd_eq (T.c4 .res) f2 (Nat.le_of_ble_eq_true rfl) ?_
    refine ⟨p, (i : Int), (a : Int), rfl, _, rfl, fun h0 => ?_, fun h0 => ?_⟩
    · rw [dq] at h0
      have h0' : i % p = a % p := by simpa using h0
      rw [Nat.mod_eq_of_lt hip] at h0'
      rw [← h0'] at k
      refine dss_one ?_
      refine ds_ret ?_
      refine de_var 3 rfl rfl rfl ?_
      exact k
    · rw [dq] at h0
      have h0' : ¬ i % p = a % p := by simpa using h0
      rw [Nat.mod_eq_of_lt hip] at h0'
      refine dss_nil ?_
      exact ⟨_, rfl, by omega⟩
  · rintro Γ ⟨e, rfl, hia⟩
    rw [rgD_length, Int.toNat_natCast] at hia
    exact absurd hap (by omega)
end SF

-- part L5
set_option maxHeartbeats 4000000
/-! # The law. -/
namespace SF
open PySem PySem.Spec PyProof.Rows L2 DK

/-! ### the drawn matrix stands in the list of all -/
theorem mem_lines {p : Nat} : ∀ {k : Nat} {r : List Nat}, r.length = k → (∀ x ∈ r, x < p) → r ∈ MR.lines p k
  | 0, r, h, _ => by rw [List.length_eq_zero_iff.mp h]; exact List.mem_singleton.mpr rfl
  | k + 1, r, h, hx => by
    have hne : r ≠ [] := by intro e; rw [e] at h; cases h
    have e : r = r.dropLast ++ [r.getLast hne] := (List.dropLast_concat_getLast _).symm
    refine List.mem_flatMap.mpr ⟨r.dropLast, mem_lines (by rw [List.length_dropLast, h]; rfl) (fun x h2 => hx x ((List.dropLast_sublist r).subset h2)), List.mem_map.mpr ⟨r.getLast hne, ?_, e.symm⟩⟩
    simpa using hx _ (List.getLast_mem hne)
theorem cut_flat {n : Nat} : ∀ {a : List (List Nat)} (i : Nat), (∀ r ∈ a, r.length = n) → ∀ h : i < a.length, (a.flatten.drop (i * n)).take n = a[i]
  | r :: a, 0, hr, _ => by
    have := hr r (List.mem_cons_self ..)
    simp [List.take_append_of_le_length, this]
  | r :: a, i + 1, hr, h => by
    have h1 := hr r (List.mem_cons_self ..)
    have ih := cut_flat (a := a) i (fun s hs => hr s (List.mem_cons_of_mem _ hs)) (by simpa using h)
    rw [List.flatten_cons, Nat.succ_mul, Nat.add_comm, ← List.drop_drop, List.drop_left' h1, ih]
    rfl
theorem mem_allMats {p n : Nat} {a : List (List Nat)} (ha : Sq n a) (hx : ∀ r ∈ a, ∀ x ∈ r, x < p) : a ∈ MR.allMats p n := by
  refine List.mem_map.mpr ⟨a.flatten, mem_lines (sq_flat ha) (fun x h => ?_), ?_⟩
  · obtain ⟨r, hr, h2⟩ := List.mem_flatten.mp h
    exact hx r hr x h2
  · apply List.ext_getElem?
    intro i
    by_cases hi : i < n
    · have hia : i < a.length := by rw [ha.1]; exact hi
      rw [map_at (range_at hi), List.getElem?_eq_getElem hia]
      exact congrArg some (cut_flat i ha.2 hia)
    · rw [List.getElem?_eq_none (by simp; omega), List.getElem?_eq_none (by rw [ha.1]; omega)]
/-- an int matrix, cut to size and brought below p -/
def cutI (s : Nat) (rs : List (List Int)) : List (List Int) := (rs.take s).map fun r => r.take s
def modI (p : Nat) (rs : List (List Int)) : List (List Nat) := rs.map fun r => r.map fun z => (z % (p : Int)).toNat
theorem rz_toNat {p : Nat} (hp : okp p) (z : Int) : rz p z = rn p (z % (p : Int)).toNat := rz_eq (by
  rw [Int.toNat_of_nonneg (Int.emod_nonneg z hp.ne), Int.emod_emod])
theorem modI_it {p : Nat} (hp : okp p) (rs : List (List Int)) : RowsIt p (rs.map iL) (modI p rs) := by
  refine ⟨by simp [modI], fun i x r hx hr => ?_⟩
  obtain ⟨s, hs, rfl⟩ := map_get hx
  rw [modI, map_at hs] at hr
  cases hr
  refine ⟨_, rfl, by simp, fun j d a hd ha => ?_⟩
  obtain ⟨z, hz, rfl⟩ := map_get hd
  rw [map_at hz] at ha
  cases ha
  exact .inr ⟨z, rfl, rz_toNat hp z⟩
theorem nM_it (p : Nat) (m : List (List Nat)) : RowsIt p (m.map nL) m := by
  refine ⟨by simp, fun i x r hx hr => ?_⟩
  rw [map_at hr] at hx
  cases hx
  refine ⟨_, rfl, by simp, fun j d a hd ha => ?_⟩
  rw [map_at ha] at hd
  cases hd
  exact .inr ⟨_, rfl, rfl⟩
theorem cutI_sq {p m s : Nat} {rs : List (List Int)} (h : mOk m m rs) : Sq (min s m) (modI p (cutI s rs)) := by
  refine ⟨by simp [modI, cutI, h.1], fun r hr => ?_⟩
  obtain ⟨q, hq, rfl⟩ := List.mem_map.mp hr
  obtain ⟨t, ht, rfl⟩ := List.mem_map.mp hq
  simp [(h.2 t (List.mem_of_mem_take ht)).1]
theorem modI_lt {p : Nat} (hp : okp p) (rs : List (List Int)) : ∀ r ∈ modI p rs, ∀ x ∈ r, x < p := fun r hr x hx => by
  obtain ⟨q, _, rfl⟩ := List.mem_map.mp hr
  obtain ⟨z, _, rfl⟩ := List.mem_map.mp hx
  have h1 := Int.emod_nonneg z hp.ne
  have h2 := Int.emod_lt_of_pos z hp.pos
  omega
/-- the plain law, in plain Lean -/
def Plain : Prop := ∀ (p n : Nat) (a : List (List Nat)), okp p → 1 ≤ n → (n ≤ 2 ∨ (n = 3 ∧ p = 2)) → a ∈ MR.allMats p n → (n < 3 → MR.small p n a = true) ∧ (n = 3 → MR.bigM p n a = true)
theorem plain_fine (PL : Plain) {p n : Nat} {a x : List (List Nat)} (hp : okp p) (h1 : 1 ≤ n) (hn : n ≤ 2 ∨ (n = 3 ∧ p = 2)) (ha : a ∈ MR.allMats p n) (hs : n < 3 → x ∈ MR.allMats p n) (hb : n = 3 → x ∈ MR.combos p n (MR.modM p (MR.commutant p a n))) : MR.fine p n a x (MR.commutant p a n) = true := by
  obtain ⟨k1, k2⟩ := PL p n a hp h1 hn ha
  by_cases h3 : n < 3
  · have e : ((MR.allMats p n).all fun x => MR.fine p n a x (MR.commutant p a n)) = true := (Bool.and_eq_true_iff.mp (k1 h3)).1
    exact List.all_eq_true.mp e x (hs h3)
  · have h3' : n = 3 := by omega
    have e : ((MR.combos p n (MR.modM p (MR.commutant p a n))).all fun x => MR.fine p n a x (MR.commutant p a n)) = true := k2 h3'
    exact List.all_eq_true.mp e x (hb h3')
theorem plain_count (PL : Plain) {p n : Nat} {a : List (List Nat)} (hp : okp p) (h1 : 1 ≤ n) (hn : n ≤ 2 ∨ (n = 3 ∧ p = 2)) (ha : a ∈ MR.allMats p n) (h3 : n < 3) : ((MR.allMats p n).filter fun x => MR.commute p a x n).length = p ^ (MR.commutant p a n).length := by
  have e : (((MR.allMats p n).filter fun x => MR.commute p a x n).length == p ^ (MR.commutant p a n).length) = true := (Bool.and_eq_true_iff.mp ((PL p n a hp h1 hn ha).1 h3)).2
  exact eq_of_beq e
theorem modM_sq {p n : Nat} {ms : List (List (List Nat))} (h : ∀ m ∈ ms, Sq n m) : ∀ m ∈ MR.modM p ms, Sq n m := fun m hm => by
  obtain ⟨q, hq, rfl⟩ := List.mem_map.mp hm
  refine ⟨by rw [List.length_map, (h q hq).1], fun r hr => ?_⟩
  obtain ⟨s, hs, rfl⟩ := List.mem_map.mp hr
  rw [List.length_map, (h q hq).2 s hs]
theorem commutant_n (p : Nat) {n : Nat} (a : List (List Nat)) : (MR.commutant p a n).length ≤ n * n := by
  unfold MR.commutant
  rw [List.length_map]
  exact reduce_n (free_w p a n)
def sz (p : Nat) : Nat := if p = 2 then 3 else 2
abbrev mm (p : Nat) (m : List (List Nat)) : List (List Nat) := m.map fun r => r.map fun x => x % p
abbrev s_law : Stmt := topS 81
abbrev N_law : List Str := ["_law_script", "_law_numbers_here", "_law_p", "_law_ground", "_law_rows", "_law_size", "_law_n", "_law_a", "_law_members", "_law_plain", "_law_x", "_law_own", "_law_row", "_law_item", "_law_count", "_law_other", "_law_y", "_law_whole"]
theorem sc_law : FnScope N_law ["_law_script"] (defScope s_law) := ⟨rfl, rfl, rfl, by decide +kernel, rfl, by decide +kernel, by decide +kernel⟩
def pr_law (K : PySem.W.Frag) (ds : List D) (P : D → Prop) : Prop := ∃ (xs : List Int) (d : D), ds = [d] ∧ Script K xs d ∧ xs.length ≤ 63 ∧ P (.bl true)
theorem ar_law {K : PySem.W.Frag} (ds : List D) (P : D → Prop) (h : pr_law K ds P) : ds.length = 1 := by obtain ⟨_, _, rfl, _⟩ := h; rfl
set_option maxHeartbeats 20000000 in
theorem ok_law (PL : Plain) {M : Md} (T : Tx M) (f1 : Fn M "_law_numbers" 1 1 [] (pr_lnum M.K)) (f2 : Fn M "_law_next" 2 1 [] pr_lnext) (f3 : Ct M "Ground" .gr 1 3 [] pr_ginit) (f4 : Fn M "_law_square" 2 4 [] pr_lsquare)
    (f5 : Fn M "commutant" 1 13 [] pr_commutant) (f6 : Ct M "Matrix" .mat 3 10 [] pr_minit) (f7 : Fn M "_law_integer" 3 8 [] pr_lint) (f8 : Fn M "_law_some" 4 2 [] pr_lsome) (f9 : Fn M "commute" 2 13 [] pr_commute) (f10 : Fn M "polynomial_of" 2 16 [] pr_polyof) (f11 : Me M .res "__eq__" 2 1 [] pr_req) : ∀ f fd, FunD M.K "law" "law" (defArgs s_law) (defBody s_law) (defScope s_law) [] [] f fd → FnOk M.P M.w M.K M.mg M.base CX0 17 f fd ["_law_script"] (spD M.cA 1 (pr_law M.K)) := by
  intro f fd FD
  refine fn_body FD sc_law rfl fun ds P hp _ => ?_
  obtain ⟨xs, sd, rfl, hsd, hx, q⟩ := hp
  refine dss_cons ?_
  refine ds_set 1 rfl rfl ?_
  refine de_call f1 rfl (Nat.le_of_ble_eq_true rfl) ?_
  refine da_cons ?_
  refine de_var 0 rfl rfl rfl ?_
  refine da_nil ?_
  refine ⟨xs, sd, rfl, hsd, hx, ?_⟩
  refine dss_cons ?_
  refine ds_set 2 rfl rfl ?_
  refine de_op ?_
  refine de_int ?_
  refine de_call f2 rfl (Nat.le_of_ble_eq_true rfl) ?_
  refine da_cons ?_
  refine de_var 1 rfl rfl rfl ?_
  refine da_cons ?_
  refine de_int ?_
  refine da_nil ?_
  refine ⟨2, rfl, by decide, fun r h1 h2 => ?_⟩
  obtain ⟨nr, rfl⟩ := Int.eq_ofNat_of_zero_le h1
  refine opd_add ?_
  rw [show (2 : Int) + (nr : Int) = ((2 + nr : Nat) : Int) by omega]
  have hp : okp (2 + nr) := by
    have : nr = 0 ∨ nr = 1 := by omega
    rcases this with rfl | rfl
    · exact .inl rfl
    · exact .inr rfl
  generalize 2 + nr = p at hp
  refine dss_cons ?_
  refine ds_set 3 rfl rfl ?_
  refine de_make f3 rfl (Nat.le_of_ble_eq_true rfl) ?_
  refine da_cons ?_
  refine de_var 2 rfl rfl rfl ?_
  refine da_nil ?_
  refine ⟨p, hp, rfl, ?_⟩
  refine dss_cons ?_
  refine ds_set 4 rfl rfl ?_
  refine de_call f4 rfl (Nat.le_of_ble_eq_true rfl) ?_
  refine da_cons ?_
  refine de_var 1 rfl rfl rfl ?_
  refine da_cons ?_
  refine de_var 2 rfl rfl rfl ?_
  refine da_nil ?_
  refine ⟨p, hp, rfl, fun m rs hm hrs => ?_⟩
  refine dss_cons ?_
  refine ds_set 5 rfl rfl (de_imp (P' := fun d => d = .int (sz p : Nat)) (de_ifExp ?_) ?_)
  · refine dt_cmp (nomark _) ?_
    refine de_var 2 rfl rfl rfl ?_
    refine de_int ?_
    refine opd_eqI ?_
    refine ⟨_, rfl, fun h0 => ?_, fun h0 => ?_⟩
    · have h0' : p = 2 := by have : (p : Int) = 2 := by simpa using h0
                             omega
      subst h0'
      refine de_int ?_
      rfl
    · have h0' : ¬ p = 2 := by have : ¬ (p : Int) = 2 := by simpa using h0
                               omega
      refine de_int ?_
      unfold sz
      rw [if_neg h0']
      rfl
  intro d hd
  subst hd
  have hsz : (sz p ≤ 2 ∨ (sz p = 3 ∧ p = 2)) ∧ 1 ≤ sz p := by rcases hp with rfl | rfl <;> decide
  generalize hs : sz p = s at hsz
  obtain ⟨hs2, hs1⟩ := hsz
  refine dss_cons ?_
  refine ds_setLc 4 (.nm 12) [("_law_row", 12)] rfl rfl (by intro env h; cases env; cases h; rfl) (by kernel_rfl) rfl (dg_nm rfl rfl) ?_
  refine di_lst ?_
  refine de_df ?_
  refine df_slice ?_
  refine de_var 4 rfl rfl rfl ?_
  refine ⟨_, rfl, ?_⟩
  refine do_none ?_
  refine do_some ?_
  refine de_var 5 rfl rfl rfl ?_
  refine ⟨(s : Nat), rfl, ?_⟩
  rw [cut_to, ← List.map_take]
  refine ⟨_, rfl, ?_⟩
  refine lcI_map ((cutI s rs).map iL) (by simp [cutI]) (by rw [List.length_map, List.length_take, hrs.1]; omega) (fun i y z hy hz => ?_) ?_
  · obtain ⟨r, hr, rfl⟩ := map_get hy
    have e : (cutI s rs)[i]? = some (r.take s) := map_at hr
    rw [map_at e] at hz
    cases hz
    refine de_df ?_
    refine df_slice ?_
    refine de_var 12 rfl rfl rfl ?_
    refine ⟨_, rfl, ?_⟩
    refine do_none ?_
    refine do_some ?_
    refine de_var 5 rfl rfl rfl ?_
    refine ⟨(s : Nat), rfl, ?_⟩
    rw [cut_to, ← List.map_take]
  have hA := cutI_sq (p := p) (s := s) hrs
  have hAlt := modI_lt hp (cutI s rs)
  have hAit := modI_it hp (cutI s rs)
  have hlen : (cutI s rs).length = min s m := by simp [cutI, hrs.1]
  refine dss_cons ?_
  refine ds_set 6 rfl rfl ?_
  refine de_callB rfl T.g_len PySem.boot_len (da_cons ?_)
  refine de_var 4 rfl rfl rfl ?_
  refine da_nil (cd_len rfl ?_)
  rw [List.length_map, hlen]
  generalize hnd : min s m = n at hA hlen
  generalize modI p (cutI s rs) = A at hA hAlt hAit
  generalize hR : (cutI s rs).map iL = R at hAit
  refine dss_cons ?_
  refine ds_if ?_
  refine dt_cmp (nomark _) ?_
  refine de_var 6 rfl rfl rfl ?_
  refine de_int ?_
  refine opd_eqI ?_
  refine ⟨_, rfl, fun h0 => ?_, fun h0 => ?_⟩
  · refine dss_one ?_
    refine ds_ret ?_
    refine de_cmp (nomark _) ?_
    refine de_call f5 rfl (Nat.le_of_ble_eq_true rfl) ?_
    refine da_cons ?_
    refine de_make f6 rfl (Nat.le_of_ble_eq_true rfl) ?_
    refine da_cons ?_
    refine de_var 3 rfl rfl rfl ?_
    refine da_cons ?_
    refine de_df ?_
    refine df_lst ?_
    refine da_nil ?_
    refine ⟨by simp, ?_⟩
    refine da_cons ?_
    refine de_int ?_
    refine da_nil ?_
    refine ⟨p, .lst [], [], [], 0, hp, rfl, rfl, ⟨rfl, fun i x r hx _ => by simp at hx⟩, by simp, by simp, (fun r hr => nomatch hr), ?_⟩
    refine da_nil ?_
    refine ⟨p, 0, [], hp, ⟨rfl, fun r hr => nomatch hr⟩, by simp, rfl, ?_⟩
    refine de_tup ?_
    refine da_nil ?_
    refine ⟨by simp, ?_⟩
    refine opd_eqT (eqc_res T f11 p) (Nat.le_of_ble_eq_true rfl) (fun d hd => ?_) (fun d hd => nomatch hd) ?_
    · have e : MR.commutant p [] 0 = [] := rfl
      rw [e] at hd
      cases hd
    · exact q
  have hn1 : 1 ≤ n := by have : ¬ (n : Int) = 0 := by simpa using h0
                         omega
  have hnp : n ≤ 2 ∨ (n = 3 ∧ p = 2) := by omega
  have hn3 : n ≤ 3 := by omega
  have hnn : n * n ≤ 9 := Nat.le_trans (Nat.mul_le_mul hn3 hn3) (by decide)
  have hAm := mem_allMats hA hAlt
  have hfine := fun x => plain_fine PL (x := x) hp hn1 hnp hAm
  have hcount := plain_count PL hp hn1 hnp hAm
  have hmsq : ∀ m ∈ MR.commutant p A n, Sq n m := fun m hm => commutant_sq hm
  have hmn := commutant_n p (n := n) A
  refine dss_nil ?_
  refine dss_cons ?_
  refine ds_set 7 rfl rfl ?_
  refine de_make f6 rfl (Nat.le_of_ble_eq_true rfl) ?_
  refine da_cons ?_
  refine de_var 3 rfl rfl rfl ?_
  refine da_cons ?_
  refine de_var 4 rfl rfl rfl ?_
  refine da_cons ?_
  refine de_var 6 rfl rfl rfl ?_
  refine da_nil ?_
  refine ⟨p, .lst R, R, A, n, hp, rfl, rfl, hAit, by rw [hA.1]; omega, by omega, hA.2, ?_⟩
  refine dss_cons ?_
  refine ds_set 8 rfl rfl ?_
  refine de_call f5 rfl (Nat.le_of_ble_eq_true rfl) ?_
  refine da_cons ?_
  refine de_var 7 rfl rfl rfl ?_
  refine da_nil ?_
  refine ⟨p, n, A, hp, hA, by omega, rfl, ?_⟩
  have hpoly : ∀ x, MR.fine p n A x (MR.commutant p A n) = true → ((MR.commutant p A n).all fun m => MR.commute p x m n) = true → ∃ s, MR.polyOf p A x n = some (some s) := fun x hf hc => by
    unfold MR.fine at hf
    rw [if_pos hc] at hf
    split at hf
    · rename_i s hs
      exact ⟨s, hs⟩
    · cases hf
  generalize MR.commutant p A n = ms at hfine hcount hmsq hmn hpoly
  have hmm := modM_sq (p := p) hmsq
  refine dss_cons ?_
  refine ds_setG 9 rfl rfl ?_
  refine df_lst ?_
  refine da_nil ?_
  refine ⟨by simp, ?_⟩
  refine dss_cons ?_
  refine ds_for (.nm 10) (dg_nm rfl rfl) ?_
  refine di_tup ?_
  refine de_var 8 rfl rfl rfl ?_
  refine ⟨_, rfl, ?_⟩
  refine ⟨fun i Γ => ∃ e10 e11 e12, Γ = [some (.dat sd), some (.dat (.inv .nums)), some (.dat (.int (p : Nat))), some (.dat (gr p)), some (.dat (.lst R)), some (.dat (.int (s : Nat))), some (.dat (.int (n : Nat))), some (.dat (matD p A n)), some (.dat (.tup (ms.map fun m => matD p m n))), some (.grw (((MR.modM p ms).take i).map nM)), e10, e11, e12, none, none, none, none, none], ⟨none, none, none, by subst hs; rfl⟩, ?_, ?_⟩
  · rintro i x Γ hi ⟨e10, e11, e12, rfl⟩
    obtain ⟨mt, hmt, rfl⟩ := map_get hi
    have hmi : (MR.modM p ms)[i]? = some (mm p mt) := map_at hmt
    have hil : i < ms.length := (List.getElem?_eq_some_iff.mp hmt).1
    have hmts := hmsq mt (List.mem_of_getElem? hmt)
    refine dss_cons ?_
    refine ds_setG 11 rfl rfl ?_
    refine df_lst ?_
    refine da_nil ?_
    refine ⟨by simp, ?_⟩
    refine dss_cons ?_
    refine ds_for (.nm 12) (dg_nm rfl rfl) ?_
    refine di_tup ?_
    refine de_fldA T.c4 1 ?_
    refine de_var 10 rfl rfl rfl ?_
    refine ⟨_, _, _, rfl, rfl, rfl, ?_⟩
    refine ⟨_, rfl, ?_⟩
    refine ⟨fun t Γ => ∃ e12, Γ = [some (.dat sd), some (.dat (.inv .nums)), some (.dat (.int (p : Nat))), some (.dat (gr p)), some (.dat (.lst R)), some (.dat (.int (s : Nat))), some (.dat (.int (n : Nat))), some (.dat (matD p A n)), some (.dat (.tup (ms.map fun m => matD p m n))), some (.grw (((MR.modM p ms).take i).map nM)), some (.dat (matD p mt n)), some (.grw (((mm p mt).take t).map nL)), e12, none, none, none, none, none], ⟨e12, rfl⟩, ?_, ?_⟩
    · rintro t y Γ ht ⟨e12, rfl⟩
      obtain ⟨r, hr, rfl⟩ := map_get ht
      have hrl := hmts.2 r (List.mem_of_getElem? hr)
      have htl : t < mt.length := (List.getElem?_eq_some_iff.mp hr).1
      have hri : (mm p mt)[t]? = some (r.map fun x => x % p) := map_at hr
      have htn : t < n := by rw [← hmts.1]; exact htl
      refine dss_one ?_
      refine ds_app 11 rfl rfl rfl (by rw [List.length_map, List.length_take]; omega) ?_
      refine de_df ?_
      refine df_lc (.nm 13) [("_law_item", 13)] (by kernel_rfl) rfl (dg_nm rfl rfl) ?_
      refine di_tup ?_
      refine de_var 12 rfl rfl rfl ?_
      refine ⟨_, rfl, ?_⟩
      refine lcI_map ((r.map fun x => x % p).map fun x => D.int ((x : Nat) : Int)) (by simp) (by rw [List.length_map, hrl]; omega) (fun j y z hy hz => ?_) ?_
      · obtain ⟨a, ha, rfl⟩ := map_get hy
        rw [map_at (map_at ha)] at hz
        cases hz
        refine de_call f7 rfl (Nat.le_of_ble_eq_true rfl) ?_
        refine da_cons ?_
        refine de_var 3 rfl rfl rfl ?_
        refine da_cons ?_
        refine de_var 2 rfl rfl rfl ?_
        refine da_cons ?_
        refine de_var 13 rfl rfl rfl ?_
        refine da_nil ?_
        exact ⟨p, a, hp, rfl, rfl⟩
      refine ⟨some (.dat (rT p r)), ?_⟩
      rw [List.take_add_one, hri, List.map_append]
      rfl
    · rintro Γ ⟨e12, rfl⟩
      have e : (mm p mt).take (mt.map (rT p)).length = mm p mt := List.take_of_length_le (by simp)
      rw [e]
      refine ds_freeze 11 rfl ?_
      refine dss_one ?_
      refine ds_app 9 rfl rfl rfl (by rw [List.length_map, List.length_take]; omega) ?_
      refine de_var 11 rfl rfl rfl ?_
      refine ⟨?_, ?_, ?_, ?_⟩
      rotate_left 3
      rw [List.take_add_one, hmi, List.map_append]
      rfl
  rintro Γ ⟨e10, e11, e12, rfl⟩
  have e : (MR.modM p ms).take (ms.map fun m => matD p m n).length = MR.modM p ms := List.take_of_length_le (by simp [MR.modM])
  rw [e]
  refine ds_freeze 9 rfl ?_
  refine dss_cons ?_
  refine ds_set 14 rfl rfl ?_
  refine de_int ?_
  refine dss_cons ?_
  refine ds_for (.nm 15) (dg_nm rfl rfl) ?_
  refine di_lst ?_
  refine de_call f8 rfl (Nat.le_of_ble_eq_true rfl) ?_
  refine da_cons ?_
  refine de_var 1 rfl rfl rfl ?_
  refine da_cons ?_
  refine de_var 2 rfl rfl rfl ?_
  refine da_cons ?_
  refine de_var 6 rfl rfl rfl ?_
  refine da_cons ?_
  refine de_var 9 rfl rfl rfl ?_
  refine da_nil ?_
  refine ⟨p, n, MR.modM p ms, hp, hn3, hmm, by simp [MR.modM]; omega, rfl, fun ts htl ht1 ht2 => ⟨_, rfl, ?_⟩⟩
  have htsq : ∀ x ∈ ts, Sq n x := fun x hx => by
    by_cases h3 : n < 3
    · rw [ht1 h3] at hx; exact allMats_sq hx
    · refine combos_sq (MR.modM p ms) _ hmm (fun t ht => ?_) x (ht2 (by omega) x hx)
      rw [List.mem_singleton.mp ht]
      exact sq_zero n
  refine ⟨fun i Γ => ∃ e10 e15, Γ = [some (.dat sd), some (.dat (.inv .nums)), some (.dat (.int (p : Nat))), some (.dat (gr p)), some (.dat (.lst R)), some (.dat (.int (s : Nat))), some (.dat (.int (n : Nat))), some (.dat (matD p A n)), some (.dat (.tup (ms.map fun m => matD p m n))), some (.dat (.lst ((MR.modM p ms).map nM))), e10, e11, e12, none, some (.dat (.int ((((ts.take i).filter fun x => MR.commute p A x n).length : Nat) : Int))), e15, none, none], ⟨e10, none, rfl⟩, ?_, ?_⟩
  · rintro i y Γ hi ⟨e10, e15, rfl⟩
    obtain ⟨x, hx, rfl⟩ := map_get hi
    have hxm := List.mem_of_getElem? hx
    have hxs := htsq x hxm
    have hfx := hfine x (fun h3 => by rw [← ht1 h3]; exact hxm) (fun h3 => ht2 h3 x hxm)
    have hcs : ((ts.take (i + 1)).filter fun x => MR.commute p A x n).length = ((ts.take i).filter fun x => MR.commute p A x n).length + (if MR.commute p A x n then 1 else 0) := by
      rw [List.take_add_one, hx, List.filter_append, List.length_append]
      congr 1
      cases hc : MR.commute p A x n <;> simp [hc]
    refine dss_cons ?_
    refine ds_set 10 rfl rfl ?_
    refine de_make f6 rfl (Nat.le_of_ble_eq_true rfl) ?_
    refine da_cons ?_
    refine de_var 3 rfl rfl rfl ?_
    refine da_cons ?_
    refine de_var 15 rfl rfl rfl ?_
    refine da_cons ?_
    refine de_var 6 rfl rfl rfl ?_
    refine da_nil ?_
    refine ⟨p, nM x, _, x, n, hp, rfl, rfl, nM_it p x, by rw [hxs.1]; omega, by omega, hxs.2, ?_⟩
    refine dss_cons ?_
    refine ds_set 14 rfl rfl ?_
    refine de_op ?_
    refine de_var 14 rfl rfl rfl ?_
    refine de_callTy (T := "int") rfl T.g_int (by decide +kernel) ?_
    refine da_cons ?_
    refine de_call f9 rfl (Nat.le_of_ble_eq_true rfl) ?_
    refine da_cons ?_
    refine de_var 7 rfl rfl rfl ?_
    refine da_cons ?_
    refine de_var 10 rfl rfl rfl ?_
    refine da_nil ?_
    refine ⟨p, n, A, x, hp, hA, hxs, by omega, rfl, ?_⟩
    refine da_nil ?_
    refine cd_intB ?_
    refine opd_add ?_
    have hci : (((ts.take i).filter fun x => MR.commute p A x n).length : Int) + (if MR.commute p A x n = true then 1 else 0) = ((((ts.take (i + 1)).filter fun x => MR.commute p A x n).length : Nat) : Int) := by
      rw [hcs, Int.natCast_add]
      congr 1
      split <;> rfl
    rw [hci]
    refine dss_one ?_
    refine ds_if ?_
    refine dt_w ?_
    refine dw_and ?_
    refine dt_val ?_
    refine de_callB (id := "all") rfl T.g_all (by decide +kernel) ?_
    refine da_cons ?_
    refine de_df ?_
    refine df_lc (.nm 16) [("_law_y", 16)] (by kernel_rfl) rfl (dg_nm rfl rfl) ?_
    refine di_tup ?_
    refine de_var 8 rfl rfl rfl ?_
    refine ⟨_, rfl, ?_⟩
    refine lcI_map ((ms.map fun m => MR.commute p x m n).map D.bl) (by simp) (by rw [List.length_map]; omega) (fun j y z hy hz => ?_) ?_
    · obtain ⟨m2, hm2, rfl⟩ := map_get hy
      rw [map_at (map_at hm2)] at hz
      cases hz
      refine de_call f9 rfl (Nat.le_of_ble_eq_true rfl) ?_
      refine da_cons ?_
      refine de_var 10 rfl rfl rfl ?_
      refine da_cons ?_
      refine de_var 16 rfl rfl rfl ?_
      refine da_nil ?_
      exact ⟨p, n, x, m2, hp, hxs, hmsq m2 (List.mem_of_getElem? hm2), by omega, rfl, rfl⟩
    refine da_nil ?_
    refine cd_all ?_
    refine ⟨_, rfl, fun hall => ?_, fun _ => ?_⟩
    · obtain ⟨w, hw⟩ := hpoly x hfx (by rw [List.all_map] at hall; exact hall)
      refine dw_and1 ?_
      refine dt_cmp (nomark _) ?_
      refine de_call f10 rfl (Nat.le_of_ble_eq_true rfl) ?_
      refine da_cons ?_
      refine de_var 7 rfl rfl rfl ?_
      refine da_cons ?_
      refine de_var 10 rfl rfl rfl ?_
      refine da_nil ?_
      refine ⟨p, n, A, x, some w, hp, hA, hxs, by omega, rfl, hw, ?_⟩
      refine de_non ?_
      refine opd_isN ?_
      refine ⟨_, rfl, (fun h => by cases h), fun _ => ?_⟩
      refine dss_nil ?_
      exact ⟨_, _, rfl⟩
    · refine ⟨(fun h => by cases h), fun _ => ?_⟩
      refine dss_nil ?_
      exact ⟨_, _, rfl⟩
  · rintro Γ ⟨e10, e15, rfl⟩
    rw [List.length_map, List.take_length]
    refine dss_cons ?_
    refine ds_set 17 rfl rfl ?_
    refine de_int ?_
    refine dss_cons ?_
    refine ds_for (.nm 16) (dg_nm rfl rfl) ?_
    refine di_tup ?_
    refine de_var 8 rfl rfl rfl ?_
    refine ⟨_, rfl, ?_⟩
    refine ⟨fun i Γ => ∃ e16, Γ = [some (.dat sd), some (.dat (.inv .nums)), some (.dat (.int (p : Nat))), some (.dat (gr p)), some (.dat (.lst R)), some (.dat (.int (s : Nat))), some (.dat (.int (n : Nat))), some (.dat (matD p A n)), some (.dat (.tup (ms.map fun m => matD p m n))), some (.dat (.lst ((MR.modM p ms).map nM))), e10, e11, e12, none, some (.dat (.int (((ts.filter fun x => MR.commute p A x n).length : Nat) : Int))), e15, e16, some (.dat (.int ((p ^ i : Nat) : Int)))], ⟨none, rfl⟩, ?_, ?_⟩
    · rintro i y Γ hi ⟨e16, rfl⟩
      refine dss_one ?_
      refine ds_set 17 rfl rfl ?_
      refine de_op ?_
      refine de_var 17 rfl rfl rfl ?_
      refine de_var 2 rfl rfl rfl ?_
      refine opd_mul (.inr (by have := hp.le; omega)) ⟨some (.dat y), ?_⟩
      rw [Nat.pow_succ, Int.natCast_mul]
      rfl
    · rintro Γ ⟨e16, rfl⟩
      refine dss_one ?_
      refine ds_ret ?_
      refine de_or ?_
      refine de_cmp (nomark _) ?_
      refine de_var 6 rfl rfl rfl ?_
      refine de_int ?_
      refine opd_gt ?_
      refine ⟨_, rfl, fun h0 => ?_, fun _ => q⟩
      have h3 : n < 3 := by have : ¬ (2 : Int) < (n : Int) := by simpa using h0
                            omega
      refine de_one ?_
      refine de_cmp (nomark _) ?_
      refine de_var 14 rfl rfl rfl ?_
      refine de_var 17 rfl rfl rfl ?_
      refine opd_eqI ?_
      rw [List.length_map, ht1 h3, hcount h3, decide_eq_true rfl]
      exact q
end SF

-- part PLw
/-! # The plain law told so that the kernel runs it faster: what is used again is brought to literals first. -/
namespace MR
section
variable {β : Type}
def nf (x : Nat) (k : Nat → β) : β := if x = 0 then k 0 else if x = 1 then k 1 else if x = 2 then k 2 else k x
theorem nf_eq (x : Nat) (k : Nat → β) : nf x k = k x := by
  unfold nf
  split
  · rename_i h; rw [h]
  · split
    · rename_i h; rw [h]
    · split
      · rename_i h; rw [h]
      · rfl
def fL : List Nat → (List Nat → β) → β
  | [], k => k []
  | x :: xs, k => nf x fun y => fL xs fun ys => k (y :: ys)
theorem fL_eq : ∀ (l : List Nat) (k : List Nat → β), fL l k = k l
  | [], _ => rfl
  | x :: xs, k => by rw [fL, nf_eq, fL_eq xs]
def fM : List (List Nat) → (List (List Nat) → β) → β
  | [], k => k []
  | x :: xs, k => fL x fun y => fM xs fun ys => k (y :: ys)
theorem fM_eq : ∀ (l : List (List Nat)) (k : List (List Nat) → β), fM l k = k l
  | [], _ => rfl
  | x :: xs, k => by rw [fM, fL_eq, fM_eq xs]
def fT : List (List (List Nat)) → (List (List (List Nat)) → β) → β
  | [], k => k []
  | x :: xs, k => fM x fun y => fT xs fun ys => k (y :: ys)
theorem fT_eq : ∀ (l : List (List (List Nat))) (k : List (List (List Nat)) → β), fT l k = k l
  | [], _ => rfl
  | x :: xs, k => by rw [fT, fM_eq, fT_eq xs]
end
/-! ### over F2: rows as numbers, bit by bit -/
def enc : List Nat → Nat
  | [] => 0
  | x :: xs => x % 2 + 2 * enc xs
theorem enc_bit : ∀ (r : List Nat) (c : Nat), (enc r).testBit c = (r.getD c 0 % 2 == 1)
  | [], c => by simp [enc]
  | x :: xs, 0 => by
    rw [Nat.testBit_zero]
    show decide ((x % 2 + 2 * enc xs) % 2 = 1) = (x % 2 == 1)
    rw [Nat.add_mul_mod_self_left, Nat.mod_mod]
    rfl
  | x :: xs, c + 1 => by
    rw [Nat.testBit_succ]
    have e : enc (x :: xs) / 2 = enc xs := by
      show (x % 2 + 2 * enc xs) / 2 = enc xs
      omega
    rw [e, enc_bit xs c]
    rfl
theorem odd_eq {x : Nat} : (x % 2 == 1) = !(x % 2 == 0) := by
  have h : x % 2 = 0 ∨ x % 2 = 1 := by omega
  rcases h with h | h <;> rw [h] <;> rfl
/-- what less does to two numbers over F2, the factor odd -/
theorem less_bit {f x y : Nat} (hf : ¬ f % 2 = 0) : (fsub 2 x (fmul 2 f y) % 2 == 1) = ((x % 2 == 1) ^^ (y % 2 == 1)) := by
  have hf1 : f % 2 = 1 := by omega
  have e : fmul 2 f y = y % 2 := by
    unfold fmul
    rw [Nat.mul_mod, hf1, Nat.one_mul, Nat.mod_mod]
  rw [e]
  unfold fsub
  have hx : x % 2 = 0 ∨ x % 2 = 1 := by omega
  have hy : y % 2 = 0 ∨ y % 2 = 1 := by omega
  rcases hx with hx | hx <;> rcases hy with hy | hy <;> rw [hx, hy] <;> simp <;> omega
theorem getD_zip {f : Nat → Nat → Nat} {r s : List Nat} (h : r.length = s.length) (h0 : f 0 0 % 2 = 0) (i : Nat) : (List.zipWith f r s).getD i 0 % 2 = f (r.getD i 0) (s.getD i 0) % 2 := by
  rw [List.getD_eq_getElem?_getD, List.getD_eq_getElem?_getD, List.getD_eq_getElem?_getD, List.getElem?_zipWith]
  by_cases hi : i < r.length
  · have hi2 : i < s.length := by omega
    rw [List.getElem?_eq_getElem hi, List.getElem?_eq_getElem hi2]
    rfl
  · rw [List.getElem?_eq_none (by omega), List.getElem?_eq_none (by omega)]
    exact h0.symm
theorem enc_less {row own : List Nat} {c : Nat} (h : row.length = own.length) : enc (less 2 row own c) = bif (enc row).testBit c then enc row ^^^ enc own else enc row := by
  rw [enc_bit]
  unfold less
  by_cases hf : row.getD c 0 % 2 = 0
  · rw [if_pos hf, odd_eq, hf]
    rfl
  · rw [if_neg hf]
    have hf1 : (row.getD c 0 % 2 == 1) = true := by
      have : row.getD c 0 % 2 = 1 := by omega
      rw [this]
      rfl
    rw [hf1]
    show _ = enc row ^^^ enc own
    apply Nat.eq_of_testBit_eq
    intro i
    rw [Nat.testBit_xor, enc_bit, enc_bit, enc_bit, getD_zip h (by unfold fsub fmul; simp)]
    exact less_bit hf
theorem enc_own {own : List Nat} {f : Nat} (hf : ¬ f % 2 = 0) : enc (own.map fun x => fmul 2 f x) = enc own := by
  have hf1 : f % 2 = 1 := by omega
  induction own with
  | nil => rfl
  | cons x xs ih =>
    show fmul 2 f x % 2 + 2 * enc (xs.map fun x => fmul 2 f x) = x % 2 + 2 * enc xs
    rw [ih]
    unfold fmul
    rw [Nat.mul_mod, hf1, Nat.one_mul, Nat.mod_mod, Nat.mod_mod]
def findB (c : Nat) : List Nat → Option (Nat × List Nat)
  | [] => none
  | r :: rs => bif r.testBit c then some (r, rs) else match findB c rs with
    | none => none
    | some (o, l) => some (o, r :: l)
def lessB (own c r : Nat) : Nat := bif r.testBit c then r ^^^ own else r
def stepB (s : List Nat × List Nat × List Nat) (c : Nat) : List Nat × List Nat × List Nat := match s with
  | (rest, found, piv) => match findB c rest with
    | none => s
    | some (own, left) => (left.map (lessB own c), found.map (lessB own c) ++ [own], piv ++ [c])
theorem findB_eq (c : Nat) : ∀ l : List (List Nat), findB c (l.map enc) = match l.findIdx? (fun r => !(r.getD c 0 % 2 == 0)) with
    | none => none
    | some i => some (enc (l.getD i []), (l.take i ++ l.drop (i + 1)).map enc)
  | [] => rfl
  | r :: rs => by
    rw [List.map_cons, findB, enc_bit, odd_eq, findB_eq c rs, List.findIdx?_cons]
    cases h : (r.getD c 0 % 2 == 0) with
    | false => rfl
    | true =>
      simp only [Bool.not_true, cond_false, Bool.false_eq_true, if_false]
      cases rs.findIdx? (fun r => !(r.getD c 0 % 2 == 0)) with
      | none => rfl
      | some i => rfl
def encS (s : List (List Nat) × List (List Nat) × List Nat) : List Nat × List Nat × List Nat := (s.1.map enc, s.2.1.map enc, s.2.2)
def allW (w : Nat) (s : List (List Nat) × List (List Nat) × List Nat) : Prop := (∀ r ∈ s.1, r.length = w) ∧ ∀ r ∈ s.2.1, r.length = w
theorem less_w {p w c : Nat} {row own : List Nat} (h : row.length = w) (h2 : own.length = w) : (less p row own c).length = w := by
  unfold less
  split
  · exact h
  · rw [List.length_zipWith]; omega
theorem idx_lt {l : List (List Nat)} {q : List Nat → Bool} {i : Nat} (h : l.findIdx? q = some i) : i < l.length ∧ q (l.getD i []) = true := by
  obtain ⟨h1, h2, _⟩ := List.findIdx?_eq_some_iff_getElem.mp h
  refine ⟨h1, ?_⟩
  rw [List.getD_eq_getElem?_getD, List.getElem?_eq_getElem h1]
  exact h2
theorem step_w {w c : Nat} {s : List (List Nat) × List (List Nat) × List Nat} (h : allW w s) : allW w (redStep 2 s c) ∧ encS (redStep 2 s c) = stepB (encS s) c := by
  have hF := findB_eq c s.1
  unfold redStep stepB
  cases hi : s.1.findIdx? (fun r => !(r.getD c 0 % 2 == 0)) with
  | none =>
    rw [hi] at hF
    refine ⟨h, ?_⟩
    show encS s = match findB c (s.1.map enc) with
      | none => encS s
      | some (own, left) => (left.map (lessB own c), (s.2.1.map enc).map (lessB own c) ++ [own], s.2.2 ++ [c])
    rw [hF]
  | some i =>
    rw [hi] at hF
    obtain ⟨hlt, hq⟩ := idx_lt hi
    have hm : s.1.getD i [] ∈ s.1 := by
      rw [List.getD_eq_getElem?_getD, List.getElem?_eq_getElem hlt]
      exact List.getElem_mem hlt
    have ho := h.1 _ hm
    have hf : ¬ (s.1.getD i []).getD c 0 % 2 = 0 := by simpa using hq
    have hown : ((s.1.getD i []).map fun x => fmul 2 ((s.1.getD i []).getD c 0) x).length = w := by rw [List.length_map, ho]
    have hin : ∀ r ∈ s.1.take i ++ s.1.drop (i + 1), r.length = w := fun r hr => by
      rcases List.mem_append.mp hr with hr | hr
      · exact h.1 r (List.mem_of_mem_take hr)
      · exact h.1 r (List.mem_of_mem_drop hr)
    have hmap : ∀ l : List (List Nat), (∀ r ∈ l, r.length = w) → (l.map fun r => less 2 r ((s.1.getD i []).map fun x => fmul 2 ((s.1.getD i []).getD c 0) x) c).map enc = (l.map enc).map (lessB (enc (s.1.getD i [])) c) := fun l hl => by
      rw [List.map_map, List.map_map]
      apply List.map_congr_left
      intro r hr
      show enc (less 2 r _ c) = lessB (enc (s.1.getD i [])) c (enc r)
      rw [enc_less (by rw [hl r hr, hown]), enc_own hf]
      rfl
    refine ⟨⟨fun r hr => ?_, fun r hr => ?_⟩, ?_⟩
    · obtain ⟨q, hq, rfl⟩ := List.mem_map.mp hr
      exact less_w (hin q hq) hown
    · rcases List.mem_append.mp hr with hr | hr
      · obtain ⟨q, hq, rfl⟩ := List.mem_map.mp hr
        exact less_w (h.2 q hq) hown
      · rw [List.mem_singleton.mp hr]; exact hown
    · show encS _ = match findB c (s.1.map enc) with
        | none => encS s
        | some (own, left) => (left.map (lessB own c), (s.2.1.map enc).map (lessB own c) ++ [own], s.2.2 ++ [c])
      rw [hF]
      have e1 := hmap _ hin
      have e2 : ((s.2.1.map fun r => less 2 r ((s.1.getD i []).map fun x => fmul 2 ((s.1.getD i []).getD c 0) x) c) ++ [(s.1.getD i []).map fun x => fmul 2 ((s.1.getD i []).getD c 0) x]).map enc = (s.2.1.map enc).map (lessB (enc (s.1.getD i [])) c) ++ [enc (s.1.getD i [])] := by
        rw [List.map_append, hmap _ h.2, List.map_cons, List.map_nil, enc_own hf]
      show (List.map enc (List.map _ (s.1.take i ++ s.1.drop (i + 1))), List.map enc (_ ++ [_]), _) = _
      rw [e1, e2]
theorem fold_w {w : Nat} (cs : List Nat) : ∀ {s : List (List Nat) × List (List Nat) × List Nat}, allW w s → allW w (cs.foldl (redStep 2) s) ∧ encS (cs.foldl (redStep 2) s) = cs.foldl stepB (encS s) := by
  induction cs with
  | nil => exact fun h => ⟨h, rfl⟩
  | cons c cs ih =>
    intro s h
    obtain ⟨h1, h2⟩ := step_w (c := c) h
    obtain ⟨h3, h4⟩ := ih h1
    exact ⟨h3, by rw [List.foldl_cons, List.foldl_cons, h4, h2]⟩
end MR

-- part PLx
/-! # Over F2 by bits: kernels, solutions, the minimal polynomial, the law's question. -/
namespace MR
def reduceB (rows : List Nat) (w : Nat) : List Nat × List Nat := ((List.range w).foldl stepB (rows, [], [])).2
theorem reduceB_eq {rows : List (List Nat)} {w : Nat} (h : ∀ r ∈ rows, r.length = w) : reduceB (rows.map enc) w = ((reduce 2 rows w).1.map enc, (reduce 2 rows w).2) := by
  obtain ⟨_, h2⟩ := fold_w (w := w) (List.range w) (s := (rows, [], [])) ⟨h, fun r hr => nomatch hr⟩
  show (((List.range w).foldl stepB (encS (rows, [], []))).2) = _
  rw [← h2]
  rfl
/-- the kernel's rows, by bits: those that end in 1 -/
def keepB (w : Nat) (q : Nat × Nat) : Bool := Nat.ble w q.2
def firstB (rows : List Nat) (w h : Nat) : Option Nat := match reduceB rows (w + h) with
  | (f, v) => ((f.zip v).find? fun q => keepB w q && q.1.testBit (w + h - 1)).map fun q => q.1
theorem lastD_drop {r : List Nat} {w h : Nat} (hl : r.length = w + h) (hh : 0 < h) : lastD (r.drop w) = r.getD (w + h - 1) 0 := by
  unfold lastD
  rw [List.length_drop, hl, List.getD_eq_getElem?_getD, List.getElem?_drop, List.getD_eq_getElem?_getD, show w + (w + h - w - 1) = w + h - 1 by omega]
theorem first_eq {w h : Nat} (hh : 0 < h) : ∀ (f : List (List Nat)) (v : List Nat), (∀ r ∈ f, r.length = w + h) →
    (firstSol 2 (((f.zip v).filter fun q => decide (w ≤ q.2)).map fun q => q.1.drop w) = none ∧ (((f.map enc).zip v).find? fun q => keepB w q && q.1.testBit (w + h - 1)) = none) ∨
    ∃ r c, firstSol 2 (((f.zip v).filter fun q => decide (w ≤ q.2)).map fun q => q.1.drop w) = some ((r.drop w).dropLast.map fun x => fmul 2 x (lastD (r.drop w))) ∧ (((f.map enc).zip v).find? fun q => keepB w q && q.1.testBit (w + h - 1)) = some (enc r, c) ∧ r ∈ f ∧ ¬ lastD (r.drop w) % 2 = 0
  | [], v, _ => .inl ⟨by simp [firstSol], by simp⟩
  | r :: f, [], _ => .inl ⟨by simp [firstSol], by simp⟩
  | r :: f, c :: v, hl => by
    have ih := first_eq hh f v fun s hs => hl s (List.mem_cons_of_mem _ hs)
    have hr := hl r (List.mem_cons_self ..)
    have hk : keepB w (enc r, c) = decide (w ≤ c) := by
      show Nat.ble w c = decide (w ≤ c)
      by_cases h : w ≤ c
      · rw [Nat.ble_eq_true_of_le h, decide_eq_true h]
      · rw [decide_eq_false h]
        cases q : Nat.ble w c with
        | false => rfl
        | true => exact absurd (Nat.le_of_ble_eq_true q) h
    rw [List.map_cons, List.zip_cons_cons, List.zip_cons_cons, List.filter_cons, List.find?_cons]
    have hb : (enc r).testBit (w + h - 1) = (lastD (r.drop w) % 2 == 1) := by rw [enc_bit, lastD_drop hr hh]
    show (firstSol 2 (List.map _ (if decide (w ≤ c) = true then _ else _)) = none ∧ _) ∨ _
    rw [hk, hb]
    by_cases hw : w ≤ c
    · rw [decide_eq_true hw]
      simp only [if_true, Bool.true_and, List.map_cons]
      by_cases hz : lastD (r.drop w) % 2 = 0
      · have e1 : (lastD (r.drop w) % 2 == 1) = false := by rw [hz]; rfl
        rw [e1]
        have e2 : ∀ K, firstSol 2 (r.drop w :: K) = firstSol 2 K := fun K => by rw [firstSol, if_pos hz]
        rw [e2]
        rcases ih with ⟨h1, h2⟩ | ⟨s, d, h1, h2, h3, h4⟩
        · exact .inl ⟨h1, h2⟩
        · exact .inr ⟨s, d, h1, h2, List.mem_cons_of_mem _ h3, h4⟩
      · have e1 : (lastD (r.drop w) % 2 == 1) = true := by
          have : lastD (r.drop w) % 2 = 1 := by omega
          rw [this]; rfl
        rw [e1]
        exact .inr ⟨r, c, by rw [firstSol, if_neg hz], rfl, List.mem_cons_self .., hz⟩
    · rw [decide_eq_false hw]
      simp only [Bool.false_eq_true, if_false, Bool.false_and]
      rcases ih with ⟨h1, h2⟩ | ⟨s, d, h1, h2, h3, h4⟩
      · exact .inl ⟨h1, h2⟩
      · exact .inr ⟨s, d, h1, h2, List.mem_cons_of_mem _ h3, h4⟩
/-- the first solution: none, or the bits of a mask -/
def bits (m w : Nat) (n : Nat) : List Nat := (List.range n).map fun i => bif m.testBit (w + i) then 1 else 0
def solB (rows : List (List Nat)) (w : Nat) : Option (List Nat) := match firstB ((wide rows.length rows).map enc) w rows.length with
  | none => none
  | some m => some (bits m w (rows.length - 1))
theorem solB_eq {rows : List (List Nat)} {w : Nat} (h : ∀ r ∈ rows, r.length = w) (hn : 0 < rows.length) : firstSol 2 (kernel 2 rows w) = solB rows w := by
  have hw := SF.wide_w (h := rows.length) h
  have hR := reduceB_eq hw
  have hl := SF.reduce_w (p := 2) hw
  unfold solB firstB kernel
  rw [hR]
  rcases first_eq (w := w) hn (reduce 2 (wide rows.length rows) (w + rows.length)).1 (reduce 2 (wide rows.length rows) (w + rows.length)).2 hl with ⟨h1, h2⟩ | ⟨r, c, h1, h2, h3, h4⟩
  · show firstSol 2 _ = _
    rw [h1]
    show none = match Option.map _ (List.find? _ _) with | none => none | some m => some (bits m w (rows.length - 1))
    rw [h2]
    rfl
  · show firstSol 2 _ = _
    rw [h1]
    show _ = match Option.map _ (List.find? _ _) with | none => none | some m => some (bits m w (rows.length - 1))
    rw [h2]
    show some _ = some (bits (enc r) w (rows.length - 1))
    congr 1
    have hrl := hl r h3
    have hlast : lastD (r.drop w) % 2 = 1 := by omega
    apply List.ext_getElem?
    intro i
    unfold bits
    rw [List.getElem?_map, List.getElem?_map]
    by_cases hi : i < rows.length - 1
    · have e1 : ((r.drop w).dropLast)[i]? = some (r.getD (w + i) 0) := by
        rw [List.dropLast_eq_take, List.getElem?_take, if_pos (by rw [List.length_drop, hrl]; omega), List.getElem?_drop]
        exact SF.at_of 0 (by omega)
      rw [e1, SF.range_at hi]
      show some (fmul 2 (r.getD (w + i) 0) (lastD (r.drop w))) = some _
      congr 1
      show fmul 2 (r.getD (w + i) 0) (lastD (r.drop w)) = bif (enc r).testBit (w + i) then 1 else 0
      rw [enc_bit]
      unfold fmul
      rw [Nat.mul_mod, hlast, Nat.mul_one, Nat.mod_mod]
      have hb : r.getD (w + i) 0 % 2 = 0 ∨ r.getD (w + i) 0 % 2 = 1 := by omega
      rcases hb with hb | hb <;> rw [hb] <;> rfl
    · rw [List.getElem?_eq_none (by rw [List.length_dropLast, List.length_drop, hrl]; omega), List.getElem?_eq_none (by simp; omega)]
      rfl
def solveB (m : List (List Nat)) (w : Nat) (v : List Nat) : Option (List Nat) := solB (m ++ [v.map (fneg 2)]) w
theorem solveB_eq {m : List (List Nat)} {w : Nat} {v : List Nat} (h : ∀ r ∈ m, r.length = w) (hv : v.length = w) : solve 2 m w v = solveB m w v := by
  unfold solve solveB
  refine solB_eq (fun r hr => ?_) (by simp)
  rcases List.mem_append.mp hr with hr | hr
  · exact h r hr
  · rw [List.mem_singleton.mp hr, List.length_map, hv]
def krylovB (a : List (List Nat)) (n : Nat) : Nat → List (List Nat) → List Nat → Option (List (List Nat) × List Nat)
  | 0, _, _ => none
  | k + 1, rows, row => match solveB rows n row with
    | some _ => some (rows, row)
    | none => fL (rowTimes 2 row a n) fun r => krylovB a n k (rows ++ [row]) r
theorem krylovB_eq {a : List (List Nat)} {n : Nat} (ha : SF.Sq n a) : ∀ (k : Nat) (rows : List (List Nat)) (row : List Nat), (∀ r ∈ rows, r.length = n) → row.length = n → krylov 2 a n k rows row = krylovB a n k rows row
  | 0, _, _, _, _ => rfl
  | k + 1, rows, row, hr, hw => by
    rw [krylov, krylovB, solveB_eq hr hw]
    cases solveB rows n row with
    | some s => rfl
    | none =>
      simp only [fL_eq]
      exact krylovB_eq ha k _ _ (fun r hm => by
        rcases List.mem_append.mp hm with hm | hm
        · exact hr r hm
        · rw [List.mem_singleton.mp hm, hw]) (SF.rowTimes_len ha.2)
def annihB (a : List (List Nat)) (n : Nat) (v : List Nat) : Option (List Nat) :=
  match krylovB a n (n + 1) [] v with
  | none => none
  | some (rows, row) => match solveB rows n row with
    | none => none
    | some w => fL (trim 2 (w.map (fneg 2) ++ [1])) fun r => some r
theorem annihB_eq {a : List (List Nat)} {n : Nat} {v : List Nat} (ha : SF.Sq n a) (hv : v.length = n) : annih 2 a n v = annihB a n v := by
  unfold annih annihB
  have e := krylovB_eq ha (n + 1) [] v (fun r hr => nomatch hr) hv
  rw [← e]
  cases hk : krylov 2 a n (n + 1) [] v with
  | none => rfl
  | some q =>
    obtain ⟨rows, row⟩ := q
    obtain ⟨h1, h2, _⟩ := SF.krylov_w ha hk (fun r hr => nomatch hr) hv
    simp only [solveB_eq h1 h2, fL_eq]
    all_goals (cases solveB rows n row <;> rfl)
def minB (a : List (List Nat)) (n : Nat) : List (List Nat) → Option (List Nat) → Option (List Nat)
  | [], t => t
  | r :: rs, t => match t with
    | none => none
    | some t => match annihB a n r with
      | none => none
      | some g => match lcm 2 t g with
        | none => none
        | some u => fL u fun u => minB a n rs (some u)
theorem minB_none (a : List (List Nat)) (n : Nat) (l : List (List Nat)) : minB a n l none = none := by cases l <;> rfl
theorem minB_eq {a : List (List Nat)} {n : Nat} (ha : SF.Sq n a) : ∀ (l : List (List Nat)) (t : Option (List Nat)), (∀ r ∈ l, r.length = n) → l.foldl (SF.mstep 2 a n) t = minB a n l t
  | [], t, _ => rfl
  | r :: l, none, _ => by
    rw [minB_none]
    exact SF.mstep_none _
  | r :: l, some t, h => by
    rw [List.foldl_cons]
    have e := annihB_eq ha (h r (List.mem_cons_self ..))
    have hl : ∀ s ∈ l, s.length = n := fun s hs => h s (List.mem_cons_of_mem _ hs)
    show l.foldl (SF.mstep 2 a n) (match annih 2 a n r with | none => none | some g => lcm 2 t g) = match annihB a n r with
      | none => none
      | some g => match lcm 2 t g with
        | none => none
        | some u => fL u fun u => minB a n l (some u)
    rw [e]
    cases annihB a n r with
    | none => exact SF.mstep_none l
    | some g =>
      show l.foldl (SF.mstep 2 a n) (lcm 2 t g) = match lcm 2 t g with
        | none => none
        | some u => fL u fun u => minB a n l (some u)
      cases lcm 2 t g with
      | none => exact SF.mstep_none l
      | some u =>
        simp only [fL_eq]
        exact minB_eq ha l (some u) hl
def pwsB (a : List (List Nat)) (n : Nat) : Option (List (List Nat)) := match minB a n (unit n) (some [1]) with
  | none => none
  | some m => fM (powers 2 a n (m.length - 1) (unit n)) fun r => some r
def fineB (n : Nat) (pw : List (List Nat)) (ms : List (List (List Nat))) (x : List (List Nat)) : Bool :=
  if ms.all fun m => commute 2 x m n then (match solB (pw ++ [x.flatten.map (fneg 2)]) (n * n) with
    | some _ => true
    | none => false) else true
def bigB (n : Nat) (a : List (List Nat)) : Bool := fM a fun a => fT (commutant 2 a n) fun ms => match pwsB a n with
  | none => false
  | some pw => (combos 2 n (modM 2 ms)).all fun x => fM x fun x => fineB n pw ms x
theorem bigB_ok {n : Nat} {a : List (List Nat)} (ha : SF.Sq n a) (h : bigB n a = true) : bigM 2 n a = true := by
  unfold bigB at h
  rw [fM_eq, fT_eq] at h
  cases hp : pwsB a n with
  | none => rw [hp] at h; cases h
  | some pw =>
    rw [hp] at h
    simp only [fM_eq] at h
    unfold bigM
    refine List.all_eq_true.mpr fun x hx => ?_
    have hf := List.all_eq_true.mp h x hx
    have hms : ∀ m ∈ modM 2 (commutant 2 a n), SF.Sq n m := SF.modM_sq fun m hm => SF.commutant_sq hm
    have hxs : SF.Sq n x := SF.combos_sq (modM 2 (commutant 2 a n)) _ hms (fun t ht => by rw [List.mem_singleton.mp ht]; exact SF.sq_zero n) x hx
    unfold fineB at hf
    unfold fine
    by_cases hc : ((commutant 2 a n).all fun m => commute 2 x m n) = true
    · rw [if_pos hc] at hf ⊢
      unfold pwsB at hp
      have em : minpoly 2 a n = minB a n (unit n) (some [1]) := minB_eq ha (unit n) (some [1]) (SF.unit_sq n).2
      unfold polyOf
      rw [em]
      cases hmb : minB a n (unit n) (some [1]) with
      | none => rw [hmb] at hp; cases hp
      | some m =>
        rw [hmb] at hp
        simp only [fM_eq] at hp
        injection hp with hp
        subst hp
        have hrw : ∀ r ∈ powers 2 a n (m.length - 1) (unit n) ++ [x.flatten.map (fneg 2)], r.length = n * n := fun r hr => by
          rcases List.mem_append.mp hr with hr | hr
          · exact SF.powers_w ha _ (SF.unit_sq n) r hr
          · rw [List.mem_singleton.mp hr, List.length_map, SF.sq_flat hxs]
        show (match some (Option.map (trim 2) (firstSol 2 (kernel 2 (powers 2 a n (m.length - 1) (unit n) ++ [x.flatten.map (fneg 2)]) (n * n)))) with
          | some (some _) => true
          | _ => false) = true
        rw [solB_eq hrw (by simp)]
        cases hs : solB (powers 2 a n (m.length - 1) (unit n) ++ [x.flatten.map (fneg 2)]) (n * n) with
        | none => rw [hs] at hf; cases hf
        | some s => rfl
    · rw [if_neg hc]
end MR

-- part HB0
set_option maxHeartbeats 0
/-! # The head: the top's run by the kernel, with what the walk asks for. -/
namespace SF
open PySem PySem.Spec PyProof.Rows L2
namespace HB
def dd (i : Nat) (x nm : Str) : He.DefD := ⟨(x, none), nm, nm, defArgs (topS i), defBody (topS i), defScope (topS i), [], []⟩
def dm (i j : Nat) (c m q : Str) (dfl : List He.Dv) : He.DefD := ⟨(c, some m), m, q, defArgs (inC i j), defBody (inC i j), defScope (inC i j), dfl, []⟩
def fnA : List He.DefD := [dd 11 "is_integer" "is_integer", dd 15 "is_small_prime" "is_small_prime", dd 22 "taken" "taken", dd 24 "trimmed" "trimmed", dd 26 "product_row" "product_row", dd 27 "division" "division",
  dd 29 "check_grounds_poly" "check_grounds", dd 32 "common_divisor" "common_divisor", dd 33 "common_multiple" "common_multiple", dd 37 "taken_rows" "taken_rows", dd 38 "row_times" "row_times", dd 41 "check_square" "check_square", dd 42 "unit" "unit",
  dd 45 "reduce_rows" "reduce_rows", dd 46 "less" "less", dd 47 "kernel_rows" "kernel_rows", dd 48 "solve" "solve", dd 50 "own_row" "own_row", dd 51 "krylov_rows" "krylov_rows", dd 52 "annihilator" "annihilator", dd 53 "minimal_polynomial" "minimal_polynomial",
  dd 55 "check_grounds_commuting" "check_grounds", dd 57 "condition_rows" "condition_rows", dd 58 "intertwiners" "intertwiners", dd 59 "commutant" "commutant", dd 60 "check_sizes" "check_sizes", dd 61 "commute" "commute", dd 62 "polynomial_of" "polynomial_of"]
def fnB : List He.DefD := [dd 64 "_law_numbers" "_law_numbers", dd 65 "_law_next" "_law_next", dd 66 "_law_rest" "_law_rest", dd 67 "_law_matrix" "_law_matrix", dd 68 "_law_times" "_law_times", dd 69 "_law_unit" "_law_unit", dd 70 "_law_pair" "_law_pair",
  dd 71 "_law_poly" "_law_poly", dd 72 "_law_product" "_law_product", dd 73 "_law_companion" "_law_companion", dd 74 "_law_blocks" "_law_blocks", dd 75 "_law_conjugated" "_law_conjugated", dd 76 "_law_chain" "_law_chain", dd 77 "_law_square" "_law_square",
  dd 78 "_law_lines" "_law_lines", dd 79 "_law_some" "_law_some", dd 80 "_law_integer" "_law_integer", dd 81 "law" "law"]
def fnC : List He.DefD := [dm 16 0 "Residue" "__init__" "Residue.__init__" [], dm 16 1 "Residue" "__eq__" "Residue.__eq__" [], dm 16 2 "Residue" "__add__" "Residue.__add__" [], dm 16 3 "Residue" "__sub__" "Residue.__sub__" [], dm 16 4 "Residue" "__mul__" "Residue.__mul__" [],
  dm 16 5 "Residue" "__neg__" "Residue.__neg__" [], dm 16 7 "Residue" "is_zero" "Residue.is_zero" [], dm 16 8 "Residue" "inverse" "Residue.inverse" [], dm 16 9 "Residue" "over" "Residue.over" [],
  dm 21 0 "Ground" "__init__" "Ground.__init__" [.int 0], dm 21 1 "Ground" "__eq__" "Ground.__eq__" [], dm 21 2 "Ground" "number" "Ground.number" [.int 1], dm 21 3 "Ground" "zero" "Ground.zero" [], dm 21 4 "Ground" "one" "Ground.one" [], dm 21 5 "Ground" "is_member" "Ground.is_member" [],
  dm 28 0 "Poly" "__init__" "Poly.__init__" [], dm 28 5 "Poly" "__mul__" "Poly.__mul__" [], dm 28 6 "Poly" "__floordiv__" "Poly.__floordiv__" [], dm 28 7 "Poly" "__mod__" "Poly.__mod__" [], dm 28 10 "Poly" "degree" "Poly.degree" [], dm 28 11 "Poly" "is_zero" "Poly.is_zero" [], dm 28 13 "Poly" "scaled" "Poly.scaled" [], dm 28 14 "Poly" "monic" "Poly.monic" [],
  dm 39 0 "Matrix" "__init__" "Matrix.__init__" [.non], dm 39 2 "Matrix" "__eq__" "Matrix.__eq__" [], dm 39 6 "Matrix" "__mul__" "Matrix.__mul__" [], dm 39 8 "Matrix" "before" "Matrix.before" []]
def fn : List He.DefD := fnA ++ fnB ++ fnC
def faA : List He.Fa := (fnA ++ fnB).map fun d => .glo d.at_.1
def faM : List He.Fa := fnC.filterMap fun d => match d.at_.2 with
  | some m => if m = "__init__" then none else some (.meth d.at_.1 m)
  | none => none
def faB : List He.Fa := [.free "isinstance", .free "int", .free "bool", .free "len", .free "range", .free "list", .free "tuple", .free "zip", .free "max", .free "min", .free "sum", .free "all", .free "abs", .int "MOST_ROWS" 8, .int "MOST_WIDTH" 64, .glo "PRIMES"]
def faC (c : Str) (fs : List Str) : List He.Fa := [.glo c, .cls c, .mkr c] ++ fs.map fun f => .noat c f
def fa : List He.Fa := faA ++ faM ++ faB ++ faC "Residue" ["p", "n"] ++ faC "Ground" ["p"] ++ faC "Poly" ["ground", "row"] ++ faC "Matrix" ["ground", "rows", "width"]
def exC (K : PySem.W.Frag) (c : Str) : Bool := He.eqO (PySem.W.findIn K (.ref (He.ga K c)) "__class__") (some (some (.builtin "object.__class__"))) && (decide (PySem.W.mroIn K (He.ga K c) (.type "object") = some true) && (PySem.W.selfFirst K (He.ga K c) && He.eqO (PySem.W.findIn K (.ref (He.ga K c)) "__ne__") (some (some (.builtin "object.__ne__")))))
def ex (K : PySem.W.Frag) : Bool := He.tupB K "PRIMES" ([2, 3, 5, 7, 11, 13, 17, 19, 23, 29, 31].map He.Dv.int) && (He.eqO (PySem.W.specialIn K (.builtin "object.__class__") "__get__") (some (some (.builtin "getset_descriptor.__get__"))) && (decide (PySem.W.takesIn K (.builtin "object.__class__") = some true) &&
  (decide (PySem.W.kitOne K (.ref (He.ga K "Residue")) (.type "int") = some false) && (exC K "Residue" && (exC K "Ground" && (exC K "Poly" && exC K "Matrix"))))))
abbrev R : PySem.W.OpenRow := PySem.W.OpenLaw.row PySem.Challenge.rw_similarforms_k36_whole_double_commutants
/-! ### what is looked at: the module's names, the functions and classes they stand for, what these name -/
def lkG (g : Addr → Option Obj) (d : Addr) (x : Str) : List Addr := match g d with
  | some ⟨_, _, .dict es _, _⟩ => (match es.toList.find? fun e => match e.key with | .str y _ => decide (y = x) | _ => false with
    | some e => He.refV e.val
    | none => [])
  | _ => []
def refs (g : Addr → Option Obj) (as : List Addr) : List Addr := as.flatMap fun a => match g a with
  | some o => He.refsD o
  | none => []
def nsOfC (g : Addr → Option Obj) (a : Addr) : List Addr := match g a with
  | some ⟨_, _, .cls cd, _⟩ => [cd.ns]
  | _ => []
def wantF : List Str := (fnA ++ fnB).map fun d => d.at_.1
def wantC : List Str := ["Residue", "Ground", "Poly", "Matrix"]
def asL (g : Addr → Option Obj) : List Addr :=
  let fs := wantF.flatMap (lkG g mainGlobals)
  let cs := wantC.flatMap (lkG g mainGlobals)
  let ps := lkG g mainGlobals "PRIMES"
  let ns := cs.flatMap (nsOfC g)
  let ms := fnC.flatMap fun d => match d.at_.2 with
    | some m => (lkG g mainGlobals d.at_.1).flatMap fun c => (nsOfC g c).flatMap fun n => lkG g n m
    | none => []
  mainGlobals :: (cs ++ ns ++ ps ++ fs ++ ms ++ refs g fs ++ refs g ms)
abbrev Al : Type := He.AlD × Bool
def obsK (K : PySem.W.Frag) : Al := (He.obsD fa fn K, ex K)
def obsL (g : Addr → Option Obj) : Al := obsK (He.frG g (asL g))
def valL : Al := (He.valD fn, true)
def hk : PySem.W.Hook where
  α := Al
  obs := fun s => obsL s.heap.get?
  val := fun _ => valL
  says := fun _ h => ∃ K : PySem.W.Frag, K.In h ∧ obsK K = valL
  of := fun _ _ e => ⟨_, He.frG_in, e⟩
  keeps := fun _ _ _ ⟨K, hK, c⟩ k => ⟨K, PySem.W.Frag.In.keeps hK k, c⟩
def ob (s : PySem.W.SharedT) : Al := obsL (HandSHeadRun.getT s)
theorem ob_eq (s : PySem.W.SharedT) : ob s = hk.obs s.abs := by
  have e : HandSHeadRun.getT s = s.abs.heap.get? := funext (HandSHeadRun.getT_eq s)
  unfold ob
  rw [e]
  rfl
def namesA : List PySem.Str := ["_wall", "Fault", "ZeroDivisor", "Malformed", "Refused", "NoText", "PIECE", "written_integer", "is_integer", "Ratio", "PRIMES", "is_small_prime", "Residue", "DIGITS", "whole_number", "read_ratio", "Ground", "taken", "trimmed", "sum_row", "product_row", "division", "Poly", "check_grounds", "check_grounds_poly", "common_divisor", "common_multiple", "MOST_ROWS", "MOST_WIDTH"]
def namesB : List PySem.Str := ["taken_rows", "row_times", "Matrix", "check_alike", "check_square", "unit", "nothing", "reduce_rows", "less", "kernel_rows", "solve", "own_row", "krylov_rows", "annihilator", "minimal_polynomial", "check_grounds_commuting", "condition_rows", "intertwiners", "commutant", "check_sizes", "commute", "polynomial_of"]
def namesC : List PySem.Str := ["_law_numbers", "_law_next", "_law_rest", "_law_matrix", "_law_times", "_law_unit", "_law_pair", "_law_poly", "_law_product", "_law_companion", "_law_blocks", "_law_conjugated", "_law_chain", "_law_square", "_law_lines", "_law_some", "_law_integer"]
def names : List PySem.Str := namesA ++ namesB ++ namesC
end HB
end SF

-- part HB
set_option maxHeartbeats 0
namespace SF.HB
open PySem PySem.Spec PyProof.Rows L2
theorem run (w : World) : HandSHeadRun.RunEqI R (PySem.W.view R.prog [0, 81]) hk ob 8000 names w := by
  unfold HandSHeadRun.RunEqI
  kernel_rfl
end SF.HB

-- part L6
set_option maxHeartbeats 4000000
/-! # From the head's facts to the defs' promises (printed by gen6.py). -/
namespace SF
open PySem PySem.Spec PyProof.Rows L2 DK
section
variable {K : PySem.W.Frag} {h : Heap} {mg : Str → Option Value}
theorem obs_split (c : HB.obsK K = HB.valL) : He.SaysD HB.fa HB.fn K ∧ HB.ex K = true := ⟨congrArg (fun z : HB.Al => z.1) c, congrArg (fun z : HB.Al => z.2) c⟩
def cAd (K : PySem.W.Frag) : Cl → Addr
  | .res => He.ga K "Residue"
  | .gr => He.ga K "Ground"
  | .pol => He.ga K "Poly"
  | .mat => He.ga K "Matrix"
def mdOf (P : Program) (w : World) (K : PySem.W.Frag) (mg : Str → Option Value) (base : Heap) : Md := ⟨P, w, K, mg, base, cAd K⟩
variable {P : Program} {w : World} {base : Heap}
theorem defAt (X : K.In h) (G : h.Ns mainGlobals mg) (c : He.SaysD HB.fa HB.fn K) (i : Nat) {x nm : Str} {n : Nat} (hd : HB.fn[i]? = some (HB.dd n x nm)) (hf : HB.fa[i]? = some (.glo x)) : DefAt (mdOf P w K mg base) x nm nm (topS n) := by
  obtain ⟨fd, F⟩ := c.def_ i (d := HB.dd n x nm) hd
  exact ⟨_, fd, F, He.glo_ok X G (c.fact i hf)⟩
theorem metAt (c : He.SaysD HB.fa HB.fn K) (cl : Cl) {cn m q : Str} {a b : Nat} (i j : Nat) (hc : cAd K cl = He.ga K cn) (hd : HB.fn[i]? = some (HB.dm a b cn m q [])) (hf : HB.fa[j]? = some (.meth cn m)) : MetAt (mdOf P w K mg base) cl m q (inC a b) := by
  obtain ⟨fd, F⟩ := c.def_ i (d := HB.dm a b cn m q []) hd
  refine ⟨_, fd, F, ?_⟩
  show Meth K (cAd K cl) m _
  rw [hc]
  exact He.meth_ok (c.fact j hf)
theorem metAtD (c : He.SaysD HB.fa HB.fn K) (cl : Cl) {cn m q : Str} {a b : Nat} {dv : He.Dv} (i j : Nat) (hc : cAd K cl = He.ga K cn) (hd : HB.fn[i]? = some (HB.dm a b cn m q [dv])) (hf : HB.fa[j]? = some (.meth cn m)) : MetAtD (mdOf P w K mg base) cl m q (inC a b) (dv.v K) := by
  obtain ⟨fd, F⟩ := c.def_ i (d := HB.dm a b cn m q [dv]) hd
  refine ⟨_, fd, F, ?_⟩
  show Meth K (cAd K cl) m _
  rw [hc]
  exact He.meth_ok (c.fact j hf)
theorem iniAt (X : K.In h) (G : h.Ns mainGlobals mg) (c : He.SaysD HB.fa HB.fn K) (cl : Cl) {cn q : Str} {a b : Nat} (i j : Nat) (hc : cAd K cl = He.ga K cn) (hd : HB.fn[i]? = some (HB.dm a b cn "__init__" q [])) (hg : HB.fa[j]? = some (.glo cn)) (hf : HB.fa[j + 2]? = some (.mkr cn)) : IniAt (mdOf P w K mg base) cl cn q (inC a b) := by
  obtain ⟨fd, F⟩ := c.def_ i (d := HB.dm a b cn "__init__" q []) hd
  refine ⟨_, fd, F, ?_, ?_⟩
  · show Mk K (cAd K cl) _
    rw [hc]
    exact He.mkr_ok (c.fact (j + 2) hf)
  · show mg cn = some (.ref (cAd K cl))
    rw [hc]
    exact He.glo_ok X G (c.fact j hg)
theorem iniAtD (X : K.In h) (G : h.Ns mainGlobals mg) (c : He.SaysD HB.fa HB.fn K) (cl : Cl) {cn q : Str} {a b : Nat} {dv : He.Dv} (i j : Nat) (hc : cAd K cl = He.ga K cn) (hd : HB.fn[i]? = some (HB.dm a b cn "__init__" q [dv])) (hg : HB.fa[j]? = some (.glo cn)) (hf : HB.fa[j + 2]? = some (.mkr cn)) : IniAtD (mdOf P w K mg base) cl cn q (inC a b) (dv.v K) := by
  obtain ⟨fd, F⟩ := c.def_ i (d := HB.dm a b cn "__init__" q [dv]) hd
  refine ⟨_, fd, F, ?_, ?_⟩
  · show Mk K (cAd K cl) _
    rw [hc]
    exact He.mkr_ok (c.fact (j + 2) hf)
  · show mg cn = some (.ref (cAd K cl))
    rw [hc]
    exact He.glo_ok X G (c.fact j hg)
theorem exC_ok {cn : Str} (h : HB.exC K cn = true) : PySem.W.findIn K (.ref (He.ga K cn)) "__class__" = some (some (.builtin "object.__class__")) ∧ PySem.W.mroIn K (He.ga K cn) (.type "object") = some true ∧ PySem.W.selfFirst K (He.ga K cn) = true ∧ PySem.W.findIn K (.ref (He.ga K cn)) "__ne__" = some (some (.builtin "object.__ne__")) := by
  obtain ⟨h1, h⟩ := He.ba h
  obtain ⟨h2, h⟩ := He.ba h
  obtain ⟨h3, h4⟩ := He.ba h
  exact ⟨He.eqO_ok h1, of_decide_eq_true h2, h3, He.eqO_ok h4⟩
theorem clsD_of (X : K.In h) (G : h.Ns mainGlobals mg) {cl : Cl} {cn : Str} (hc : cAd K cl = He.ga K cn) (g : (He.Fa.glo cn).ok K = true) (k : (He.Fa.cls cn).ok K = true) (no : ∀ f ∈ flds cl, (He.Fa.noat cn f).ok K = true) (e : HB.exC K cn = true)
    (hn : PySem.W.specialIn K (.builtin "object.__class__") "__get__" = some (some (.builtin "getset_descriptor.__get__"))) (htk : PySem.W.takesIn K (.builtin "object.__class__") = some true) : ClsD (mdOf P w K mg base) cl := by
  obtain ⟨e1, e2, e3, _⟩ := exC_ok e
  have hc' : (mdOf P w K mg base).cA cl = He.ga K cn := hc
  refine ⟨?_, fun f hf => ?_, ⟨cn, ?_⟩, ?_, hn, htk, ?_, ?_⟩
  · rw [hc']; exact He.cls_ok k
  · rw [hc']; exact He.noat_ok (no f hf)
  · rw [hc']; exact He.glo_ok X G g
  · rw [hc']; exact e1
  · rw [hc']; exact e2
  · rw [hc']; exact e3
theorem law_all (PL : Plain) (X : K.In h) (G : h.Ns mainGlobals mg) (c0 : HB.obsK K = HB.valL) : ∀ f fd, FunD K "law" "law" (defArgs s_law) (defBody s_law) (defScope s_law) [] [] f fd → FnOk P w K mg base CX0 17 f fd ["_law_script"] (spD (cAd K) 1 (pr_law K)) := by
  obtain ⟨c, e⟩ := obs_split c0
  obtain ⟨eP, e⟩ := He.ba e
  obtain ⟨e1, e⟩ := He.ba e
  obtain ⟨e2, e⟩ := He.ba e
  obtain ⟨e3, e⟩ := He.ba e
  obtain ⟨eR, e⟩ := He.ba e
  obtain ⟨eG, e⟩ := He.ba e
  obtain ⟨eO, eM⟩ := He.ba e
  have hn := He.eqO_ok e1
  have htk := of_decide_eq_true e2
  have k_res : ClsD (mdOf P w K mg base) .res := clsD_of X G (cn := "Residue") rfl (c.fact 85 (by kernel_rfl)) (c.fact 86 (by kernel_rfl)) (fun f hf => by
    have hf2 : f ∈ (["p", "n"] : List Str) := hf
    rcases List.mem_cons.mp hf2 with rfl | hf2
    · exact c.fact 88 (f := .noat "Residue" "p") (by kernel_rfl)
    rw [List.mem_singleton.mp hf2]; exact c.fact 89 (f := .noat "Residue" "n") (by kernel_rfl)) eR hn htk
  have k_gr : ClsD (mdOf P w K mg base) .gr := clsD_of X G (cn := "Ground") rfl (c.fact 90 (by kernel_rfl)) (c.fact 91 (by kernel_rfl)) (fun f hf => by
    have hf2 : f ∈ (["p"] : List Str) := hf
    rw [List.mem_singleton.mp hf2]; exact c.fact 93 (f := .noat "Ground" "p") (by kernel_rfl)) eG hn htk
  have k_pol : ClsD (mdOf P w K mg base) .pol := clsD_of X G (cn := "Poly") rfl (c.fact 94 (by kernel_rfl)) (c.fact 95 (by kernel_rfl)) (fun f hf => by
    have hf2 : f ∈ (["ground", "row"] : List Str) := hf
    rcases List.mem_cons.mp hf2 with rfl | hf2
    · exact c.fact 97 (f := .noat "Poly" "ground") (by kernel_rfl)
    rw [List.mem_singleton.mp hf2]; exact c.fact 98 (f := .noat "Poly" "row") (by kernel_rfl)) eO hn htk
  have k_mat : ClsD (mdOf P w K mg base) .mat := clsD_of X G (cn := "Matrix") rfl (c.fact 99 (by kernel_rfl)) (c.fact 100 (by kernel_rfl)) (fun f hf => by
    have hf2 : f ∈ (["ground", "rows", "width"] : List Str) := hf
    rcases List.mem_cons.mp hf2 with rfl | hf2
    · exact c.fact 102 (f := .noat "Matrix" "ground") (by kernel_rfl)
    rcases List.mem_cons.mp hf2 with rfl | hf2
    · exact c.fact 103 (f := .noat "Matrix" "rows") (by kernel_rfl)
    rw [List.mem_singleton.mp hf2]; exact c.fact 104 (f := .noat "Matrix" "width") (by kernel_rfl)) eM hn htk
  have T : Tx (mdOf P w K mg base) := {
    c4 := fun c => match c with | .res => k_res | .gr => k_gr | .pol => k_pol | .mat => k_mat
    ne := fun c => match c with | .res => (exC_ok eR).2.2.2 | .gr => (exC_ok eG).2.2.2 | .pol => (exC_ok eO).2.2.2 | .mat => (exC_ok eM).2.2.2
    res_int := of_decide_eq_true e3
    g_res := He.glo_ok X G (c.fact 85 (f := .glo "Residue") (by kernel_rfl))
    g_gr := He.glo_ok X G (c.fact 90 (f := .glo "Ground") (by kernel_rfl))
    g_pol := He.glo_ok X G (c.fact 94 (f := .glo "Poly") (by kernel_rfl))
    g_mat := He.glo_ok X G (c.fact 99 (f := .glo "Matrix") (by kernel_rfl))
    primes := ⟨_, He.glo_ok X G (c.fact 84 (f := .glo "PRIMES") (by kernel_rfl)), fun H => He.tupB_ok eP H⟩
    most_rows := He.int_ok X G (c.fact 82 (f := .int "MOST_ROWS" 8) (by kernel_rfl))
    most_width := He.int_ok X G (c.fact 83 (f := .int "MOST_WIDTH" 64) (by kernel_rfl))
    g_isi := He.free_ok X G (c.fact 69 (f := .free "isinstance") (by kernel_rfl))
    g_int := He.free_ok X G (c.fact 70 (f := .free "int") (by kernel_rfl))
    g_bool := He.free_ok X G (c.fact 71 (f := .free "bool") (by kernel_rfl))
    g_len := He.free_ok X G (c.fact 72 (f := .free "len") (by kernel_rfl))
    g_range := He.free_ok X G (c.fact 73 (f := .free "range") (by kernel_rfl))
    g_list := He.free_ok X G (c.fact 74 (f := .free "list") (by kernel_rfl))
    g_tuple := He.free_ok X G (c.fact 75 (f := .free "tuple") (by kernel_rfl))
    g_zip := He.free_ok X G (c.fact 76 (f := .free "zip") (by kernel_rfl))
    g_max := He.free_ok X G (c.fact 77 (f := .free "max") (by kernel_rfl))
    g_min := He.free_ok X G (c.fact 78 (f := .free "min") (by kernel_rfl))
    g_sum := He.free_ok X G (c.fact 79 (f := .free "sum") (by kernel_rfl))
    g_all := He.free_ok X G (c.fact 80 (f := .free "all") (by kernel_rfl))
    g_abs := He.free_ok X G (c.fact 81 (f := .free "abs") (by kernel_rfl)) }
  have r_isint := ok_isint T (defAt X G c 0 (n := 11) (x := "is_integer") (nm := "is_integer") (by kernel_rfl) (by kernel_rfl))
  have r_small := ok_small T (defAt X G c 1 (n := 15) (x := "is_small_prime") (nm := "is_small_prime") (by kernel_rfl) (by kernel_rfl)) r_isint
  have r_rinit := ok_rinit T (iniAt X G c .res (cn := "Residue") (q := "Residue.__init__") (a := 16) (b := 0) 46 85 rfl (by kernel_rfl) (by kernel_rfl) (by kernel_rfl)) r_isint r_small
  have r_req := ok_req T (metAt c .res (cn := "Residue") (m := "__eq__") (q := "Residue.__eq__") (a := 16) (b := 1) 47 46 rfl (by kernel_rfl) (by kernel_rfl))
  have r_radd := ok_radd T (metAt c .res (cn := "Residue") (m := "__add__") (q := "Residue.__add__") (a := 16) (b := 2) 48 47 rfl (by kernel_rfl) (by kernel_rfl)) r_rinit
  have r_rsub := ok_rsub T (metAt c .res (cn := "Residue") (m := "__sub__") (q := "Residue.__sub__") (a := 16) (b := 3) 49 48 rfl (by kernel_rfl) (by kernel_rfl)) r_rinit
  have r_rmul := ok_rmul T (metAt c .res (cn := "Residue") (m := "__mul__") (q := "Residue.__mul__") (a := 16) (b := 4) 50 49 rfl (by kernel_rfl) (by kernel_rfl)) r_rinit
  have r_rneg := ok_rneg T (metAt c .res (cn := "Residue") (m := "__neg__") (q := "Residue.__neg__") (a := 16) (b := 5) 51 50 rfl (by kernel_rfl) (by kernel_rfl)) r_rinit
  have r_rzero := ok_rzero T (metAt c .res (cn := "Residue") (m := "is_zero") (q := "Residue.is_zero") (a := 16) (b := 7) 52 51 rfl (by kernel_rfl) (by kernel_rfl))
  have r_rinv := ok_rinv T (metAt c .res (cn := "Residue") (m := "inverse") (q := "Residue.inverse") (a := 16) (b := 8) 53 52 rfl (by kernel_rfl) (by kernel_rfl)) r_rinit
  have r_rover := ok_rover T (metAt c .res (cn := "Residue") (m := "over") (q := "Residue.over") (a := 16) (b := 9) 54 53 rfl (by kernel_rfl) (by kernel_rfl)) r_rinv r_rmul
  have r_ginit := ok_ginit T (iniAtD X G c .gr (cn := "Ground") (q := "Ground.__init__") (a := 21) (b := 0) (dv := .int 0) 55 90 rfl (by kernel_rfl) (by kernel_rfl) (by kernel_rfl)) r_isint r_small
  have r_geq := ok_geq T (metAt c .gr (cn := "Ground") (m := "__eq__") (q := "Ground.__eq__") (a := 21) (b := 1) 56 54 rfl (by kernel_rfl) (by kernel_rfl))
  have r_gnum := ok_gnum T (metAtD c .gr (cn := "Ground") (m := "number") (q := "Ground.number") (a := 21) (b := 2) (dv := .int 1) 57 55 rfl (by kernel_rfl) (by kernel_rfl)) r_rinit r_rover
  have r_gzero := ok_gzero T (metAt c .gr (cn := "Ground") (m := "zero") (q := "Ground.zero") (a := 21) (b := 3) 58 56 rfl (by kernel_rfl) (by kernel_rfl)) r_gnum
  have r_gone := ok_gone T (metAt c .gr (cn := "Ground") (m := "one") (q := "Ground.one") (a := 21) (b := 4) 59 57 rfl (by kernel_rfl) (by kernel_rfl)) r_gnum
  have r_gmem := ok_gmem T (metAt c .gr (cn := "Ground") (m := "is_member") (q := "Ground.is_member") (a := 21) (b := 5) 60 58 rfl (by kernel_rfl) (by kernel_rfl))
  have r_taken := ok_taken T (defAt X G c 2 (n := 22) (x := "taken") (nm := "taken") (by kernel_rfl) (by kernel_rfl)) r_isint r_gnum r_gmem
  have r_trows := ok_trows T (defAt X G c 9 (n := 37) (x := "taken_rows") (nm := "taken_rows") (by kernel_rfl) (by kernel_rfl)) r_taken
  have r_rowt := ok_rowt T (defAt X G c 10 (n := 38) (x := "row_times") (nm := "row_times") (by kernel_rfl) (by kernel_rfl)) r_gzero r_rzero r_radd r_rmul
  have r_minit := ok_minit T (iniAtD X G c .mat (cn := "Matrix") (q := "Matrix.__init__") (a := 39) (b := 0) (dv := .non) 69 99 rfl (by kernel_rfl) (by kernel_rfl) (by kernel_rfl)) r_trows
  have r_meq := ok_meq T (metAt c .mat (cn := "Matrix") (m := "__eq__") (q := "Matrix.__eq__") (a := 39) (b := 2) 70 66 rfl (by kernel_rfl) (by kernel_rfl)) r_geq r_req
  have r_mmul := ok_mmul T (metAt c .mat (cn := "Matrix") (m := "__mul__") (q := "Matrix.__mul__") (a := 39) (b := 6) 71 67 rfl (by kernel_rfl) (by kernel_rfl)) r_geq r_rowt r_minit
  have r_mbef := ok_mbef T (metAt c .mat (cn := "Matrix") (m := "before") (q := "Matrix.before") (a := 39) (b := 8) 72 68 rfl (by kernel_rfl) (by kernel_rfl)) r_rowt
  have r_csq := ok_csq T (defAt X G c 11 (n := 41) (x := "check_square") (nm := "check_square") (by kernel_rfl) (by kernel_rfl))
  have r_unit := ok_unit T (defAt X G c 12 (n := 42) (x := "unit") (nm := "unit") (by kernel_rfl) (by kernel_rfl)) r_minit
  have r_less := ok_less T (defAt X G c 14 (n := 46) (x := "less") (nm := "less") (by kernel_rfl) (by kernel_rfl)) r_rzero r_rsub r_rmul
  have r_reduce := ok_reduce T (defAt X G c 13 (n := 45) (x := "reduce_rows") (nm := "reduce_rows") (by kernel_rfl) (by kernel_rfl)) r_less r_rzero r_rinv r_rmul
  have r_kernel := ok_kernel T (defAt X G c 15 (n := 47) (x := "kernel_rows") (nm := "kernel_rows") (by kernel_rfl) (by kernel_rfl)) r_reduce r_gnum
  have r_solve := ok_solve T (defAt X G c 16 (n := 48) (x := "solve") (nm := "solve") (by kernel_rfl) (by kernel_rfl)) r_kernel r_rzero r_rover r_rneg
  have r_trimmed := ok_trimmed T (defAt X G c 3 (n := 24) (x := "trimmed") (nm := "trimmed") (by kernel_rfl) (by kernel_rfl)) r_rzero
  have r_prodrow := ok_prodrow T (defAt X G c 4 (n := 26) (x := "product_row") (nm := "product_row") (by kernel_rfl) (by kernel_rfl)) r_gzero r_radd r_rmul
  have r_division := ok_division T (defAt X G c 5 (n := 27) (x := "division") (nm := "division") (by kernel_rfl) (by kernel_rfl)) r_rinv r_rsub r_rmul
  have r_pinit := ok_pinit T (iniAt X G c .pol (cn := "Poly") (q := "Poly.__init__") (a := 28) (b := 0) 61 94 rfl (by kernel_rfl) (by kernel_rfl) (by kernel_rfl)) r_taken r_trimmed
  have r_cgp := ok_cgp T (defAt X G c 6 (n := 29) (x := "check_grounds_poly") (nm := "check_grounds") (by kernel_rfl) (by kernel_rfl)) r_geq
  have r_pmul := ok_pmul T (metAt c .pol (cn := "Poly") (m := "__mul__") (q := "Poly.__mul__") (a := 28) (b := 5) 62 59 rfl (by kernel_rfl) (by kernel_rfl)) r_cgp r_prodrow r_pinit
  have r_pfdiv := ok_pfdiv T (metAt c .pol (cn := "Poly") (m := "__floordiv__") (q := "Poly.__floordiv__") (a := 28) (b := 6) 63 60 rfl (by kernel_rfl) (by kernel_rfl)) r_cgp r_division r_pinit
  have r_pmod := ok_pmod T (metAt c .pol (cn := "Poly") (m := "__mod__") (q := "Poly.__mod__") (a := 28) (b := 7) 64 61 rfl (by kernel_rfl) (by kernel_rfl)) r_cgp r_division r_pinit
  have r_pdeg := ok_pdeg T (metAt c .pol (cn := "Poly") (m := "degree") (q := "Poly.degree") (a := 28) (b := 10) 65 62 rfl (by kernel_rfl) (by kernel_rfl))
  have r_pzero := ok_pzero T (metAt c .pol (cn := "Poly") (m := "is_zero") (q := "Poly.is_zero") (a := 28) (b := 11) 66 63 rfl (by kernel_rfl) (by kernel_rfl))
  have r_pscaled := ok_pscaled T (metAt c .pol (cn := "Poly") (m := "scaled") (q := "Poly.scaled") (a := 28) (b := 13) 67 64 rfl (by kernel_rfl) (by kernel_rfl)) r_pinit r_rmul
  have r_pmonic := ok_pmonic T (metAt c .pol (cn := "Poly") (m := "monic") (q := "Poly.monic") (a := 28) (b := 14) 68 65 rfl (by kernel_rfl) (by kernel_rfl)) r_pzero r_rinv r_pscaled
  have r_gcd := ok_gcd T (defAt X G c 7 (n := 32) (x := "common_divisor") (nm := "common_divisor") (by kernel_rfl) (by kernel_rfl)) r_cgp r_pzero r_pmod r_pmonic
  have r_lcm := ok_lcm T (defAt X G c 8 (n := 33) (x := "common_multiple") (nm := "common_multiple") (by kernel_rfl) (by kernel_rfl)) r_cgp r_pzero r_pmul r_pfdiv r_gcd r_pmonic
  have r_ownrow := ok_ownrow T (defAt X G c 17 (n := 50) (x := "own_row") (nm := "own_row") (by kernel_rfl) (by kernel_rfl)) r_csq r_gmem
  have r_krylov := ok_krylov T (defAt X G c 18 (n := 51) (x := "krylov_rows") (nm := "krylov_rows") (by kernel_rfl) (by kernel_rfl)) r_solve r_minit r_mbef
  have r_annih := ok_annih T (defAt X G c 19 (n := 52) (x := "annihilator") (nm := "annihilator") (by kernel_rfl) (by kernel_rfl)) r_solve r_minit r_krylov r_ownrow r_gone r_rneg r_pinit
  have r_minpoly := ok_minpoly T (defAt X G c 20 (n := 53) (x := "minimal_polynomial") (nm := "minimal_polynomial") (by kernel_rfl) (by kernel_rfl)) r_csq r_pinit r_gone r_unit r_lcm r_annih
  have r_cgc := ok_cgc T (defAt X G c 21 (n := 55) (x := "check_grounds_commuting") (nm := "check_grounds") (by kernel_rfl) (by kernel_rfl)) r_geq r_csq
  have r_cond := ok_cond T (defAt X G c 22 (n := 57) (x := "condition_rows") (nm := "condition_rows") (by kernel_rfl) (by kernel_rfl)) r_gzero r_radd r_rsub
  have r_inter := ok_inter T (defAt X G c 23 (n := 58) (x := "intertwiners") (nm := "intertwiners") (by kernel_rfl) (by kernel_rfl)) r_cgc r_kernel r_cond r_reduce r_minit
  have r_commutant := ok_commutant T (defAt X G c 24 (n := 59) (x := "commutant") (nm := "commutant") (by kernel_rfl) (by kernel_rfl)) r_inter
  have r_csz := ok_csz T (defAt X G c 25 (n := 60) (x := "check_sizes") (nm := "check_sizes") (by kernel_rfl) (by kernel_rfl)) r_cgc
  have r_commute := ok_commute T (defAt X G c 26 (n := 61) (x := "commute") (nm := "commute") (by kernel_rfl) (by kernel_rfl)) r_csz r_mmul r_meq
  have r_polyof := ok_polyof T (defAt X G c 27 (n := 62) (x := "polynomial_of") (nm := "polynomial_of") (by kernel_rfl) (by kernel_rfl)) r_csz r_unit r_minpoly r_pdeg r_mmul r_rneg r_kernel r_rzero r_rover r_pinit
  have r_lnum := ok_lnum T (defAt X G c 28 (n := 64) (x := "_law_numbers") (nm := "_law_numbers") (by kernel_rfl) (by kernel_rfl))
  have r_lnext := ok_lnext T (defAt X G c 29 (n := 65) (x := "_law_next") (nm := "_law_next") (by kernel_rfl) (by kernel_rfl))
  have r_lrest := ok_lrest T (defAt X G c 30 (n := 66) (x := "_law_rest") (nm := "_law_rest") (by kernel_rfl) (by kernel_rfl))
  have r_lmat := ok_lmat T (defAt X G c 31 (n := 67) (x := "_law_matrix") (nm := "_law_matrix") (by kernel_rfl) (by kernel_rfl)) r_lnext
  have r_ltimes := ok_ltimes T (defAt X G c 32 (n := 68) (x := "_law_times") (nm := "_law_times") (by kernel_rfl) (by kernel_rfl)) r_lrest
  have r_lunit := ok_lunit T (defAt X G c 33 (n := 69) (x := "_law_unit") (nm := "_law_unit") (by kernel_rfl) (by kernel_rfl))
  have r_lpair := ok_lpair T (defAt X G c 34 (n := 70) (x := "_law_pair") (nm := "_law_pair") (by kernel_rfl) (by kernel_rfl)) r_lnext r_lrest r_lunit
  have r_lpoly := ok_lpoly T (defAt X G c 35 (n := 71) (x := "_law_poly") (nm := "_law_poly") (by kernel_rfl) (by kernel_rfl)) r_lnext r_lrest
  have r_lprod := ok_lprod T (defAt X G c 36 (n := 72) (x := "_law_product") (nm := "_law_product") (by kernel_rfl) (by kernel_rfl)) r_lrest
  have r_lcomp := ok_lcomp T (defAt X G c 37 (n := 73) (x := "_law_companion") (nm := "_law_companion") (by kernel_rfl) (by kernel_rfl)) r_lrest
  have r_lblocks := ok_lblocks T (defAt X G c 38 (n := 74) (x := "_law_blocks") (nm := "_law_blocks") (by kernel_rfl) (by kernel_rfl))
  have r_lconj := ok_lconj T (defAt X G c 39 (n := 75) (x := "_law_conjugated") (nm := "_law_conjugated") (by kernel_rfl) (by kernel_rfl)) r_lpair r_ltimes
  have r_lchain := ok_lchain T (defAt X G c 40 (n := 76) (x := "_law_chain") (nm := "_law_chain") (by kernel_rfl) (by kernel_rfl)) r_lnext r_lpoly r_lprod
  have r_lsquare := ok_lsquare T (defAt X G c 41 (n := 77) (x := "_law_square") (nm := "_law_square") (by kernel_rfl) (by kernel_rfl)) r_lnext r_lmat r_lblocks r_lcomp r_lchain r_lconj
  have r_llines := ok_llines T (defAt X G c 42 (n := 78) (x := "_law_lines") (nm := "_law_lines") (by kernel_rfl) (by kernel_rfl))
  have r_lsome := ok_lsome T (defAt X G c 43 (n := 79) (x := "_law_some") (nm := "_law_some") (by kernel_rfl) (by kernel_rfl)) r_lnext r_lrest r_llines
  have r_lint := ok_lint T (defAt X G c 44 (n := 80) (x := "_law_integer") (nm := "_law_integer") (by kernel_rfl) (by kernel_rfl)) r_gnum r_req
  have r_law := ok_law PL T r_lnum r_lnext r_ginit r_lsquare r_commutant r_minit r_lint r_lsome r_commute r_polyof r_req
  exact r_law
end
end SF

-- part PL2
/-! # The plain law: every matrix over a small field is tried, by the kernel. -/
namespace MR
theorem b23_0 : (((allMats 2 3).drop 0).take 32).all (fun a => bigB 3 a) = true := by decide +kernel
theorem b23_1 : (((allMats 2 3).drop 32).take 32).all (fun a => bigB 3 a) = true := by decide +kernel
theorem b23_2 : (((allMats 2 3).drop 64).take 32).all (fun a => bigB 3 a) = true := by decide +kernel
theorem b23_3 : (((allMats 2 3).drop 96).take 32).all (fun a => bigB 3 a) = true := by decide +kernel
theorem b23_4 : (((allMats 2 3).drop 128).take 32).all (fun a => bigB 3 a) = true := by decide +kernel
theorem b23_5 : (((allMats 2 3).drop 160).take 32).all (fun a => bigB 3 a) = true := by decide +kernel
theorem b23_6 : (((allMats 2 3).drop 192).take 32).all (fun a => bigB 3 a) = true := by decide +kernel
theorem b23_7 : (((allMats 2 3).drop 224).take 32).all (fun a => bigB 3 a) = true := by decide +kernel
theorem b23_8 : (((allMats 2 3).drop 256).take 32).all (fun a => bigB 3 a) = true := by decide +kernel
theorem b23_9 : (((allMats 2 3).drop 288).take 32).all (fun a => bigB 3 a) = true := by decide +kernel
theorem b23_10 : (((allMats 2 3).drop 320).take 32).all (fun a => bigB 3 a) = true := by decide +kernel
theorem b23_11 : (((allMats 2 3).drop 352).take 32).all (fun a => bigB 3 a) = true := by decide +kernel
theorem b23_12 : (((allMats 2 3).drop 384).take 32).all (fun a => bigB 3 a) = true := by decide +kernel
theorem b23_13 : (((allMats 2 3).drop 416).take 32).all (fun a => bigB 3 a) = true := by decide +kernel
theorem b23_14 : (((allMats 2 3).drop 448).take 32).all (fun a => bigB 3 a) = true := by decide +kernel
theorem b23_15 : (((allMats 2 3).drop 480).take 32).all (fun a => bigB 3 a) = true := by decide +kernel
theorem s32_0 : (((allMats 3 2).drop 0).take 27).all (fun a => small 3 2 a) = true := by decide +kernel
theorem s32_1 : (((allMats 3 2).drop 27).take 27).all (fun a => small 3 2 a) = true := by decide +kernel
theorem s32_2 : (((allMats 3 2).drop 54).take 27).all (fun a => small 3 2 a) = true := by decide +kernel
theorem s22 : (allMats 2 2).all (fun a => small 2 2 a) = true := by decide +kernel
theorem s21 : (allMats 2 1).all (fun a => small 2 1 a) = true := by decide +kernel
theorem s31 : (allMats 3 1).all (fun a => small 3 1 a) = true := by decide +kernel
theorem chunk {α : Type} (f : α → Bool) (l : List α) (k a : Nat) (h : ((l.drop a).take k).all f = true) (x : α) (i : Nat) (hx : l[i]? = some x) (h1 : a ≤ i) (h2 : i < a + k) : f x = true := by
  refine List.all_eq_true.mp h x (List.mem_of_getElem? (i := i - a) ?_)
  rw [List.getElem?_take, if_pos (by omega), List.getElem?_drop, show a + (i - a) = i by omega]
  exact hx
theorem len23 : (allMats 2 3).length = 512 := by decide +kernel
theorem len32 : (allMats 3 2).length = 81 := by decide +kernel
theorem b23 (a : List (List Nat)) (h : a ∈ allMats 2 3) : bigM 2 3 a = true := by
  refine bigB_ok (SF.allMats_sq h) ?_
  obtain ⟨i, hi⟩ := List.mem_iff_getElem?.mp h
  have hl : i < 512 := by rw [← len23]; exact (List.getElem?_eq_some_iff.mp hi).1
  by_cases c0 : i < 32
  · exact chunk _ _ 32 0 b23_0 a i hi (by omega) (by omega)
  by_cases c1 : i < 64
  · exact chunk _ _ 32 32 b23_1 a i hi (by omega) (by omega)
  by_cases c2 : i < 96
  · exact chunk _ _ 32 64 b23_2 a i hi (by omega) (by omega)
  by_cases c3 : i < 128
  · exact chunk _ _ 32 96 b23_3 a i hi (by omega) (by omega)
  by_cases c4 : i < 160
  · exact chunk _ _ 32 128 b23_4 a i hi (by omega) (by omega)
  by_cases c5 : i < 192
  · exact chunk _ _ 32 160 b23_5 a i hi (by omega) (by omega)
  by_cases c6 : i < 224
  · exact chunk _ _ 32 192 b23_6 a i hi (by omega) (by omega)
  by_cases c7 : i < 256
  · exact chunk _ _ 32 224 b23_7 a i hi (by omega) (by omega)
  by_cases c8 : i < 288
  · exact chunk _ _ 32 256 b23_8 a i hi (by omega) (by omega)
  by_cases c9 : i < 320
  · exact chunk _ _ 32 288 b23_9 a i hi (by omega) (by omega)
  by_cases c10 : i < 352
  · exact chunk _ _ 32 320 b23_10 a i hi (by omega) (by omega)
  by_cases c11 : i < 384
  · exact chunk _ _ 32 352 b23_11 a i hi (by omega) (by omega)
  by_cases c12 : i < 416
  · exact chunk _ _ 32 384 b23_12 a i hi (by omega) (by omega)
  by_cases c13 : i < 448
  · exact chunk _ _ 32 416 b23_13 a i hi (by omega) (by omega)
  by_cases c14 : i < 480
  · exact chunk _ _ 32 448 b23_14 a i hi (by omega) (by omega)
  exact chunk _ _ 32 480 b23_15 a i hi (by omega) (by omega)
theorem s32 (a : List (List Nat)) (h : a ∈ allMats 3 2) : small 3 2 a = true := by
  obtain ⟨i, hi⟩ := List.mem_iff_getElem?.mp h
  have hl : i < 81 := by rw [← len32]; exact (List.getElem?_eq_some_iff.mp hi).1
  by_cases c0 : i < 27
  · exact chunk _ _ 27 0 s32_0 a i hi (by omega) (by omega)
  by_cases c1 : i < 54
  · exact chunk _ _ 27 27 s32_1 a i hi (by omega) (by omega)
  exact chunk _ _ 27 54 s32_2 a i hi (by omega) (by omega)
theorem plainLaw (p n : Nat) (a : List (List Nat)) (hp : p = 2 ∨ p = 3) (h1 : 1 ≤ n) (hn : n ≤ 2 ∨ (n = 3 ∧ p = 2)) (ha : a ∈ allMats p n) : (n < 3 → small p n a = true) ∧ (n = 3 → bigM p n a = true) := by
  have hc : n = 1 ∨ n = 2 ∨ (n = 3 ∧ p = 2) := by omega
  rcases hc with rfl | rfl | ⟨rfl, rfl⟩
  · refine ⟨fun _ => ?_, fun h => by omega⟩
    rcases hp with rfl | rfl
    · exact List.all_eq_true.mp s21 a ha
    · exact List.all_eq_true.mp s31 a ha
  · refine ⟨fun _ => ?_, fun h => by omega⟩
    rcases hp with rfl | rfl
    · exact List.all_eq_true.mp s22 a ha
    · exact s32 a ha
  · exact ⟨fun h => by omega, fun _ => b23 a ha⟩
end MR

-- part L7
set_option maxHeartbeats 0
/-! # The end. -/
namespace SF
open PySem PySem.Spec PyProof.Rows L2 DK
theorem plain_ok : Plain := fun p n a hp h1 hn ha => MR.plainLaw p n a hp h1 hn ha
/-- at the law's call: the script is frozen, or stands from the start -/
theorem script_ask {K : PySem.W.Frag} {cA : Cl → Addr} {H : Hp} {a : Addr} {ns : List Int} (hn : ns.length ≤ 63) (hO : Only H) (hS : SqL K H a (ns.map V.int)) : spD cA 1 (pr_law K) [.ref a] H (fun v _ => v = .bl true) fun _ _ _ => False := by
  rcases hS with (h | ⟨o, h⟩) | h
  · rcases hO a with e | ⟨o, xs, e⟩
    · rw [e] at h; cases h
    · rw [e] at h; cases h
  · let G : Gh := fun b => if b = a then some (.fix (.frz o (.lst (ns.map V.int)))) else none
    have hG : G a = some (.fix (.frz o (.lst (ns.map V.int)))) := if_pos rfl
    refine ⟨G, [.frl ns], fun d => d = .bl true, fun b g e => ?_, .one (.frl hG), rfl, ⟨ns, _, rfl, .inl rfl, hn, rfl⟩, fun v d G' H' _ r p => ?_⟩
    · have eb : b = a := by
        by_cases n : b = a
        · exact n
        · have e' : (if b = a then some (GO.fix (.frz o (.lst (ns.map V.int)))) else none) = some g := e
          rw [if_neg n] at e'
          cases e'
      subst eb
      rw [hG] at e
      cases e
      exact h
    · subst p
      cases r
      rfl
  · refine ⟨fun _ => none, [.adr a], fun d => d = .bl true, (fun b g e => nomatch e), .one (.adr a), rfl, ⟨ns, _, rfl, .inr ⟨a, rfl, fun H => .inr h⟩, hn, rfl⟩, fun v d G' H' _ r p => ?_⟩
    subst p
    cases r
    rfl
end SF
open PySem PySem.W PySem.Calls PyProof.Rows
theorem PySem.Challenge.cw_similarforms_k36_whole_double_commutants_holds : PySem.Challenge.rw_similarforms_k36_whole_double_commutants.Holds := by
  w_on; o_law
  refine HandSHeadRun.head_imp (r := OpenLaw.row PySem.Challenge.rw_similarforms_k36_whole_double_commutants) (q := view (OpenLaw.row PySem.Challenge.rw_similarforms_k36_whole_double_commutants).prog [0, 81]) (H := SF.HB.hk) (ob := SF.HB.ob) (M := 8000) (loose := SF.HB.names)
    (d := HandSHeadRun.topDef (OpenLaw.row PySem.Challenge.rw_similarforms_k36_whole_double_commutants).prog 81) (kwd := []) SF.HB.ob_eq SF.HB.run
    (by kernel_rfl) (by kernel_rfl) (by kernel_rfl) (by rfl) (by first | assumption | decide +kernel) (by decide +kernel) ⟨rfl, rfl, rfl, rfl, rfl, by decide +kernel⟩ ?hw ?hc
  case hw => w_witness2
  case hc =>
    refine L2.walk_ofE (l := PySem.Challenge.rw_similarforms_k36_whole_double_commutants) (n := 63) (k := 17) (x := "_law_script") (CX := L2.CX0) rfl (by decide) (by kernel_rfl) ⟨rfl, by decide, by decide⟩ ?F (fun _ _ _ _ z => z)
    intro w mg fa h Y G hmg0
    obtain ⟨K, KX, c⟩ := Y
    have hmg : mg ("law" : PySem.Str) = some (.ref fa) := by
      have e : (HandSHeadRun.topDef (OpenLaw.row PySem.Challenge.rw_similarforms_k36_whole_double_commutants).prog 81).name = ("law" : PySem.Str) := by kernel_rfl
      rw [← e]
      exact hmg0
    have cc := SF.obs_split c
    have hd := He.glo_ok KX G (cc.1.fact 45 (f := .glo "law") (by kernel_rfl))
    obtain ⟨fd, F⟩ := cc.1.def_ 45 (d := SF.HB.dd 81 "law" "law") (by kernel_rfl)
    have ef := hmg.symm.trans hd
    cases ef
    have b := L2.FunD.bindsA (ps := ["_law_script"]) F fun _ _ _ _ _ _ us hl => match us, hl with | [_], _ => rfl
    exact ⟨K, fd, _, KX, fun s v => b s [v] rfl, fun H a ns hl hO hS => SF.script_ask hl hO hS, fun base _ _ => SF.law_all SF.plain_ok KX G c _ fd F⟩
