import PyProof.Rows.All
import Wide.All
import OpenK.AllK
import Wide.FinOn
import HandS.ForMost
import HandS.WordsExc
import HandS.ExcInit
import HandS.IsInst
import HandS.WideBits
import HandS.TupAny
import HandS.Gcd
import HandS.Nested
import HandS.Flow
import HandS.Star
import HandS.Zip
import HandS.Walk
import HandS.Style
import HandS.RevRange
import HandS.ExcSuper
import KE.KExcSuper
import HandS.ExcOwn
import HandS.ExcIs
import HandS.TryOnly
import HandS.ExcField
import HandS.EndTab
import HandS.Defaults
import PyProof.ReprRoads
import HandS.HeadHook4
import HandS.HeadWalk
import HandS.Head0
import HandS.Head1
import HandS.Head2
import KE.GoesEnum
import KE.GoesZip
import HandS.TupMul
import HandS.MakeKwOnly
import KE.KStateDown
import HandS.Head3
import PySem.Challenge.RW_askedatonce_k00_errors_of_questions_at_o
section
set_option Elab.async false
set_option linter.all false
set_option maxRecDepth 100000
set_option maxHeartbeats 4000000
/-! VLG: promises that know that no repr is under way (A.guards = some []): FnG beside the layer's FnOk; its calls, its defs, the law's end. -/
namespace VL
open PySem PySem.Spec PyProof.Rows L2

/-- as FnOk, where no container's repr is under way -/
structure FnG (P : Program) (w : World) (K : PySem.W.Frag) (mg : Str → Option Value) (base : Heap) (CX : CXT) (k : Nat) (f : Addr) (fd : FuncData) (ps : List Str) (sp : Sp) : Prop where
  len : ∀ vs H Q E, sp vs H Q E → vs.length = ps.length
  go : ∀ A, Room k A → A.guards = some [] → ∀ outer s H args us vs Q E, Env0 P w K mg base A outer s H → BindsTo s fd args (ps.zip us) → Vals vs us → sp vs H Q E → codeAny (model P w) A (.call (.ref f) args) (CR CX outer P w H s Q E) s
section
variable {P : Program} {w : World} {K : PySem.W.Frag} {mg : Str → Option Value} {base : Heap} {CX : CXT}
theorem g_of {k : Nat} {f : Addr} {fd : FuncData} {ps : List Str} {sp : Sp} (F : FnOk P w K mg base CX k f fd ps sp) : FnG P w K mg base CX k f fd ps sp :=
  ⟨F.len, fun A hr _ outer s H args us vs Q E e b v q => F.run A outer s H args us vs Q E hr e b v q⟩
theorem FnG.mono {j k : Nat} {f : Addr} {fd : FuncData} {ps : List Str} {sp : Sp} (F : FnG P w K mg base CX j f fd ps sp) (h : j ≤ k) : FnG P w K mg base CX k f fd ps sp :=
  ⟨F.len, fun A hr => F.go A (hr.mono h)⟩
end
section
variable {X : Cx} {CX : CXT} {k : Nat} {f C : Addr} {fd : FuncData} {ps : List Str} {sp : Sp} {dvs : List V} {ds : List Value} {E : XK} {x m : Str} {p pos apos : Pos} {e o : Expr} {es : List Expr} {ta : TE} {t : TA}
theorem go_fn {pins : List (Addr × Obj)} {σ : L2.St} {H : Hp} {s : Shared} {Q : VK} {us : List Value} {vs : List V} (F : FnG X.prog X.w X.K X.mg X.base CX k f fd ps sp) (hr : Room k X.A) (gd : X.A.guards = some []) (hb : Binds X.K fd ps ds) (hd : Vals dvs ds) (hx : Passes CX X E)
    (I : Inv X pins σ H s) (rv : Vals vs us) (q : sp (vs ++ dvs) H Q E) : wpAny (model X.prog X.w) X.A (call (.ref f) us) (EP X pins σ Q) X.xe s := by
  have both : Vals (vs ++ dvs) (us ++ ds) := rv.append hd
  have many : (us ++ ds).length = ps.length := both.length.symm.trans (F.len _ _ _ _ q)
  have bind := hb s us I.kIn many
  have main := F.go X.A hr gd X.stack s H ⟨us, []⟩ (us ++ ds) (vs ++ dvs) Q E I.env0 bind both q
  refine wpAny_call (codeAny_mono main fun res s' ends => ?_)
  match res, ends with
  | .error er, ends => exact hx pins σ H s er s' I ends
  | .ok (.ret _), ends => exact I.after ends
  | .ok .next, ends => exact ends.elim
  | .ok .brk, ends => exact ends.elim
  | .ok .cont, ends => exact ends.elim
theorem pg_call (F : FnG X.prog X.w X.K X.mg X.base CX k f fd ps sp) (hr : Room k X.A) (gd : X.A.guards = some []) (hg : Gl X x) (hm : X.mg x = some (.ref f)) (hk : PySem.W.keepIn X.K (.ref f) = true) (hb : Binds X.K fd ps ds) (hd : Vals dvs ds) (hx : Passes CX X E)
    (ha : PA X (e :: es) t) (hdb : (x == ("__debug__" : Str)) = false := by decide) (st : starEach (e :: es) X.env = (false, eval e X.env) :: starEach es X.env := by rfl) (pl : (backTo pos (starEach es X.env)).any (·.1) = false := by rfl) :
    PE X (.Call (.Name x p) (e :: es) [] pos) (tCall sp dvs E t) := ⟨fun pins s σ H Q I h => wpAny_Call_Name_kw (ld_glob I hg hm (PySem.W.callWith_K (h₀ := X.base) I.ok.mod.kin hk (wpAny_mono (ha.run pos pins s σ H _ I h) (fun us s1 hq => by
      obtain ⟨vs, H1, I1, rv, q⟩ := hq
      exact ⟨I1.kIn, go_fn F hr gd hb hd hx I1 rv q⟩) fun _ _ z => z) st pl) hdb)⟩
theorem pg_call0 (F : FnG X.prog X.w X.K X.mg X.base CX k f fd ps sp) (hr : Room k X.A) (gd : X.A.guards = some []) (hg : Gl X x) (hm : X.mg x = some (.ref f)) (hk : PySem.W.keepIn X.K (.ref f) = true) (hb : Binds X.K fd ps ds) (hd : Vals dvs ds) (hx : Passes CX X E)
    (hdb : (x == ("__debug__" : Str)) = false := by decide) : PE X (.Call (.Name x p) [] [] pos) (tCall sp dvs E tNil) :=
  ⟨fun pins s σ H Q I h => wpAny_Call_Name_kw (ld_glob I hg hm (PySem.W.callWith_K0 I.kIn hk (go_fn (us := []) (vs := []) F hr gd hb hd hx I .nil h)) hdb)⟩
end
section
variable {P : Program} {w : World} {K : PySem.W.Frag} {mg : Str → Option Value} {base : Heap} {CX : CXT}
/-- a def as it stands behind the top, whatever its defaults -/
structure FunV (K : PySem.W.Frag) (x qual : Str) (st : Stmt) (f : Addr) (fd : FuncData) : Prop where
  ex : ∃ (oc : Value) (od : Option Addr) (dV kV doc pm : Value) (an : Option Addr) (cdv ct : Value) (osl : Array (Option Value)),
    fd = PySem.W.fnOf x qual (defArgs st) (defBody st) (defScope st) dV kV doc pm an cdv ct ∧ K.lookup f = some ⟨oc, od, .func fd, osl⟩ ∧ PySem.W.codeIn K cdv qual = true
/-- a def of the text: its body under no repr -/
theorem g_def {x qual : Str} {st : Stmt} {f : Addr} {fd : FuncData} {N ps : List Str} {k : Nat} {sp : Sp} (F : FunV K x qual st f fd) (S : FnScope N ps (defScope st)) (len : ∀ vs H Q E, sp vs H Q E → vs.length = ps.length)
    (hbody : ∀ (cdv : Value) (A : Around) (outer : List PySem.Env) (s : Shared) (H : Hp) (vs : List V) (Q : VK) (E : XK), fd.code = cdv → Room k (A.deeper (envOfC qual (defScope st) s.heap.objs.size f cdv)) → A.guards = some [] → sp vs H Q E →
      ∃ t, PSs (cxOf CX P w K mg base N qual (defScope st) f cdv A outer s H E) (defBody st) t ∧ t { nx := fun _ H' => Q .non H', rt := Q } (L2.start N vs) H) : FnG P w K mg base CX (k + 1) f fd ps sp := by
  obtain ⟨oc, od, dV, kV, doc, pm, an, cdv, ct, osl, rfl, lk, hcd⟩ := F.ex
  refine ⟨len, fun A hr gd outer s H args us vs Q E e0 bd rv q => ?_⟩
  have KX : K.In s.heap := e0.mod.kin.keeps fun b o z => (e0.bs b o z).1
  have kinds : ∀ y ∈ ps.zip us, (defScope st).names.lookup y.1 = some .local ∨ ((defScope st).names.lookup y.1 = some .cell ∧ ((cellsFrom (s.heap.objs.size + 1) (defScope st).names []).lookup y.1).isSome = true) := by
    intro y hy
    rcases S.par y.1 (List.of_mem_zip (show (y.1, y.2) ∈ ps.zip us from hy)).1 with z | z
    · exact Or.inl z
    · exact Or.inr ⟨z, PySem.W.cellsFrom_some _ _ _ (Or.inl z)⟩
  refine codeAny_call_function hr.depth (KX _ _ lk) rfl S.co S.gen rfl (PySem.W.codeRec_of KX hcd) (bd _ _ _ _ (wpAny_newFunctionEnv_cells S.kind kinds fun env he s1 made => ?_))
  subst he
  refine ⟨(e0.mod.nolimit.keeps fun b o z => (e0.bs b o z).1).keeps made.toInCall.keep, codeAny_func ?_⟩
  obtain ⟨t, ps1, reads⟩ := hbody cdv A outer s H vs Q E rfl (hr.deeper _) gd q
  have I := inv_start (CX := CX) (E := E) S hr.hd e0 (len _ _ _ _ q) rv made
  refine wpAny_mono (ps1.run [] s1 (L2.start N vs) H _ I reads) ?_ fun _ _ z => z
  intro fl s' ends
  match fl, ends with
  | .ret _, ⟨v, σ', H', J, r1, q1⟩ => exact ⟨v, H', J.os, J.bare, J.base, J.hok, r1, q1⟩
  | .next, ⟨σ', H', J, q1⟩ => exact ⟨.non, H', J.os, J.bare, J.base, J.hok, rfl, q1⟩
  | .brk, ⟨_, _, _, z⟩ => exact z.elim
  | .cont, ⟨_, _, _, z⟩ => exact z.elim
end

/-- the abstract heap that knows the script alone, locked -/
def scriptH (a : Addr) (o : Obj) (ns : List Int) : Hp := fun b => if b = a then some (.frz o (.lst (ns.map V.int))) else none
/-- the law's call behind the top -/
theorem g_law {P : Program} {w : World} {K : PySem.W.Frag} {mg mb : Str → Option Value} {k : Nat} {fa a : Addr} {fd : FuncData} {x : Str} {sp : Sp} {s₁ : Shared} {vs : List Value} {ns : List Int}
    (KX : K.In s₁.heap) (hns : s₁.heap.Ns mainGlobals mg) (hb : s₁.heap.Ns builtinsNs mb) (hbb : ∀ x : Str, x ≠ "__name__" → mb x = bootBuiltins x) (lim : s₁.heap.NoLimit) (hg : s₁.gens = #[])
    (ha : s₁.heap.get? a = some { cls := .type "list", data := .seq vs.toArray }) (hi : IntsAre vs ns) (hl : ns.length ≤ sizeLine) (hr : Room k callerA)
    (F : ∀ base : Heap, K.In base → base.Ns mainGlobals mg → FnG P w K mg base (L2.CX P w) k fa fd [x] sp) (hbind : ∀ (s : Shared) (u : Value), BindsTo s fd ⟨[u], []⟩ [(x, u)])
    (hsp : ∀ H : Hp, SqL K H a (ns.map V.int) → sp [.ref a] H (fun v _ => v = .bl true) fun _ _ _ => False) :
    codeAny (model P w) callerA (.call (.ref fa) ⟨[.ref a], []⟩) (fun r s' => r = .ok (.ret (.bool true)) ∧ OldK s₁.heap s'.heap ∧ s'.os = s₁.os ∧ AllBare s'.gens) s₁ := by
  have iv := vals_ints hi
  -- what holds over an abstract heap H that tracks at most the script
  have over : ∀ H : Hp, (∀ b u, H b = some u → b = a ∧ K.lookup a = none ∧ ∃ ob xs, u = .frz ob (.lst xs)) → SqL K H a (ns.map V.int) → HOk P w H s₁.heap →
      codeAny (model P w) callerA (.call (.ref fa) ⟨[.ref a], []⟩) (fun r s' => r = .ok (.ret (.bool true)) ∧ OldK s₁.heap s'.heap ∧ s'.os = s₁.os ∧ AllBare s'.gens) s₁ := by
    intro H only sq hok
    have still : ∀ {b : Addr} {o : Obj}, s₁.heap.get? b = some o → (∀ u, H b = some u → False) → (hidT s₁.heap H).get? b = some o := fun e n => hidT_get e (by
      cases z : H _ with
      | none => rfl
      | some u => exact (n u z).elim)
    have names : ∀ {b : Addr} {m : Str → Option Value}, s₁.heap.Ns b m → (hidT s₁.heap H).Ns b m := fun {b m} hn => by
      obtain ⟨o, es, ep, e, d, rest⟩ := hn
      refine ⟨o, es, ep, still e fun u z => ?_, d, rest⟩
      obtain ⟨rfl, _, _⟩ := only b u z
      rw [ha] at e
      cases e
      cases (show Data.seq vs.toArray _ = Data.dict es ep from d)
    have kin : K.In (hidT s₁.heap H) := fun b o e => still (KX b o e) fun u z => by
      obtain ⟨rfl, no, _⟩ := only b u z
      rw [no] at e; cases e
    have mod : Mod K mg (hidT s₁.heap H) := by
      obtain ⟨mc, c1, c2⟩ := lim
      exact ⟨kin, names hns, ⟨mb, names hb, hbb⟩, ⟨mc, names c1, c2⟩⟩
    have env : Env0 P w K mg (hidT s₁.heap H) callerA [] s₁ H := ⟨rfl, mod, fun _ _ e => of_hidT e, Nat.le_of_eq (hidT_size _ _), trivial, fun b z => (by cases z), hok, .of_eq hg⟩
    have main := (F _ kin (names hns)).go callerA hr rfl [] s₁ H ⟨[.ref a], []⟩ [.ref a] [.ref a] _ _ env (hbind s₁ (.ref a)) (.cons rfl .nil) (hsp H sq)
    refine codeAny_mono main fun res s' ends => ?_
    match res, ends with
    | .error e, ends => obtain ⟨_, _, _, _, _, _, _, _, _, _, _, _, z⟩ := ends; exact z.elim
    | .ok .next, ends => exact ends.elim
    | .ok .brk, ends => exact ends.elim
    | .ok .cont, ends => exact ends.elim
    | .ok (.ret u), ends =>
      obtain ⟨v, H', os, bare, un, hok', rv, q⟩ := ends
      have q : v = .bl true := q
      subst q
      obtain rfl : u = Value.bool true := rv
      refine ⟨rfl, OldK.of_keep fun b o e => ?_, os, bare⟩
      cases z : H b with
      | none => exact un.keep b o e z (by simp [frs]) (by simp)
      | some u =>
        obtain ⟨rfl, _, ob, xs, rfl⟩ := only b u z
        have z' := un.frzs b ob _ z
        have e1 := (hok b _ z).1
        have e2 := (hok' b _ z').1
        rw [e] at e1; cases e1
        exact e2
  cases hk : K.lookup a with
  | some o =>
    have e := KX a o hk
    rw [ha] at e; cases e
    refine over (fun _ => none) (fun b u z => by cases (show (none : Option HO) = some u from z)) (.inr ⟨_, vs.toArray, _, hk, rfl, rfl, rfl, ?_, by simpa using iv⟩) fun b u z => by cases (show (none : Option HO) = some u from z)
    rw [List.size_toArray, hi.length]; exact hl
  | none =>
    refine over (scriptH a { cls := .type "list", data := .seq vs.toArray } ns) (fun b u z => ?_) (.inl (.inr ⟨_, if_pos rfl⟩)) fun b u z => ?_
    · unfold scriptH at z
      split at z
      · rename_i e; cases z; exact ⟨e, hk, _, _, rfl⟩
      · cases z
    · unfold scriptH at z
      split at z
      · rename_i e; cases z; subst e
        exact ⟨ha, by rw [List.length_map]; exact hl, vs, _, iv, ha⟩
      · cases z
/-- the goal that k_head leaves -/
theorem g_walk {l : PySem.W.OpenLaw} {k : Nat} {q : Program} {loose : List Str} {XP : (Str → Option Value) → Heap → Prop} {YP : World → Heap → Prop} {d : DefRec} {K : Params → PySem.W.Frag} {sp : World → Sp} {x : Str}
    (hn : l.most = some 63) (hdf : d.params.defaults = []) (hr : Room k callerA) (hY : ∀ (w : World) (h : Heap), YP w h → (K w.params).In h)
    (F : ∀ (w : World) (mg : Str → Option Value) (fa : Addr) (h : Heap), (K w.params).In h → h.Ns mainGlobals mg → mg d.name = some (.ref fa) →
      ∃ fd : FuncData, (∀ (s : Shared) (u : Value), BindsTo s fd ⟨[u], []⟩ [(x, u)]) ∧ ∀ base : Heap, (K w.params).In base → base.Ns mainGlobals mg → FnG l.prog w (K w.params) mg base (L2.CX l.prog w) k fa fd [x] (sp w))
    (hsp : ∀ (w : World) (H : Hp) (a : Addr) (ns : List Int), ns.length ≤ 63 → SqL (K w.params) H a (ns.map V.int) → sp w [.ref a] H (fun v _ => v = .bl true) fun _ _ _ => False) :
    PySem.W.WalkO q loose XP YP l.row.toRowW d [] (fun f vs => PySem.call f vs) := by
  refine Att.attach_call hn hdf fun w s₀ s₁ mg mb fa o pm cd doc a vs ns G Y ho hd hcd hmg hobj hints hlen hg => ?_
  obtain ⟨fd, bd, main⟩ := F w mg fa _ (hY w _ Y) G.T.g hmg
  exact g_law (hY w _ Y) G.T.g G.T.b G.T.builtins G.T.nolimit hg hobj hints (Nat.le_trans hlen (by rw [sizeLine_eq]; decide)) hr main bd fun H sq => hsp w H a ns hlen sq
end VL
end

section
set_option Elab.async false
set_option linter.all false
set_option maxRecDepth 100000
set_option maxHeartbeats 4000000
/-! VL0: values as data (D), how the heap bears them, slots that are frozen or owned, what a reading does at data level. -/
namespace VL
open PySem L2

/-- the full names of the text's lambdas, by row and column -/
class LamN where
  tq : Nat → Nat → Str
  /-- where the tables of code objects stand -/
  tb : PySem.W.Frag → Addr → Prop
variable [LamN]
/-- a value as data, without addresses -/
inductive D where
  | non
  | bl (b : Bool)
  | int (i : Int)
  | str (s : Str)
  | lst (xs : List D)
  | tup (xs : List D)
  | frl (xs : List D)
  | dic (kvs : List (Key × D))
  | obj (n : Str) (fs : List (Str × D))
  /-- an own class, as a value -/
  | cls (n : Str)
  /-- a caught exception of an own class, as a value -/
  | exn (n : Str) (fs : List (Str × D))
  | opq (v : V)

/-- at a: an exception of the class at C, its dict at dd -/
def exV (a C dd : Addr) : HO := .ext fun h => ∃ (oe : Obj) (vs : Array Value), h.get? a = some oe ∧ oe.cls = .ref C ∧ oe.dict = some dd ∧ oe.data = .fields vs
section
variable (K : PySem.W.Frag) (mg : Str → Option Value) (H : Hp)
mutual
inductive Rep : V → D → Prop
  | non : Rep .non .non
  | bl (b : Bool) : Rep (.bl b) (.bl b)
  | int (i : Int) : Rep (.int i) (.int i)
  | str (s : Str) : Rep (.str s) (.str s)
  | lst {a : Addr} {vs : List V} {ds : List D} (h : H a = some (.lst vs)) (r : RepL vs ds) : Rep (.ref a) (.lst ds)
  | tup {a : Addr} {vs : List V} {ds : List D} (h : SqT K H a vs) (r : RepL vs ds) : Rep (.ref a) (.tup ds)
  | frl {a : Addr} {vs : List V} {ds : List D} (h : SqL K H a vs) (r : RepL vs ds) : Rep (.ref a) (.frl ds)
  | dic {a : Addr} {kvs : List (Key × V)} {ds : List (Key × D)} (h : H a = some (.dK kvs)) (r : RepK kvs ds) : Rep (.ref a) (.dic ds)
  | obj {a C dx : Addr} {n : Str} {fs : List (Str × V)} {ds : List (Str × D)} (c : mg n = some (.ref C)) (h : H a = some (.ins C dx fs)) (r : RepF fs ds) : Rep (.ref a) (.obj n ds)
  | cls {C : Addr} {n : Str} (c : mg n = some (.ref C)) : Rep (.ref C) (.cls n)
  | exn {a C dd : Addr} {n : Str} {fs : List (Str × V)} {ds : List (Str × D)} (c : mg n = some (.ref C)) (h : H a = some (exV a C dd)) (hd : H dd = some (.xd fs)) (r : RepF fs ds) : Rep (.ref a) (.exn n ds)
  | exo {a C : Addr} {n : Str} (c : mg n = some (.ref C)) (h : H a = some (L2.exo a C none)) : Rep (.ref a) (.exn n [])
  | opq (v : V) : Rep v (.opq v)
inductive RepL : List V → List D → Prop
  | nil : RepL [] []
  | cons {v : V} {vs : List V} {d : D} {ds : List D} : Rep v d → RepL vs ds → RepL (v :: vs) (d :: ds)
inductive RepK : List (Key × V) → List (Key × D) → Prop
  | nil : RepK [] []
  | cons {k : Key} {v : V} {vs : List (Key × V)} {d : D} {ds : List (Key × D)} : Rep v d → RepK vs ds → RepK ((k, v) :: vs) ((k, d) :: ds)
inductive RepF : List (Str × V) → List (Str × D) → Prop
  | nil : RepF [] []
  | cons {k : Str} {v : V} {vs : List (Str × V)} {d : D} {ds : List (Str × D)} : Rep v d → RepF vs ds → RepF ((k, v) :: vs) ((k, d) :: ds)
end
end

section
variable {K : PySem.W.Frag} {mg : Str → Option Value} {F H : Hp}
theorem same_sqT (e : Same F H) {a : Addr} {xs : List V} (h : SqT K F a xs) : SqT K H a xs := by
  rcases h with (h | ⟨o, h⟩) | h
  · exact .inl (.inl (e _ _ h))
  · exact .inl (.inr ⟨o, e _ _ h⟩)
  · exact .inr h
mutual
theorem Rep.mono (e : Same F H) : ∀ {v : V} {d : D}, Rep K mg F v d → Rep K mg H v d
  | _, _, .non => .non
  | _, _, .bl b => .bl b
  | _, _, .int i => .int i
  | _, _, .str s => .str s
  | _, _, .lst h r => .lst (e _ _ h) (RepL.mono e r)
  | _, _, .tup h r => .tup (same_sqT e h) (RepL.mono e r)
  | _, _, .frl h r => .frl (e.seq h) (RepL.mono e r)
  | _, _, .dic h r => .dic (e _ _ h) (RepK.mono e r)
  | _, _, .obj c h r => .obj c (e _ _ h) (RepF.mono e r)
  | _, _, .cls c => .cls c
  | _, _, .exn c h hd r => .exn c (e _ _ h) (e _ _ hd) (RepF.mono e r)
  | _, _, .exo c h => .exo c (e _ _ h)
  | _, _, .opq v => .opq v
theorem RepL.mono (e : Same F H) : ∀ {vs : List V} {ds : List D}, RepL K mg F vs ds → RepL K mg H vs ds
  | _, _, .nil => .nil
  | _, _, .cons r t => .cons (Rep.mono e r) (RepL.mono e t)
theorem RepK.mono (e : Same F H) : ∀ {vs : List (Key × V)} {ds : List (Key × D)}, RepK K mg F vs ds → RepK K mg H vs ds
  | _, _, .nil => .nil
  | _, _, .cons r t => .cons (Rep.mono e r) (RepK.mono e t)
theorem RepF.mono (e : Same F H) : ∀ {vs : List (Str × V)} {ds : List (Str × D)}, RepF K mg F vs ds → RepF K mg H vs ds
  | _, _, .nil => .nil
  | _, _, .cons r t => .cons (Rep.mono e r) (RepF.mono e t)
end
theorem RepL.length : ∀ {vs : List V} {ds : List D}, RepL K mg F vs ds → vs.length = ds.length
  | _, _, .nil => rfl
  | _, _, .cons _ t => congrArg (· + 1) (RepL.length t)
theorem RepL.get : ∀ {vs : List V} {ds : List D} {i : Nat} {d : D}, RepL K mg F vs ds → ds[i]? = some d → ∃ v, vs[i]? = some v ∧ Rep K mg F v d
  | _, _, _, _, .nil, h => by simp at h
  | _, _, 0, _, .cons r _, h => by
    simp at h
    subst h
    exact ⟨_, rfl, r⟩
  | _, _, i + 1, d, .cons _ t, h => by
    obtain ⟨v, a, b⟩ := RepL.get (i := i) (d := d) t (by simpa using h)
    exact ⟨v, by simpa using a, b⟩
theorem RepL.append : ∀ {vs us : List V} {ds es : List D}, RepL K mg F vs ds → RepL K mg F us es → RepL K mg F (vs ++ us) (ds ++ es)
  | _, _, _, _, .nil, s => s
  | _, _, _, _, .cons r t, s => .cons r (RepL.append t s)
theorem RepL.take : ∀ {vs : List V} {ds : List D} (n : Nat), RepL K mg F vs ds → RepL K mg F (vs.take n) (ds.take n)
  | _, _, 0, _ => .nil
  | _, _, _ + 1, .nil => .nil
  | _, _, n + 1, .cons r t => .cons r (RepL.take n t)
theorem RepL.drop : ∀ {vs : List V} {ds : List D} (n : Nat), RepL K mg F vs ds → RepL K mg F (vs.drop n) (ds.drop n)
  | _, _, 0, r => r
  | _, _, _ + 1, .nil => .nil
  | _, _, n + 1, .cons _ t => RepL.drop n t
theorem RepL.set : ∀ {vs : List V} {ds : List D} {v : V} {d : D} (i : Nat), RepL K mg F vs ds → Rep K mg F v d → RepL K mg F (vs.set i v) (ds.set i d)
  | _, _, _, _, _, .nil, _ => .nil
  | _, _, _, _, 0, .cons _ t, q => .cons q t
  | _, _, _, _, i + 1, .cons r t, q => .cons r (RepL.set i t q)
theorem RepL.eraseIdx : ∀ {vs : List V} {ds : List D} (i : Nat), RepL K mg F vs ds → RepL K mg F (vs.eraseIdx i) (ds.eraseIdx i)
  | _, _, _, .nil => .nil
  | _, _, 0, .cons _ t => t
  | _, _, i + 1, .cons r t => .cons r (RepL.eraseIdx i t)
theorem RepL.dropLast : ∀ {vs : List V} {ds : List D}, RepL K mg F vs ds → RepL K mg F vs.dropLast ds.dropLast
  | _, _, .nil => .nil
  | _, _, .cons _ .nil => .nil
  | _, _, .cons r (.cons r2 t) => .cons r (RepL.dropLast (.cons r2 t))
theorem RepL.rep {vs : List V} {ds : List D} (h : RepL K mg F vs ds) : ∀ k : Nat, RepL K mg F (List.replicate k vs).flatten (List.replicate k ds).flatten
  | 0 => .nil
  | k + 1 => by
    rw [List.replicate_succ, List.replicate_succ, List.flatten_cons, List.flatten_cons]
    exact h.append (RepL.rep h k)
theorem RepL.reverse {vs : List V} {ds : List D} (h : RepL K mg F vs ds) : RepL K mg F vs.reverse ds.reverse := by
  induction h using RepL.rec (motive_1 := fun _ _ _ => True) (motive_3 := fun _ _ _ => True) (motive_4 := fun _ _ _ => True) with
  | nil => exact .nil
  | cons r t _ ih => rw [List.reverse_cons, List.reverse_cons]; exact ih.append (.cons r .nil)
  | _ => trivial
theorem RepL.ints : ∀ {vs : List V} {ns : List Int}, RepL K mg F vs (ns.map D.int) → vs = ns.map V.int
  | _, [], .nil => rfl
  | _, _ :: _, .cons (.int i) t => by rw [List.map_cons, RepL.ints t]
theorem repL_ints : ∀ (ns : List Int), RepL K mg F (ns.map V.int) (ns.map D.int)
  | [] => .nil
  | n :: ns => .cons (.int n) (repL_ints ns)
theorem RepL.bls : ∀ {vs : List V} {ns : List Bool}, RepL K mg F vs (ns.map D.bl) → vs = ns.map V.bl
  | _, [], .nil => rfl
  | _, _ :: _, .cons (.bl i) t => by rw [List.map_cons, RepL.bls t]
theorem RepF.lookup : ∀ {vs : List (Str × V)} {ds : List (Str × D)} {f : Str} {d : D}, RepF K mg F vs ds → ds.lookup f = some d → ∃ v, vs.lookup f = some v ∧ Rep K mg F v d
  | _, _, _, _, .nil, h => by simp at h
  | _, _, f, d, .cons (k := k) r t, h => by
    rw [List.lookup_cons] at h ⊢
    by_cases e : (f == k) = true
    · rw [e] at h ⊢
      exact ⟨_, rfl, by cases h; exact r⟩
    · rw [Bool.eq_false_iff.mpr e] at h ⊢
      exact RepF.lookup t h
theorem RepF.lookup_none : ∀ {vs : List (Str × V)} {ds : List (Str × D)} {f : Str}, RepF K mg F vs ds → ds.lookup f = none → vs.lookup f = none
  | _, _, _, .nil, _ => rfl
  | _, _, f, .cons (k := k) r t, h => by
    rw [List.lookup_cons] at h ⊢
    by_cases e : (f == k) = true
    · rw [e] at h; cases h
    · rw [Bool.eq_false_iff.mpr e] at h ⊢
      exact RepF.lookup_none t h
theorem RepF.length : ∀ {vs : List (Str × V)} {ds : List (Str × D)}, RepF K mg F vs ds → vs.length = ds.length
  | _, _, .nil => rfl
  | _, _, .cons _ t => congrArg (· + 1) (RepF.length t)
def putD (f : Str) (v : D) : List (Str × D) → List (Str × D)
  | [] => [(f, v)]
  | (k, x) :: r => if k = f then (k, v) :: r else (k, x) :: putD f v r
end

/-! ### environments -/
inductive Slot where
  | fr (d : D)
  /-- an owned list of these items (l: lent by the caller) -/
  | ow (l : Bool) (ds : List D)
abbrev Env := List (Option Slot)
/-- an own exception as data: its class, its fields -/
structure Exn where
  n : Str
  fs : List (Str × D)
inductive Out (α : Type) where
  | ok (a : α) (ε : Env)
  | ex (x : Exn) (ε : Env)

/-- what is fixed while a body runs: the heap at the entry, its frozen part, the lists that the caller lends, what is wished of exceptions -/
structure Bs where
  H0 : Hp
  F0 : Hp
  mb : Addr → Prop
  E : St → XK
  lent : ∀ a, mb a → H0 a ≠ none

section
variable (K : PySem.W.Frag) (mg : Str → Option Value)
def SlotOk (B : Bs) (F H : Hp) (v : V) : Slot → Prop
  | .fr d => Rep K mg F v d
  | .ow l ds => ∃ p vs, v = .ref p ∧ F p = none ∧ H p = some (.lst vs) ∧ RepL K mg F vs ds ∧ (if l = true then B.mb p else B.H0 p = none)
def NoT (F : Hp) : Prop := ∀ a ps, F a ≠ some (.tbl ps)
/-- tables of code objects stay tables -/
def TbK [LamN] (H H' : Hp) : Prop := ∀ P, NdefX.TabN H P LamN.tq → NdefX.TabN H' P LamN.tq
def Tbs (K : PySem.W.Frag) (H : Hp) : Prop := ∀ P, LamN.tb K P → NdefX.TabN H P LamN.tq
structure OkV (B : Bs) (ε : Env) (σ : St) (F H : Hp) : Prop where
  sub : Same F H
  grow : Same B.F0 F
  frame : ∀ a, B.H0 a ≠ none → B.F0 a = none → F a = none
  keep : ∀ a o, B.H0 a = some o → ¬ B.mb a → (∀ ps, o ≠ .tbl ps) → H a = some o
  there : ∀ a, B.H0 a ≠ none → H a ≠ none
  len : ε.length = σ.length
  slot : ∀ (i : Nat) s, ε[i]? = some (some s) → ∃ v, σ[i]? = some (some v) ∧ SlotOk K mg B F H v s
  apart : ∀ (i j : Nat) l m ds es v, i ≠ j → ε[i]? = some (some (.ow l ds)) → ε[j]? = some (some (.ow m es)) → σ[i]? = some (some v) → σ[j]? ≠ some (some v)
  tab : Tbs K H
  notb : NoT F
/-- what must hold of an exception that leaves with x -/
def XPost (B : Bs) (x : Exn) (ε : Env) (F : Hp) : Prop := ∀ σ' F' H' C dd fs, OkV K mg B ε σ' F' H' → Same F F' → mg x.n = some (.ref C) → F' dd = some (.xd fs) → RepF K mg F' fs x.fs → B.E σ' (.ref C) (some dd) H'
def PostE (B : Bs) (σ : St) (F : Hp) (Q : VK) : Out D → Prop
  | .ok d ε => ∀ v F' H', OkV K mg B ε σ F' H' → Same F F' → Rep K mg F' v d → Q v H'
  | .ex x ε => XPost K mg B x ε F
def Den (B : Bs) (t : TE) (f : Env → Option (Out D)) : Prop :=
  ∀ ε σ F H Q r, OkV K mg B ε σ F H → f ε = some r → PostE K mg B σ F Q r → t σ H Q
def PostT (B : Bs) (σ : St) (F : Hp) (Q : Bool → Hp → Prop) : Out Bool → Prop
  | .ok b ε => ∀ F' H', OkV K mg B ε σ F' H' → Same F F' → Q b H'
  | .ex x ε => XPost K mg B x ε F
def DenT (B : Bs) (t : TT) (f : Env → Option (Out Bool)) : Prop :=
  ∀ ε σ F H Q r, OkV K mg B ε σ F H → f ε = some r → PostT K mg B σ F Q r → t σ H Q
/-- a new list of the items ds, laid last of all: not yet frozen -/
def PostN (B : Bs) (σ : St) (F : Hp) (Q : VK) : Out (List D) → Prop
  | .ok ds ε => ∀ p vs F' H', OkV K mg B ε σ F' H' → Same F F' → H' p = none → RepL K mg F' vs ds → Q (.ref p) (upd H' p (.lst vs))
  | .ex x ε => XPost K mg B x ε F
def DenN (B : Bs) (t : TE) (f : Env → Option (Out (List D))) : Prop :=
  ∀ ε σ F H Q r, OkV K mg B ε σ F H → f ε = some r → PostN K mg B σ F Q r → t σ H Q
/-- values in a row: each frozen, or (tainted) the list of an owned slot -/
def PostA (B : Bs) (σ : St) (F : Hp) (Q : List V → Hp → Prop) : Out (List D) → Prop
  | .ok ds ε => ∀ vs F' H', OkV K mg B ε σ F' H' → Same F F' → RepL K mg F' vs ds → Q vs H'
  | .ex x ε => XPost K mg B x ε F
def DenA (B : Bs) (t : TA) (f : Env → Option (Out (List D))) : Prop :=
  ∀ ε σ F H Q r, OkV K mg B ε σ F H → f ε = some r → PostA K mg B σ F Q r → t σ H Q
/-- the same, read at the whole heap: owned lists may stand among them -/
def PostB (B : Bs) (σ : St) (F : Hp) (Q : List V → Hp → Prop) : Out (List D) → Prop
  | .ok ds ε => ∀ vs F' H', OkV K mg B ε σ F' H' → Same F F' → RepL K mg H' vs ds → Q vs H'
  | .ex x ε => XPost K mg B x ε F
def DenB (B : Bs) (t : TA) (f : Env → Option (Out (List D))) : Prop :=
  ∀ ε σ F H Q r, OkV K mg B ε σ F H → f ε = some r → PostB K mg B σ F Q r → t σ H Q
end

section
variable {K : PySem.W.Frag} {mg : Str → Option Value} {B : Bs} {ε : Env} {σ : St} {F F' H : Hp}
theorem XPost.mono {x : Exn} (h : XPost K mg B x ε F) (e : Same F F') : XPost K mg B x ε F' := fun σ' F2 H' C dd fs o s => h σ' F2 H' C dd fs o (e.trans s)
theorem SlotOk.mono {v : V} {s : Slot} {F' H' : Hp} (h : SlotOk K mg B F H v s) (e : Same F F') (k : ∀ p vs l ds, s = .ow l ds → v = .ref p → F p = none → H p = some (.lst vs) → F' p = none ∧ H' p = some (.lst vs)) : SlotOk K mg B F' H' v s := by
  cases s with
  | fr d => exact Rep.mono e h
  | ow l ds =>
    obtain ⟨p, vs, rfl, f0, hp, r, b⟩ := h
    obtain ⟨a, c⟩ := k p vs l ds rfl rfl f0 hp
    exact ⟨p, vs, rfl, a, c, r.mono e, b⟩
theorem upd_same_of {H : Hp} {p : Addr} {o : HO} (h : H p = none) : Same H (upd H p o) := fun b u e => by
  rw [upd_ne (ne_of_none e h)]
  exact e
theorem OkV.h0 (ok : OkV K mg B ε σ F H) {p : Addr} (hp : H p = none) : B.H0 p = none := by
  cases e : B.H0 p with
  | none => rfl
  | some u => exact absurd hp (ok.there p (by rw [e]; exact fun z => nomatch z))
theorem TbK.refl (H : Hp) : TbK H H := fun _ t => t
theorem TbK.trans {H H1 H2 : Hp} (a : TbK H H1) (b : TbK H1 H2) : TbK H H2 := fun P t => b P (a P t)
theorem Tbs.trans {K : PySem.W.Frag} {H H' : Hp} (t : Tbs K H) (s : TbK H H') : Tbs K H' := fun P h => s P (t P h)
theorem TbK.of_same {H H' : Hp} (s : Same H H') : TbK H H' := fun P t => t.ext s
theorem TbK.of_ne {H H' : Hp} {p : Addr} {o : HO} (hp : H p = some o) (n1 : ∀ ps, o ≠ .tbl ps) (n2 : ∀ c q, o ≠ LamX.CodeO c q) (s : ∀ b u, b ≠ p → H b = some u → H' b = some u) : TbK H H' := fun P t => by
  obtain ⟨ps, h1, h2, h3⟩ := t
  refine ⟨ps, s _ _ (fun z => by rw [z, hp] at h1; exact n1 ps (Option.some.inj h1)) h1, h2, fun pos cv hc => ?_⟩
  obtain ⟨c, e1, e2⟩ := h3 pos cv hc
  exact ⟨c, e1, s _ _ (fun z => by rw [z, hp] at e2; exact n2 p _ (Option.some.inj e2)) e2⟩
theorem TbK.of_lst {H H' : Hp} {p : Addr} {vs : List V} (hp : H p = some (.lst vs)) (s : ∀ b u, b ≠ p → H b = some u → H' b = some u) : TbK H H' := TbK.of_ne hp (fun _ z => nomatch z) (fun c q z => by unfold LamX.CodeO at z; cases z) s
theorem NoT.upd {F : Hp} {p : Addr} {o : HO} (n : NoT F) (h : ∀ ps, o ≠ .tbl ps) : NoT (upd F p o) := fun a ps z => by
  by_cases e : a = p
  · subst e; rw [upd_same] at z; exact h ps (Option.some.inj z)
  · rw [upd_ne e] at z; exact n a ps z
/-- something new is laid that no slot holds -/
theorem OkV.laidH (ok : OkV K mg B ε σ F H) {p : Addr} (hp : H p = none) (o : HO) : OkV K mg B ε σ F (upd H p o) := by
  refine ⟨ok.sub.trans (upd_same_of hp), ok.grow, ok.frame, fun a u h1 h2 h3 => ?_, fun a h => ?_, ok.len, fun i s e => ?_, ok.apart, ok.tab.trans (TbK.of_same (upd_same_of hp)), ok.notb⟩
  · have := ok.keep a u h1 h2 h3
    rw [upd_ne (ne_of_none this hp)]; exact this
  · by_cases z : a = p
    · subst z; rw [upd_same]; exact fun z => nomatch z
    · rw [upd_ne z]; exact ok.there a h
  · obtain ⟨v, a, b⟩ := ok.slot i s e
    refine ⟨v, a, b.mono (Same.refl _) fun q vs l ds _ _ f0 hq => ?_⟩
    exact ⟨f0, by rw [upd_ne (ne_of_none hq hp)]; exact hq⟩
/-- what stands in H and belongs to no slot and not to the entry is frozen -/
theorem OkV.freeze (ok : OkV K mg B ε σ F H) {p : Addr} {o : HO} (hp : H p = some o) (h0 : B.H0 p = none) (no : ∀ (i : Nat) l ds, ε[i]? = some (some (.ow l ds)) → σ[i]? ≠ some (some (.ref p))) (fp : F p = none) (nt : ∀ ps, o ≠ .tbl ps) :
    OkV K mg B ε σ (upd F p o) H := by
  refine ⟨fun b u e => ?_, ok.grow.trans (upd_same_of fp), fun a h1 h2 => ?_, ok.keep, ok.there, ok.len, fun i s e => ?_, ok.apart, ok.tab, ok.notb.upd nt⟩
  · by_cases hb : b = p
    · subst hb; rw [upd_same] at e; rw [hp]; exact e
    · rw [upd_ne hb] at e; exact ok.sub b u e
  · have hb : a ≠ p := fun z => h1 (z ▸ h0)
    rw [upd_ne hb]; exact ok.frame a h1 h2
  · obtain ⟨v, a, b⟩ := ok.slot i s e
    refine ⟨v, a, b.mono (upd_same_of fp) fun q vs l ds es ev f0 hq => ⟨?_, hq⟩⟩
    subst es ev
    have n : q ≠ p := fun z => no i l ds e (z ▸ a)
    rw [upd_ne n]; exact f0
theorem OkV.free_slot (ok : OkV K mg B ε σ F H) {p : Addr} (hp : H p = none) : ∀ (i : Nat) l ds, ε[i]? = some (some (.ow l ds)) → σ[i]? ≠ some (some (.ref p)) := fun i l ds e z => by
  obtain ⟨v, a, q, vs, ev, _, hq, _⟩ := ok.slot i _ e
  rw [z] at a
  cases a
  cases ev
  rw [hp] at hq; cases hq
/-- a new frozen object -/
theorem OkV.laid (ok : OkV K mg B ε σ F H) {p : Addr} (hp : H p = none) (o : HO) (nt : ∀ ps, o ≠ .tbl ps := by intro _ z; cases z) : OkV K mg B ε σ (upd F p o) (upd H p o) :=
  (ok.laidH hp o).freeze upd_same (ok.h0 hp) (ok.free_slot hp) (ok.sub.free hp) nt
theorem same_laid (ok : OkV K mg B ε σ F H) {p : Addr} (hp : H p = none) (o : HO) : Same F (upd F p o) := upd_same_of (ok.sub.free hp)

theorem set_get {α : Type} {l : List α} {i j : Nat} {x y : α} (h : (l.set i x)[j]? = some y) : (j = i ∧ y = x ∧ i < l.length) ∨ (j ≠ i ∧ l[j]? = some y) := by
  by_cases e : j = i
  · subst e
    have hl : j < l.length := by
      have := (List.getElem?_eq_some_iff.mp h).1
      simpa using this
    rw [List.getElem?_set_self hl] at h
    cases h
    exact .inl ⟨rfl, rfl, hl⟩
  · rw [List.getElem?_set_ne (Ne.symm e)] at h
    exact .inr ⟨e, h⟩
/-- a frozen value into a slot -/
theorem OkV.setF (ok : OkV K mg B ε σ F H) {v : V} {d : D} (r : Rep K mg F v d) (i : Nat) : OkV K mg B (ε.set i (some (.fr d))) (σ.set i (some v)) F H := by
  refine ⟨ok.sub, ok.grow, ok.frame, ok.keep, ok.there, by simp [ok.len], fun j s e => ?_, fun j k l m ds es u hjk e1 e2 e3 e4 => ?_, ok.tab, ok.notb⟩
  · rcases set_get e with ⟨rfl, es, hl⟩ | ⟨n, e⟩
    · cases es
      exact ⟨v, by rw [List.getElem?_set_self (by rw [← ok.len]; exact hl)], r⟩
    · obtain ⟨u, a, b⟩ := ok.slot j s e
      exact ⟨u, by rw [List.getElem?_set_ne (Ne.symm n)]; exact a, b⟩
  · rcases set_get e1 with ⟨_, z, _⟩ | ⟨n1, e1⟩
    · cases z
    rcases set_get e2 with ⟨_, z, _⟩ | ⟨n2, e2⟩
    · cases z
    rw [List.getElem?_set_ne (Ne.symm n1)] at e3
    rw [List.getElem?_set_ne (Ne.symm n2)] at e4
    exact ok.apart j k l m ds es u hjk e1 e2 e3 e4
/-- a new list, owned by a slot -/
theorem OkV.setO (ok : OkV K mg B ε σ F H) {p : Addr} {vs : List V} {ds : List D} (hp : H p = none) (r : RepL K mg F vs ds) (i : Nat) : OkV K mg B (ε.set i (some (.ow false ds))) (σ.set i (some (.ref p))) F (upd H p (.lst vs)) := by
  have ok2 := ok.laidH hp (.lst vs)
  refine ⟨ok2.sub, ok.grow, ok.frame, ok2.keep, ok2.there, by simp [ok.len], fun j s e => ?_, fun j k l m es fs u hjk e1 e2 e3 e4 => ?_, ok2.tab, ok.notb⟩
  · rcases set_get e with ⟨rfl, es, hl⟩ | ⟨n, e⟩
    · cases es
      exact ⟨.ref p, by rw [List.getElem?_set_self (by rw [← ok.len]; exact hl)], p, vs, rfl, ok.sub.free hp, upd_same, r, by rw [if_neg Bool.false_ne_true]; exact ok.h0 hp⟩
    · obtain ⟨u, a, b⟩ := ok2.slot j s e
      exact ⟨u, by rw [List.getElem?_set_ne (Ne.symm n)]; exact a, b⟩
  · rcases set_get e1 with ⟨j1, z1, l1⟩ | ⟨n1, f1⟩ <;> rcases set_get e2 with ⟨j2, z2, l2⟩ | ⟨n2, f2⟩
    · exact hjk (j1.trans j2.symm)
    · subst j1
      rw [List.getElem?_set_self (by rw [← ok.len]; exact l1)] at e3
      cases e3
      rw [List.getElem?_set_ne (Ne.symm n2)] at e4
      exact ok.free_slot hp k m fs f2 e4
    · subst j2
      rw [List.getElem?_set_self (by rw [← ok.len]; exact l2)] at e4
      cases e4
      rw [List.getElem?_set_ne (Ne.symm n1)] at e3
      exact ok.free_slot hp j l es f1 e3
    · rw [List.getElem?_set_ne (Ne.symm n1)] at e3
      rw [List.getElem?_set_ne (Ne.symm n2)] at e4
      exact ok.apart j k l m es fs u hjk f1 f2 e3 e4
/-- an owned list is changed -/
theorem OkV.setM (ok : OkV K mg B ε σ F H) {i : Nat} {p : Addr} {l : Bool} {vs' : List V} {ds ds' : List D} (e0 : ε[i]? = some (some (.ow l ds))) (s0 : σ[i]? = some (some (.ref p))) (r : RepL K mg F vs' ds') : OkV K mg B (ε.set i (some (.ow l ds'))) σ F (upd H p (.lst vs')) := by
  obtain ⟨v, a, q, vs, ev, f0, hq, _, own⟩ := ok.slot i _ e0
  rw [s0] at a; cases a; cases ev
  refine ⟨fun b u e => ?_, ok.grow, ok.frame, fun b u h1 h2 h3 => ?_, fun b h => ?_, by simp [ok.len], fun j s e => ?_, fun j k l1 l2 es fs u hjk e1 e2 e3 e4 => ?_, ok.tab.trans (TbK.of_lst hq fun b u hb e => by rw [upd_ne hb]; exact e), ok.notb⟩
  · have n : b ≠ p := fun z => by rw [z, f0] at e; cases e
    rw [upd_ne n]; exact ok.sub b u e
  · have n : b ≠ p := fun z => by
      subst z
      cases l with
      | true => exact h2 own
      | false =>
        have own : B.H0 b = none := own
        rw [h1] at own; cases own
    rw [upd_ne n]; exact ok.keep b u h1 h2 h3
  · by_cases z : b = p
    · subst z; rw [upd_same]; exact fun z => nomatch z
    · rw [upd_ne z]; exact ok.there b h
  · rcases set_get e with ⟨rfl, es, hl⟩ | ⟨n, e⟩
    · cases es
      exact ⟨.ref p, s0, p, vs', rfl, f0, upd_same, r, own⟩
    · obtain ⟨u, a, b⟩ := ok.slot j s e
      refine ⟨u, a, b.mono (Same.refl _) fun q ws l' es' z1 z2 g0 hq' => ⟨g0, ?_⟩⟩
      subst z1 z2
      have nq : q ≠ p := fun z => by
        subst z
        exact ok.apart i j l l' ds es' _ (Ne.symm n) e0 e s0 a
      rw [upd_ne nq]; exact hq'
  · have g : ∀ {m : Nat} {l' : Bool} {gs : List D}, (ε.set i (some (.ow l ds')))[m]? = some (some (.ow l' gs)) → ∃ l2 hs, ε[m]? = some (some (.ow l2 hs)) := fun {m l' gs} z => by
      rcases set_get z with ⟨rfl, _, _⟩ | ⟨_, z⟩
      · exact ⟨l, ds, e0⟩
      · exact ⟨l', gs, z⟩
    obtain ⟨_, _, f1⟩ := g e1
    obtain ⟨_, _, f2⟩ := g e2
    exact ok.apart j k _ _ _ _ u hjk f1 f2 e3 e4
/-- an owned list is frozen where it stands -/
theorem OkV.frz (ok : OkV K mg B ε σ F H) {i : Nat} {p : Addr} {vs : List V} {ds : List D} (e0 : ε[i]? = some (some (.ow false ds))) (s0 : σ[i]? = some (some (.ref p))) (hp : H p = some (.lst vs)) :
    OkV K mg B (ε.set i (some (.fr (.lst ds)))) σ (upd F p (.lst vs)) H := by
  obtain ⟨v, a, q, ws, ev, f0, hq, r, h0⟩ := ok.slot i _ e0
  have h0 : B.H0 q = none := h0
  rw [s0] at a; cases a; cases ev
  rw [hp] at hq; cases hq
  have g : ∀ {m : Nat} {l : Bool} {gs : List D}, (ε.set i (some (.fr (.lst ds))))[m]? = some (some (.ow l gs)) → m ≠ i ∧ ε[m]? = some (some (.ow l gs)) := fun {m l gs} z => by
    rcases set_get z with ⟨_, y, _⟩ | ⟨n, z⟩
    · cases y
    · exact ⟨n, z⟩
  refine ⟨fun b u e => ?_, ok.grow.trans (upd_same_of f0), fun b h1 h2 => ?_, ok.keep, ok.there, by simp [ok.len], fun j s e => ?_, fun j k l1 l2 es fs u hjk e1 e2 e3 e4 => ?_, ok.tab, ok.notb.upd fun _ z => nomatch z⟩
  · by_cases hb : b = p
    · subst hb; rw [upd_same] at e; rw [hp]; exact e
    · rw [upd_ne hb] at e; exact ok.sub b u e
  · have hb : b ≠ p := fun z => h1 (z ▸ h0)
    rw [upd_ne hb]; exact ok.frame b h1 h2
  · rcases set_get e with ⟨rfl, es, hl⟩ | ⟨n, e⟩
    · cases es
      exact ⟨.ref p, s0, .lst upd_same (r.mono (upd_same_of f0))⟩
    · obtain ⟨u, a, b⟩ := ok.slot j s e
      refine ⟨u, a, b.mono (upd_same_of f0) fun q ws l' es' z1 z2 g0 hq' => ⟨?_, hq'⟩⟩
      subst z1 z2
      have nq : q ≠ p := fun z => by
        subst z
        exact ok.apart i j false l' ds es' _ (Ne.symm n) e0 e s0 a
      rw [upd_ne nq]; exact g0
  · exact ok.apart j k _ _ _ _ u hjk (g e1).2 (g e2).2 e3 e4
end

/-! ### composing -/
def bnd {α β : Type} (f : Env → Option (Out α)) (g : α → Env → Option (Out β)) : Env → Option (Out β) := fun ε =>
  match f ε with
  | none => none
  | some (.ex x ε') => some (.ex x ε')
  | some (.ok a ε') => g a ε'
theorem bnd_some {α β : Type} {f : Env → Option (Out α)} {g : α → Env → Option (Out β)} {ε : Env} {r : Out β} (h : bnd f g ε = some r) :
    (∃ x ε', f ε = some (.ex x ε') ∧ r = .ex x ε') ∨ ∃ a ε', f ε = some (.ok a ε') ∧ g a ε' = some r := by
  unfold bnd at h
  cases e : f ε with
  | none => rw [e] at h; cases h
  | some o =>
    rw [e] at h
    cases o with
    | ok a ε' => exact .inr ⟨a, ε', rfl, h⟩
    | ex x ε' => exact .inl ⟨x, ε', rfl, (Option.some.inj h).symm⟩
def ret {α : Type} (a : α) : Env → Option (Out α) := fun ε => some (.ok a ε)
/-- a plain operation that may be undefined -/
def lift {α : Type} (o : Option α) : Env → Option (Out α) := fun ε => o.map fun a => .ok a ε
theorem lift_some {α : Type} {o : Option α} {ε : Env} {r : Out α} (h : lift o ε = some r) : ∃ a, o = some a ∧ r = .ok a ε := by
  unfold lift at h
  cases o with
  | none => cases h
  | some a => exact ⟨a, rfl, (Option.some.inj h).symm⟩
end VL
end

section
set_option Elab.async false
set_option linter.all false
set_option maxRecDepth 100000
set_option maxHeartbeats 4000000
/-! VL1: expressions: a rule of the layer with what it does at data level. -/
namespace VL
open PySem L2
variable [LamN]

structure VE (X : Cx) (B : Bs) (e : Expr) (t : TE) (f : Env → Option (Out D)) : Prop where
  pe : PE X e t
  den : Den X.K X.mg B t f
structure VN (X : Cx) (B : Bs) (e : Expr) (t : TE) (f : Env → Option (Out (List D))) : Prop where
  pe : PE X e t
  den : DenN X.K X.mg B t f
structure VT (X : Cx) (B : Bs) (e : Expr) (t : TT) (f : Env → Option (Out Bool)) : Prop where
  pt : PT X e t
  den : DenT X.K X.mg B t f
structure VW (X : Cx) (B : Bs) (e : Expr) (t : TT) (f : Env → Option (Out Bool)) : Prop where
  pw : PW X e t
  den : DenT X.K X.mg B t f
structure VA (X : Cx) (B : Bs) (es : List Expr) (t : TA) (f : Env → Option (Out (List D))) : Prop where
  pa : PA X es t
  den : DenA X.K X.mg B t f

section
variable {K : PySem.W.Frag} {mg : Str → Option Value} {B : Bs}

/-! ### names, constants -/
def eVar (i : Nat) : Env → Option (Out D) := fun ε =>
  match ε[i]? with
  | some (some (.fr d)) => some (.ok d ε)
  | some (some (.ow false ds)) => some (.ok (.lst ds) (ε.set i (some (.fr (.lst ds)))))
  | _ => none
theorem den_var (i : Nat) : Den K mg B (tVar i) (eVar i) := fun ε σ F H Q r ok h p => by
  unfold eVar at h
  split at h
  · rename_i d e
    cases h
    obtain ⟨v, a, b⟩ := ok.slot i _ e
    exact ⟨v, a, p v F H ok (Same.refl _) b⟩
  · rename_i ds e
    cases h
    obtain ⟨v, a, q, vs, ev, f0, hq, r, h0⟩ := ok.slot i _ e
    subst ev
    refine ⟨_, a, p _ _ H (ok.frz e a hq) (upd_same_of f0) (.lst upd_same (r.mono (upd_same_of f0)))⟩
  · cases h
def eK (d : D) : Env → Option (Out D) := ret d
theorem den_const {v : V} {d : D} (h : ∀ F, Rep K mg F v d) : Den K mg B (tC v) (eK d) := fun ε σ F H Q r ok e p => by
  cases e
  exact p v F H ok (Same.refl _) (h F)

/-! ### two operands -/
/-- r does f of two frozen values -/
def OpD (K : PySem.W.Frag) (mg : Str → Option Value) (B : Bs) (r : R2) (f : D → D → Option D) : Prop :=
  ∀ ε σ F H x y a b d Q, OkV K mg B ε σ F H → Rep K mg F x a → Rep K mg F y b → f a b = some d → (∀ v F' H', OkV K mg B ε σ F' H' → Same F F' → Rep K mg F' v d → Q v H') → r x y H Q
/-- the same where the operands may be borrowed; the value is without objects -/
def OpH (K : PySem.W.Frag) (mg : Str → Option Value) (r : R2) (f : D → D → Option D) : Prop :=
  ∀ H x y a b d Q, Rep K mg H x a → Rep K mg H y b → f a b = some d → (∀ v, (∀ F, Rep K mg F v d) → Q v H) → r x y H Q
theorem OpH.opD {r : R2} {f : D → D → Option D} (h : OpH K mg r f) : OpD K mg B r f := fun ε σ F H x y a b d Q ok ra rb e q =>
  h H x y a b d Q (ra.mono ok.sub) (rb.mono ok.sub) e fun v hv => q v F H ok (Same.refl _) (hv F)
def e2 (f : D → D → Option D) (fa fb : Env → Option (Out D)) : Env → Option (Out D) := bnd fa fun a => bnd fb fun b => lift (f a b)
theorem den_op {r : R2} {f : D → D → Option D} {ta tb : TE} {fa fb : Env → Option (Out D)} (hr : OpD K mg B r f) (ha : Den K mg B ta fa) (hb : Den K mg B tb fb) : Den K mg B (tOp r ta tb) (e2 f fa fb) := fun ε σ F H Q r' ok h p => by
  rcases bnd_some h with ⟨x, ε', e1, rfl⟩ | ⟨a, ε1, e1, h⟩
  · exact ha ε σ F H _ _ ok e1 p
  refine ha ε σ F H _ _ ok e1 fun v1 F1 H1 ok1 s1 r1 => ?_
  rcases bnd_some h with ⟨x, ε', e2, rfl⟩ | ⟨b, ε2, e2, h⟩
  · exact hb ε1 σ F1 H1 _ _ ok1 e2 (XPost.mono p s1)
  refine hb ε1 σ F1 H1 _ _ ok1 e2 fun v2 F2 H2 ok2 s2 r2 => ?_
  obtain ⟨d, ed, rfl⟩ := lift_some h
  exact hr ε2 σ F2 H2 v1 v2 a b d Q ok2 (r1.mono s2) r2 ed fun v F3 H3 ok3 s3 r3 => p v F3 H3 ok3 (s1.trans (s2.trans s3)) r3
def UnD (K : PySem.W.Frag) (mg : Str → Option Value) (r : V → Hp → VK → Prop) (f : D → Option D) : Prop :=
  ∀ H x a d Q, Rep K mg H x a → f a = some d → (∀ v, (∀ F, Rep K mg F v d) → Q v H) → r x H Q
def e1 (f : D → Option D) (fa : Env → Option (Out D)) : Env → Option (Out D) := bnd fa fun a => lift (f a)
theorem den_un {r : V → Hp → VK → Prop} {f : D → Option D} {ta : TE} {fa : Env → Option (Out D)} (hr : UnD K mg r f) (ha : Den K mg B ta fa) : Den K mg B (tUn r ta) (e1 f fa) := fun ε σ F H Q r' ok h p => by
  rcases bnd_some h with ⟨x, ε', e1, rfl⟩ | ⟨a, ε1, e1, h⟩
  · exact ha ε σ F H _ _ ok e1 p
  refine ha ε σ F H _ _ ok e1 fun v1 F1 H1 ok1 s1 r1 => ?_
  obtain ⟨d, ed, rfl⟩ := lift_some h
  exact hr H1 v1 a d Q (r1.mono ok1.sub) ed fun v hv => p v F1 H1 ok1 s1 (hv F1)

/-! ### the operators -/
def mulOk (i j : Int) : Bool := decide ((Builtin.Int.intBits i : Int) + (Builtin.Int.intBits j : Int) ≤ 134217728)
def oAdd : D → D → Option D
  | .int i, .int j => some (.int (i + j))
  | .str a, .str b => if a.length + b.length ≤ sizeLine then some (.str (a ++ b)) else none
  | .lst a, .lst b => if a.length + b.length ≤ sizeLine then some (.lst (a ++ b)) else none
  | .tup a, .tup b => if a.length + b.length ≤ sizeLine then some (.tup (a ++ b)) else none
  | _, _ => none
def rAddS : R2 := fun x y H Q => ∃ i j, x = .str i ∧ y = .str j ∧ i.length + j.length ≤ sizeLine ∧ Q (.str (i ++ j)) H
def rAddI : R2 := rI0 fun i j => .int (i + j)
def rAddA (K : PySem.W.Frag) : R2 := fun x y H Q => rAddI x y H Q ∨ (rAddS x y H Q ∨ (rCat x y H Q ∨ rCatA K x y H Q))
theorem op_addA {X : Cx} : OpR X (binaryOp .Add) (rAddA X.K) := op_add.or (op_add_str.or (op_cat.or op_catA))
theorem opd_add : OpD K mg B (rAddA K) oAdd := fun ε σ F H x y a b d Q ok ra rb e q => by
  unfold oAdd at e
  split at e
  · cases e; cases ra; cases rb
    exact .inl ⟨_, _, rfl, rfl, q _ F H ok (Same.refl _) (.int _)⟩
  · rename_i s t
    split at e
    · rename_i hl
      cases e; cases ra; cases rb
      exact .inr (.inl ⟨_, _, rfl, rfl, hl, q _ F H ok (Same.refl _) (.str _)⟩)
    · cases e
  · rename_i s t
    split at e
    · rename_i hl
      cases e; cases ra with | lst ha r1 => cases rb with | lst hb r2 =>
      refine .inr (.inr (.inl ⟨_, _, _, _, rfl, rfl, ok.sub _ _ ha, ok.sub _ _ hb, by rw [r1.length, r2.length]; exact hl, fun p hp => ?_⟩))
      refine q _ _ _ (ok.laid hp _) (same_laid ok hp _) (.lst upd_same ((r1.append r2).mono (same_laid ok hp _)))
    · cases e
  · rename_i s t
    split at e
    · rename_i hl
      cases e; cases ra with | tup ha r1 => cases rb with | tup hb r2 =>
      refine .inr (.inr (.inr ⟨_, _, _, _, rfl, rfl, same_sqT ok.sub ha, same_sqT ok.sub hb, by rw [r1.length, r2.length]; exact hl, fun z => ?_, fun _ z => ?_, fun _ _ p hp => ?_⟩))
      · subst z; cases r1
        exact q _ F H ok (Same.refl _) (.tup hb r2)
      · subst z; cases r2
        rw [List.append_nil] at q
        exact q _ F H ok (Same.refl _) (.tup ha r1)
      · refine q _ _ _ (ok.laid hp _) (same_laid ok hp _) (.tup (SqT.of upd_same) ((r1.append r2).mono (same_laid ok hp _)))
    · cases e
  · cases e
def rSubI : R2 := rI0 fun i j => .int (i - j)
def rDivI : R2 := rI CDivW fun i j => .int (i / j)
def rModI : R2 := rI (fun _ j => 0 < j) fun i j => .int (i % j)
def rPowI : R2 := rI CPow fun i j => .int (i ^ j.toNat)
def rShlI : R2 := rI CShl fun i j => .int (i * 2 ^ j.toNat)
def rNegI : V → Hp → VK → Prop := rU fun i => .int (-i)
def rIsN : R2 := fun x y H Q => y = .non ∧ Q (.bl (decide (x = .non))) H
def rNotN : R2 := fun x y H Q => y = .non ∧ Q (.bl (!decide (x = .non))) H
def oSub : D → D → Option D
  | .int i, .int j => some (.int (i - j))
  | _, _ => none
theorem oph_sub : OpH K mg rSubI oSub := fun H x y a b d Q ra rb e q => by
  unfold oSub at e
  split at e
  · cases e; cases ra; cases rb
    exact ⟨_, _, rfl, rfl, q _ fun _ => .int _⟩
  · cases e
def oMul : D → D → Option D
  | .int i, .int j => if mulOk i j then some (.int (i * j)) else none
  | .lst a, .int k => if -(2 ^ 63) ≤ k ∧ k < 2 ^ 63 ∧ a.length * k.toNat ≤ sizeLine then some (.lst (List.replicate k.toNat a).flatten) else none
  | _, _ => none
def rMulA : R2 := fun x y H Q => rI CMulX (fun i j => .int (i * j)) x y H Q ∨ rRep x y H Q
theorem op_mulA {X : Cx} : OpR X (binaryOp .Mult) rMulA := op_mulX.or op_rep
theorem opd_mul : OpD K mg B rMulA oMul := fun ε σ F H x y a b d Q ok ra rb e q => by
  unfold oMul at e
  split at e
  · split at e
    · rename_i hl
      cases e; cases ra; cases rb
      refine .inl ⟨_, _, rfl, rfl, ?_, q _ F H ok (Same.refl _) (.int _)⟩
      unfold mulOk at hl; unfold CMulX
      exact of_decide_eq_true hl
    · cases e
  · split at e
    · rename_i hl
      obtain ⟨h1, h2, h3⟩ := hl
      cases e; cases rb; cases ra with | lst ha r1 =>
      refine .inr ⟨_, _, _, rfl, rfl, ok.sub _ _ ha, h1, h2, by rw [r1.length]; exact h3, fun p hp => ?_⟩
      refine q _ _ _ (ok.laid hp _) (same_laid ok hp _) (.lst upd_same ((r1.rep _).mono (same_laid ok hp _)))
    · cases e
  · cases e
def oDiv : D → D → Option D
  | .int i, .int j => if 0 < j ∧ j.natAbs.log2 < 9000 then some (.int (i / j)) else none
  | _, _ => none
theorem oph_div : OpH K mg rDivI oDiv := fun H x y a b d Q ra rb e q => by
  unfold oDiv at e
  split at e
  · split at e
    · rename_i hl
      cases e; cases ra; cases rb
      exact ⟨_, _, rfl, rfl, hl, q _ fun _ => .int _⟩
    · cases e
  · cases e
def oMod : D → D → Option D
  | .int i, .int j => if 0 < j then some (.int (i % j)) else none
  | _, _ => none
theorem oph_mod : OpH K mg rModI oMod := fun H x y a b d Q ra rb e q => by
  unfold oMod at e
  split at e
  · split at e
    · rename_i hl
      cases e; cases ra; cases rb
      exact ⟨_, _, rfl, rfl, hl, q _ fun _ => .int _⟩
    · cases e
  · cases e
def oPow : D → D → Option D
  | .int i, .int j => if 0 ≤ j ∧ j ≤ 1000000 ∧ i.natAbs < 2 ^ 64 then some (.int (i ^ j.toNat)) else none
  | _, _ => none
theorem oph_pow : OpH K mg rPowI oPow := fun H x y a b d Q ra rb e q => by
  unfold oPow at e
  split at e
  · split at e
    · rename_i hl
      cases e; cases ra; cases rb
      exact ⟨_, _, rfl, rfl, hl, q _ fun _ => .int _⟩
    · cases e
  · cases e
def oShl : D → D → Option D
  | .int i, .int j => if 0 ≤ j ∧ (Builtin.Int.intBits i : Int) + j ≤ 2 ^ 27 then some (.int (i * 2 ^ j.toNat)) else none
  | _, _ => none
theorem oph_shl : OpH K mg rShlI oShl := fun H x y a b d Q ra rb e q => by
  unfold oShl at e
  split at e
  · split at e
    · rename_i hl
      cases e; cases ra; cases rb
      exact ⟨_, _, rfl, rfl, hl, q _ fun _ => .int _⟩
    · cases e
  · cases e
def oNeg : D → Option D
  | .int i => some (.int (-i))
  | _ => none
theorem und_neg : UnD K mg rNegI oNeg := fun H x a d Q ra e q => by
  unfold oNeg at e
  split at e
  · cases e; cases ra
    exact ⟨_, rfl, q _ fun _ => .int _⟩
  · cases e

/-! ### comparing -/
def oCmp (p : Int → Int → Bool) : D → D → Option D
  | .int i, .int j => some (.bl (p i j))
  | _, _ => none
theorem oph_cmp (p : Int → Int → Bool) : OpH K mg (rI0 fun i j => .bl (p i j)) (oCmp p) := fun H x y a b d Q ra rb e q => by
  unfold oCmp at e
  split at e
  · cases e; cases ra; cases rb
    exact ⟨_, _, rfl, rfl, q _ fun _ => .bl _⟩
  · cases e
def dLt (i j : Int) : Bool := decide (i < j)
def dLe (i j : Int) : Bool := decide (i ≤ j)
def dGt (i j : Int) : Bool := decide (j < i)
def dGe (i j : Int) : Bool := decide (j ≤ i)
mutual
def toPy : D → Option PyData
  | .non => some .none
  | .bl b => some (.bool b)
  | .int i => some (.int i)
  | .str s => some (.str s)
  | .lst xs => (toPyL xs).map .list
  | .frl xs => (toPyL xs).map .list
  | .tup xs => (toPyL xs).map .tuple
  | .dic _ => none
  | .obj _ _ => none
  | .cls _ => none
  | .exn _ _ => none
  | .opq _ => none
def toPyL : List D → Option (List PyData)
  | [] => some []
  | d :: ds => match toPy d, toPyL ds with
    | some a, some b => some (a :: b)
    | _, _ => none
end
mutual
theorem toPy_dp {H : Hp} : ∀ {d : D} {v : V} {p : PyData}, Rep K mg H v d → toPy d = some p → Dp K H v p
  | .non, _, _, .non, h => by simp only [toPy, Option.some.injEq] at h; subst h; exact .non
  | .bl b, _, _, .bl _, h => by simp only [toPy, Option.some.injEq] at h; subst h; exact .bl b
  | .int b, _, _, .int _, h => by simp only [toPy, Option.some.injEq] at h; subst h; exact .int b
  | .str b, _, _, .str _, h => by simp only [toPy, Option.some.injEq] at h; subst h; exact .str b
  | .lst xs, _, _, .lst hl r, h => by
    simp only [toPy, Option.map_eq_some_iff] at h
    obtain ⟨ps, e, rfl⟩ := h
    exact .lst (SqL.of hl) (toPyL_dp r e)
  | .frl xs, _, _, .frl hl r, h => by
    simp only [toPy, Option.map_eq_some_iff] at h
    obtain ⟨ps, e, rfl⟩ := h
    exact .lst hl (toPyL_dp r e)
  | .tup xs, _, _, .tup hl r, h => by
    simp only [toPy, Option.map_eq_some_iff] at h
    obtain ⟨ps, e, rfl⟩ := h
    exact .tup hl (toPyL_dp r e)
  | .dic _, _, _, _, h => by simp [toPy] at h
  | .exn _ _, _, _, _, h => by simp [toPy] at h
  | .obj _ _, _, _, _, h => by simp [toPy] at h
  | .cls _, _, _, _, h => by simp [toPy] at h
  | .opq _, _, _, _, h => by simp [toPy] at h
theorem toPyL_dp {H : Hp} : ∀ {ds : List D} {vs : List V} {ps : List PyData}, RepL K mg H vs ds → toPyL ds = some ps → DpAll K H vs ps
  | [], _, _, .nil, h => by simp only [toPyL, Option.some.injEq] at h; subst h; exact .nil
  | d :: ds, _, _, .cons r t, h => by
    simp only [toPyL] at h
    split at h
    · rename_i a b ea eb
      cases h
      exact .cons (toPy_dp r ea) (toPyL_dp t eb)
    · cases h
end
def oEq (a b : D) : Option D :=
  match toPy a, toPy b with
  | some p, some q => if SeqAt.shaped p = true ∧ SeqAt.shaped q = true then some (.bl (PyData.eqv p q)) else none
  | _, _ => none
def oNe (a b : D) : Option D :=
  match toPy a, toPy b with
  | some p, some q => if SeqAt.shaped p = true ∧ SeqAt.shaped q = true then some (.bl (!PyData.eqv p q)) else none
  | _, _ => none
theorem oph_eq : OpH K mg (rEqD K) oEq := fun H x y a b d Q ra rb e q => by
  unfold oEq at e
  split at e
  · rename_i p p' ea eb
    split at e
    · rename_i hs
      cases e
      exact ⟨p, p', toPy_dp ra ea, toPy_dp rb eb, hs.1, hs.2, q _ fun _ => .bl _⟩
    · cases e
  · cases e
theorem oph_ne : OpH K mg (rNeD K) oNe := fun H x y a b d Q ra rb e q => by
  unfold oNe at e
  split at e
  · rename_i p p' ea eb
    split at e
    · rename_i hs
      cases e
      exact ⟨p, p', toPy_dp ra ea, toPy_dp rb eb, hs.1, hs.2, q _ fun _ => .bl _⟩
    · cases e
  · cases e
def isNon : D → Option Bool
  | .non => some true
  | .opq _ => none
  | _ => some false
theorem isNon_of {H : Hp} {v : V} {d : D} {b : Bool} (r : Rep K mg H v d) (h : isNon d = some b) : decide (v = .non) = b := by
  cases r <;> simp_all [isNon]
def oIsN : D → D → Option D
  | a, .non => (isNon a).map .bl
  | _, _ => none
def oNotN : D → D → Option D
  | a, .non => (isNon a).map fun b => .bl (!b)
  | _, _ => none
theorem oph_isN : OpH K mg rIsN oIsN := fun H x y a b d Q ra rb e q => by
  unfold oIsN at e
  split at e
  · cases rb
    obtain ⟨b, eb, rfl⟩ := Option.map_eq_some_iff.mp e
    refine ⟨rfl, ?_⟩
    rw [isNon_of ra eb]
    exact q _ fun _ => .bl _
  · cases e
theorem oph_notN : OpH K mg rNotN oNotN := fun H x y a b d Q ra rb e q => by
  unfold oNotN at e
  split at e
  · cases rb
    obtain ⟨b, eb, rfl⟩ := Option.map_eq_some_iff.mp e
    refine ⟨rfl, ?_⟩
    rw [isNon_of ra eb]
    exact q _ fun _ => .bl _
  · cases e

/-! ### truth -/
def tru : D → Option Bool
  | .non => some false
  | .bl b => some b
  | .int i => some (i != 0)
  | .str s => if s.length ≤ sizeLine then some ((s.length : Int) != 0) else none
  | .lst xs => some (!xs.isEmpty)
  | .frl xs => some (!xs.isEmpty)
  | .tup xs => some (!xs.isEmpty)
  | .dic kvs => some (!kvs.isEmpty)
  | _ => none
theorem RepL.isEmpty {H : Hp} : ∀ {vs : List V} {ds : List D}, RepL K mg H vs ds → vs.isEmpty = ds.isEmpty
  | _, _, .nil => rfl
  | _, _, .cons _ _ => rfl
theorem RepK.isEmpty {H : Hp} : ∀ {vs : List (Key × V)} {ds : List (Key × D)}, RepK K mg H vs ds → vs.isEmpty = ds.isEmpty
  | _, _, .nil => rfl
  | _, _, .cons _ _ => rfl
theorem tru_of {H : Hp} {v : V} {d : D} {b : Bool} (r : Rep K mg H v d) (h : tru d = some b) : TruV K v H b := by
  cases r with
  | non => cases h; rfl
  | bl b => cases h; rfl
  | int i => cases h; rfl
  | str s =>
    simp only [tru] at h
    split at h
    · rename_i hl
      cases h
      exact ⟨hl, rfl⟩
    · cases h
  | lst hl r => cases h; exact .inl ⟨_, SqL.of hl, by rw [r.isEmpty]⟩
  | frl hl r => cases h; exact .inl ⟨_, hl, by rw [r.isEmpty]⟩
  | tup hl r => cases h; exact .inr (.inl ⟨_, hl, by rw [r.isEmpty]⟩)
  | dic hl r => cases h; exact .inr (.inr ⟨_, hl, by rw [r.isEmpty]⟩)
  | obj _ _ _ => cases h
  | cls _ => cases h
  | exn _ _ _ _ => cases h
  | exo _ _ => cases h
  | opq _ => cases h
end
end VL
end

section
set_option Elab.async false
set_option linter.all false
set_option maxRecDepth 100000
set_option maxHeartbeats 4000000
/-! VL2: rules: names, operators, tests, displays, arguments, calls. -/
namespace VL
open PySem L2
variable [LamN]

section
variable {X : Cx} {B : Bs} {a b c e : Expr} {es : List Expr} {ta tb tc te : TE} {fa fb fc fe : Env → Option (Out D)} {pos p : Pos}

theorem ve_var (i : Nat) {x : Str} {pos : Pos} (hN : X.N[i]? = some x := by rfl) (hv : Vis X.env.scope x := by first | exact Or.inl rfl | exact Or.inr (Or.inl rfl) | exact Or.inr (Or.inr rfl)) (hd : (x == ("__debug__" : Str)) = false := by decide)
    (hcd : (x == ("__classdict__" : Str)) = false := by decide) : VE X B (.Name x pos) (tVar i) (eVar i) := ⟨pe_var hN hv hd hcd, den_var i⟩
theorem ve_int {i j pos} : VE X B (.Constant (.int i) j pos) (tC (.int i)) (eK (.int i)) := ⟨pe_int, den_const fun _ => .int i⟩
theorem ve_bl {i j pos} : VE X B (.Constant (.bool i) j pos) (tC (.bl i)) (eK (.bl i)) := ⟨pe_bl, den_const fun _ => .bl i⟩
theorem ve_str {i j pos} : VE X B (.Constant (.str i) j pos) (tC (.str i)) (eK (.str i)) := ⟨pe_str, den_const fun _ => .str i⟩
theorem ve_non {j pos} : VE X B (.Constant .none j pos) (tC .non) (eK .non) := ⟨pe_non, den_const fun _ => .non⟩
/-- a module's constant -/
theorem ve_glob {x : Str} {v : V} {d : D} {u : Value} {pos : Pos} (hg : Gl X x) (hm : X.mg x = some u) (r : RelV v u) (h : ∀ F, Rep X.K X.mg F v d) (hd : (x == ("__debug__" : Str)) = false := by decide) : VE X B (.Name x pos) (tC v) (eK d) := ⟨pe_glob hg hm r hd, den_const h⟩
theorem ve_op {op : Operator} {r : R2} {f : D → D → Option D} (ho : OpR X (binaryOp op) r) (hd : OpD X.K X.mg B r f) (ha : VE X B a ta fa) (hb : VE X B b tb fb) : VE X B (.BinOp a op b pos) (tOp r ta tb) (e2 f fa fb) := ⟨pe_op ho ha.pe hb.pe, den_op hd ha.den hb.den⟩
theorem ve_add (ha : VE X B a ta fa) (hb : VE X B b tb fb) : VE X B (.BinOp a .Add b pos) (tOp (rAddA X.K) ta tb) (e2 oAdd fa fb) := ve_op op_addA opd_add ha hb
theorem ve_sub (ha : VE X B a ta fa) (hb : VE X B b tb fb) : VE X B (.BinOp a .Sub b pos) (tOp rSubI ta tb) (e2 oSub fa fb) := ve_op op_sub oph_sub.opD ha hb
theorem ve_mul (ha : VE X B a ta fa) (hb : VE X B b tb fb) : VE X B (.BinOp a .Mult b pos) (tOp rMulA ta tb) (e2 oMul fa fb) := ve_op op_mulA opd_mul ha hb
theorem ve_div (ha : VE X B a ta fa) (hb : VE X B b tb fb) : VE X B (.BinOp a .FloorDiv b pos) (tOp rDivI ta tb) (e2 oDiv fa fb) := ve_op op_fdivW oph_div.opD ha hb
theorem ve_mod (ha : VE X B a ta fa) (hb : VE X B b tb fb) : VE X B (.BinOp a .Mod b pos) (tOp rModI ta tb) (e2 oMod fa fb) := ve_op op_mod oph_mod.opD ha hb
theorem ve_pow (ha : VE X B a ta fa) (hb : VE X B b tb fb) : VE X B (.BinOp a .Pow b pos) (tOp rPowI ta tb) (e2 oPow fa fb) := ve_op op_pow oph_pow.opD ha hb
theorem ve_shl (ha : VE X B a ta fa) (hb : VE X B b tb fb) : VE X B (.BinOp a .LShift b pos) (tOp rShlI ta tb) (e2 oShl fa fb) := ve_op op_shlW oph_shl.opD ha hb
theorem ve_neg (ha : VE X B a ta fa) : VE X B (.UnaryOp .USub a pos) (tUn rNegI ta) (e1 oNeg fa) := ⟨pe_un un_neg ha.pe, den_un und_neg ha.den⟩
theorem ve_cmp {op : CmpOp} {r : R2} {f : D → D → Option D} (ho : OpR X (compareOp op) r) (hd : OpH X.K X.mg r f) (ha : VE X B a ta fa) (hb : VE X B b tb fb) (hm : behindInMarks op b = false) : VE X B (.Compare a [op] [b] pos) (tOp r ta tb) (e2 f fa fb) := ⟨pe_cmpR ho ha.pe hb.pe hm, den_op hd.opD ha.den hb.den⟩

/-! ### the comparisons as one -/
structure CmpR (X : Cx) (op : CmpOp) (r : R2) (f : D → D → Option D) : Prop where
  ho : OpR X (compareOp op) r
  hd : OpH X.K X.mg r f
  nm : ∀ b, behindInMarks op b = false
theorem cm_lt : CmpR X .Lt (rI0 fun i j => .bl (decide (i < j))) (oCmp dLt) := ⟨op_lt, oph_cmp dLt, fun b => nomark b⟩
theorem cm_le : CmpR X .LtE (rI0 fun i j => .bl (decide (i ≤ j))) (oCmp dLe) := ⟨op_le, oph_cmp dLe, fun b => nomark b⟩
theorem cm_gt : CmpR X .Gt (rI0 fun i j => .bl (decide (j < i))) (oCmp dGt) := ⟨op_gt, oph_cmp dGt, fun b => nomark b⟩
theorem cm_ge : CmpR X .GtE (rI0 fun i j => .bl (decide (j ≤ i))) (oCmp dGe) := ⟨op_ge, oph_cmp dGe, fun b => nomark b⟩
theorem cm_eq (hu : X.A.units + 64 < cLine) : CmpR X .Eq (rEqD X.K) oEq := ⟨op_eqD hu, oph_eq, fun b => nomark b⟩
theorem cm_ne (hu : X.A.units + 64 < cLine) : CmpR X .NotEq (rNeD X.K) oNe := ⟨op_neD hu, oph_ne, fun b => nomark b⟩
theorem cm_isN : CmpR X .Is rIsN oIsN := ⟨op_isN, oph_isN, fun b => nomark b⟩
theorem cm_notN : CmpR X .IsNot rNotN oNotN := ⟨op_notN, oph_notN, fun b => nomark b⟩
variable {op op' : CmpOp} {r r' : R2} {f f' : D → D → Option D}
theorem ve_cm (c : CmpR X op r f) (ha : VE X B a ta fa) (hb : VE X B b tb fb) : VE X B (.Compare a [op] [b] pos) (tOp r ta tb) (e2 f fa fb) := ve_cmp c.ho c.hd ha hb (c.nm b)
def asB : D → Option Bool
  | .bl b => some b
  | _ => none
def eT (f : Env → Option (Out D)) : Env → Option (Out Bool) := bnd f fun d => lift (asB d)
theorem den_tTest {K : PySem.W.Frag} {mg : Str → Option Value} (h : Den K mg B ta fa) : DenT K mg B (tTest ta) (eT fa) := fun ε σ F H Q r ok e p => by
  rcases bnd_some e with ⟨x, ε', e1, rfl⟩ | ⟨a, ε1, e1, e⟩
  · exact h ε σ F H _ _ ok e1 p
  refine h ε σ F H _ _ ok e1 fun v1 F1 H1 ok1 s1 r1 => ?_
  obtain ⟨k, ed, rfl⟩ := lift_some e
  unfold asB at ed
  split at ed
  · cases ed; cases r1
    exact ⟨_, rfl, p F1 H1 ok1 s1⟩
  · cases ed
theorem vt_cm (c : CmpR X op r f) (ha : VE X B a ta fa) (hb : VE X B b tb fb) : VT X B (.Compare a [op] [b] pos) (tTest (tOp r ta tb)) (eT (e2 f fa fb)) := ⟨pt_cmpR c.ho ha.pe hb.pe (c.nm b), den_tTest (den_op c.hd.opD ha.den hb.den)⟩
/-- a op b op' c -/
def eCh (f f' : D → D → Option D) (fa fb fc : Env → Option (Out D)) : Env → Option (Out D) :=
  bnd fa fun a => bnd fb fun b => bnd (lift ((f a b).bind asB)) fun k => if k = true then bnd fc fun c => lift (f' b c) else ret (.bl false)
theorem den_chain {K : PySem.W.Frag} {mg : Str → Option Value} (hr : OpH K mg r f) (hr' : OpH K mg r' f') (ha : Den K mg B ta fa) (hb : Den K mg B tb fb) (hc : Den K mg B tc fc) : Den K mg B (tChain r r' ta tb tc) (eCh f f' fa fb fc) := fun ε σ F H Q q ok e p => by
  rcases bnd_some e with ⟨x, ε', e1, rfl⟩ | ⟨a, ε1, e1, e⟩
  · exact ha ε σ F H _ _ ok e1 p
  refine ha ε σ F H _ _ ok e1 fun v1 F1 H1 ok1 s1 r1 => ?_
  rcases bnd_some e with ⟨x, ε', e2, rfl⟩ | ⟨b, ε2, e2, e⟩
  · exact hb ε1 σ F1 H1 _ _ ok1 e2 (XPost.mono p s1)
  refine hb ε1 σ F1 H1 _ _ ok1 e2 fun v2 F2 H2 ok2 s2 r2 => ?_
  rcases bnd_some e with ⟨x, ε', e3, rfl⟩ | ⟨k, ε3, e3, e⟩
  · obtain ⟨_, _, z⟩ := lift_some e3; cases z
  obtain ⟨k', e5, z⟩ := lift_some e3
  cases z
  cases ed : f a b with
  | none => rw [ed] at e5; cases e5
  | some d =>
    rw [ed] at e5
    have e5 : asB d = some k := e5
    unfold asB at e5
    split at e5
    · cases e5
      refine hr H2 v1 v2 a b _ _ ((r1.mono s2).mono ok2.sub) (r2.mono ok2.sub) ed fun v hv => ?_
      cases hv F2
      refine ⟨_, rfl, ?_⟩
      split
      · rename_i hk
        rw [if_pos hk] at e
        rcases bnd_some e with ⟨x, ε', e4, rfl⟩ | ⟨c, ε4, e4, e⟩
        · exact hc ε2 σ F2 H2 _ _ ok2 e4 (XPost.mono p (s1.trans s2))
        refine hc ε2 σ F2 H2 _ _ ok2 e4 fun v4 F4 H4 ok4 s4 r4 => ?_
        obtain ⟨d', ed', rfl⟩ := lift_some e
        exact hr' H4 v2 v4 b c d' Q ((r2.mono s4).mono ok4.sub) (r4.mono ok4.sub) ed' fun v hv => p v F4 H4 ok4 (s1.trans (s2.trans s4)) (hv F4)
      · rename_i hk
        rw [if_neg hk] at e
        cases e
        exact p _ F2 H2 ok2 (s1.trans s2) (.bl _)
    · cases e5
theorem ve_ch (c1 : CmpR X op r f) (c2 : CmpR X op' r' f') (ha : VE X B a ta fa) (hb : VE X B b tb fb) (hc : VE X B c tc fc) (hm : lastMarks [op, op'] [b, c] = false := by with_unfolding_all rfl) :
    VE X B (.Compare a [op, op'] [b, c] pos) (tChain r r' ta tb tc) (eCh f f' fa fb fc) := ⟨pe_chain c1.ho c2.ho ha.pe hb.pe hc.pe hm, den_chain c1.hd c2.hd ha.den hb.den hc.den⟩
theorem vt_ch (c1 : CmpR X op r f) (c2 : CmpR X op' r' f') (ha : VE X B a ta fa) (hb : VE X B b tb fb) (hc : VE X B c tc fc) (hm : lastMarks [op, op'] [b, c] = false := by with_unfolding_all rfl) :
    VT X B (.Compare a [op, op'] [b, c] pos) (tTest (tChain r r' ta tb tc)) (eT (eCh f f' fa fb fc)) := ⟨pt_chain c1.ho c2.ho ha.pe hb.pe hc.pe hm, den_tTest (den_chain c1.hd c2.hd ha.den hb.den hc.den)⟩

/-! ### tests -/
variable {ga gb gc : Env → Option (Out Bool)} {ua ub : TT} {rest : List Expr}
def tTru (f : Env → Option (Out D)) : Env → Option (Out Bool) := bnd f fun d => lift (tru d)
theorem den_truth {K : PySem.W.Frag} {mg : Str → Option Value} (h : Den K mg B ta fa) : DenT K mg B (fun σ H Q => ta σ H fun x H1 => ∃ k, TruV K x H1 k ∧ Q k H1) (tTru fa) := fun ε σ F H Q r ok e p => by
  rcases bnd_some e with ⟨x, ε', e1, rfl⟩ | ⟨a, ε1, e1, e⟩
  · exact h ε σ F H _ _ ok e1 p
  refine h ε σ F H _ _ ok e1 fun v1 F1 H1 ok1 s1 r1 => ?_
  obtain ⟨k, ed, rfl⟩ := lift_some e
  exact ⟨k, tru_of (r1.mono ok1.sub) ed, p F1 H1 ok1 s1⟩
theorem vt_tru (ha : VE X B a ta fa) (he : ∀ whole, isTrue a X.env whole = (do let v ← whole; standAt a.pos; holding [v] (truthy v)) := by intro _; rfl) : VT X B a (fun σ H Q => ta σ H fun x H1 => ∃ k, TruV X.K x H1 k ∧ Q k H1) (tTru fa) := ⟨pt_truth ha.pe he, den_truth ha.den⟩
def tAnd' (f g : Env → Option (Out Bool)) : Env → Option (Out Bool) := bnd f fun k => if k = true then g else ret false
def tOr' (f g : Env → Option (Out Bool)) : Env → Option (Out Bool) := bnd f fun k => if k = true then ret true else g
def tNot' (f : Env → Option (Out Bool)) : Env → Option (Out Bool) := bnd f fun k => ret (!k)
theorem den_tAnd {K : PySem.W.Frag} {mg : Str → Option Value} (h : DenT K mg B ua ga) (h' : DenT K mg B ub gb) : DenT K mg B (tAnd ua ub) (tAnd' ga gb) := fun ε σ F H Q r ok e p => by
  rcases bnd_some e with ⟨x, ε', e1, rfl⟩ | ⟨k, ε1, e1, e⟩
  · exact h ε σ F H _ _ ok e1 p
  refine h ε σ F H _ _ ok e1 fun F1 H1 ok1 s1 => ?_
  cases k with
  | true =>
    rw [if_pos rfl] at e ⊢
    refine h' ε1 σ F1 H1 _ _ ok1 e ?_
    cases r with
    | ok b ε2 => exact fun F2 H2 ok2 s2 => p F2 H2 ok2 (s1.trans s2)
    | ex x ε2 => exact XPost.mono p s1
  | false =>
    rw [if_neg Bool.false_ne_true] at e ⊢
    cases e
    exact p F1 H1 ok1 s1
theorem den_tOr {K : PySem.W.Frag} {mg : Str → Option Value} (h : DenT K mg B ua ga) (h' : DenT K mg B ub gb) : DenT K mg B (tOr ua ub) (tOr' ga gb) := fun ε σ F H Q r ok e p => by
  rcases bnd_some e with ⟨x, ε', e1, rfl⟩ | ⟨k, ε1, e1, e⟩
  · exact h ε σ F H _ _ ok e1 p
  refine h ε σ F H _ _ ok e1 fun F1 H1 ok1 s1 => ?_
  cases k with
  | true =>
    rw [if_pos rfl] at e ⊢
    cases e
    exact p F1 H1 ok1 s1
  | false =>
    rw [if_neg Bool.false_ne_true] at e ⊢
    refine h' ε1 σ F1 H1 _ _ ok1 e ?_
    cases r with
    | ok b ε2 => exact fun F2 H2 ok2 s2 => p F2 H2 ok2 (s1.trans s2)
    | ex x ε2 => exact XPost.mono p s1
theorem den_tNot {K : PySem.W.Frag} {mg : Str → Option Value} (h : DenT K mg B ua ga) : DenT K mg B (tNot ua) (tNot' ga) := fun ε σ F H Q r ok e p => by
  rcases bnd_some e with ⟨x, ε', e1, rfl⟩ | ⟨k, ε1, e1, e⟩
  · exact h ε σ F H _ _ ok e1 p
  refine h ε σ F H _ _ ok e1 fun F1 H1 ok1 s1 => ?_
  cases e
  exact p F1 H1 ok1 s1
theorem VW.vt (h : VW X B e ua ga) : VT X B e ua ga := ⟨h.pw.pt, h.den⟩
theorem vw_and1 (ha : VT X B a ua ga) : VW X B (.BoolOp .And [a] pos) ua ga := ⟨pw_and1 ha.pt, ha.den⟩
theorem vw_or1 (ha : VT X B a ua ga) : VW X B (.BoolOp .Or [a] pos) ua ga := ⟨pw_or1 ha.pt, ha.den⟩
theorem vw_and (ha : VT X B a ua ga) (hb : VW X B (.BoolOp .And (b :: rest) pos) ub gb) : VW X B (.BoolOp .And (a :: b :: rest) pos) (tAnd ua ub) (tAnd' ga gb) := ⟨pw_and ha.pt hb.pw, den_tAnd ha.den hb.den⟩
theorem vw_or (ha : VT X B a ua ga) (hb : VW X B (.BoolOp .Or (b :: rest) pos) ub gb) : VW X B (.BoolOp .Or (a :: b :: rest) pos) (tOr ua ub) (tOr' ga gb) := ⟨pw_or ha.pt hb.pw, den_tOr ha.den hb.den⟩
theorem vt_not (ha : VT X B a ua ga) : VT X B (.UnaryOp .Not a pos) (tNot ua) (tNot' ga) := ⟨pt_not ha.pt, den_tNot ha.den⟩
end
end VL
end

section
set_option Elab.async false
set_option linter.all false
set_option maxRecDepth 100000
set_option maxHeartbeats 4000000
/-! VL3: rules: BoolOp as values, arguments, displays, subscripts, calls of built-ins. -/
namespace VL
open PySem L2
variable [LamN]

section
variable {X : Cx} {B : Bs} {a b c e : Expr} {es rest : List Expr} {ta tb tc te : TE} {fa fb fc fe : Env → Option (Out D)} {pos p : Pos} {ga gb gc : Env → Option (Out Bool)} {ua ub : TT} {ts : TA} {fs : Env → Option (Out (List D))}

theorem PostE.mono {K : PySem.W.Frag} {mg : Str → Option Value} {σ : St} {F F' : Hp} {Q : VK} {r : Out D} (h : PostE K mg B σ F Q r) (s : Same F F') : PostE K mg B σ F' Q r := by
  cases r with
  | ok d ε => exact fun v F2 H2 ok s2 r2 => h v F2 H2 ok (s.trans s2) r2
  | ex x ε => exact XPost.mono h s
/-! ### and, or, not as values; x if t else y -/
def eOr (f g : Env → Option (Out D)) : Env → Option (Out D) := bnd f fun d ε => match tru d with
  | some true => some (.ok d ε)
  | some false => g ε
  | none => none
def eAnd (f g : Env → Option (Out D)) : Env → Option (Out D) := bnd f fun d ε => match tru d with
  | some true => g ε
  | some false => some (.ok d ε)
  | none => none
def eNot (f : Env → Option (Out D)) : Env → Option (Out D) := bnd f fun d => lift ((tru d).map fun b => .bl (!b))
def eIf (t : Env → Option (Out Bool)) (f g : Env → Option (Out D)) : Env → Option (Out D) := bnd t fun k => if k = true then f else g
theorem den_orT {K : PySem.W.Frag} {mg : Str → Option Value} (h : Den K mg B ta fa) (h' : Den K mg B tb fb) : Den K mg B (tOrT K ta tb) (eOr fa fb) := fun ε σ F H Q r ok e p => by
  rcases bnd_some e with ⟨x, ε', e1, rfl⟩ | ⟨a, ε1, e1, e⟩
  · exact h ε σ F H _ _ ok e1 p
  refine h ε σ F H _ _ ok e1 fun v1 F1 H1 ok1 s1 r1 => ?_
  split at e
  · rename_i et
    cases e
    exact ⟨true, tru_of (r1.mono ok1.sub) et, by rw [if_pos rfl]; exact p v1 F1 H1 ok1 s1 r1⟩
  · rename_i et
    exact ⟨false, tru_of (r1.mono ok1.sub) et, by rw [if_neg Bool.false_ne_true]; exact h' ε1 σ F1 H1 _ _ ok1 e (p.mono s1)⟩
  · cases e
theorem den_andT {K : PySem.W.Frag} {mg : Str → Option Value} (h : Den K mg B ta fa) (h' : Den K mg B tb fb) : Den K mg B (tAndT K ta tb) (eAnd fa fb) := fun ε σ F H Q r ok e p => by
  rcases bnd_some e with ⟨x, ε', e1, rfl⟩ | ⟨a, ε1, e1, e⟩
  · exact h ε σ F H _ _ ok e1 p
  refine h ε σ F H _ _ ok e1 fun v1 F1 H1 ok1 s1 r1 => ?_
  split at e
  · rename_i et
    exact ⟨true, tru_of (r1.mono ok1.sub) et, by rw [if_pos rfl]; exact h' ε1 σ F1 H1 _ _ ok1 e (p.mono s1)⟩
  · rename_i et
    cases e
    exact ⟨false, tru_of (r1.mono ok1.sub) et, by rw [if_neg Bool.false_ne_true]; exact p v1 F1 H1 ok1 s1 r1⟩
  · cases e
theorem den_notT {K : PySem.W.Frag} {mg : Str → Option Value} (h : Den K mg B ta fa) : Den K mg B (tNotT K ta) (eNot fa) := fun ε σ F H Q r ok e p => by
  rcases bnd_some e with ⟨x, ε', e1, rfl⟩ | ⟨a, ε1, e1, e⟩
  · exact h ε σ F H _ _ ok e1 p
  refine h ε σ F H _ _ ok e1 fun v1 F1 H1 ok1 s1 r1 => ?_
  obtain ⟨d, ed, rfl⟩ := lift_some e
  obtain ⟨k, ek, rfl⟩ := Option.map_eq_some_iff.mp ed
  exact ⟨k, tru_of (r1.mono ok1.sub) ek, p _ F1 H1 ok1 s1 (.bl _)⟩
theorem den_if {K : PySem.W.Frag} {mg : Str → Option Value} (ht : DenT K mg B ua ga) (h : Den K mg B ta fa) (h' : Den K mg B tb fb) : Den K mg B (tIf ua ta tb) (eIf ga fa fb) := fun ε σ F H Q r ok e p => by
  rcases bnd_some e with ⟨x, ε', e1, rfl⟩ | ⟨k, ε1, e1, e⟩
  · exact ht ε σ F H _ _ ok e1 p
  refine ht ε σ F H _ _ ok e1 fun F1 H1 ok1 s1 => ?_
  cases k with
  | true => rw [if_pos rfl] at e ⊢; exact h ε1 σ F1 H1 _ _ ok1 e (p.mono s1)
  | false => rw [if_neg Bool.false_ne_true] at e ⊢; exact h' ε1 σ F1 H1 _ _ ok1 e (p.mono s1)
theorem ve_one {op} (h : VE X B a ta fa) : VE X B (.BoolOp op [a] pos) ta fa := ⟨pe_one h.pe, h.den⟩
theorem ve_or (ha : VE X B a ta fa) (hb : VE X B (.BoolOp .Or (b :: rest) pos) tb fb) : VE X B (.BoolOp .Or (a :: b :: rest) pos) (tOrT X.K ta tb) (eOr fa fb) := ⟨pe_orT ha.pe hb.pe, den_orT ha.den hb.den⟩
theorem ve_and (ha : VE X B a ta fa) (hb : VE X B (.BoolOp .And (b :: rest) pos) tb fb) : VE X B (.BoolOp .And (a :: b :: rest) pos) (tAndT X.K ta tb) (eAnd fa fb) := ⟨pe_andT ha.pe hb.pe, den_andT ha.den hb.den⟩
theorem ve_not (ha : VE X B a ta fa) : VE X B (.UnaryOp .Not a pos) (tNotT X.K ta) (eNot fa) := ⟨pe_notT ha.pe, den_notT ha.den⟩
theorem ve_if (hc : VT X B c ua ga) (ha : VE X B a ta fa) (hb : VE X B b tb fb) : VE X B (.IfExp c a b pos) (tIf ua ta tb) (eIf ga fa fb) := ⟨pe_ifExp hc.pt ha.pe hb.pe, den_if hc.den ha.den hb.den⟩

/-! ### arguments -/
def aNil : Env → Option (Out (List D)) := ret []
def aCons (f : Env → Option (Out D)) (g : Env → Option (Out (List D))) : Env → Option (Out (List D)) := bnd f fun d => bnd g fun ds => ret (d :: ds)
def asItems : D → Option (List D)
  | .lst xs => some xs
  | .frl xs => some xs
  | .tup xs => some xs
  | _ => none
def aStar (f : Env → Option (Out D)) (g : Env → Option (Out (List D))) : Env → Option (Out (List D)) := bnd f fun d => bnd (lift (asItems d)) fun xs => bnd g fun ds => ret (xs ++ ds)
theorem va_nil : VA X B [] tNil aNil := ⟨pa_nil, fun ε σ F H Q r ok e p => by cases e; exact p [] F H ok (Same.refl _) .nil⟩
theorem den_cons {K : PySem.W.Frag} {mg : Str → Option Value} (h : Den K mg B ta fa) (h' : DenA K mg B ts fs) : DenA K mg B (tCons ta ts) (aCons fa fs) := fun ε σ F H Q r ok e p => by
  rcases bnd_some e with ⟨x, ε', e1, rfl⟩ | ⟨d, ε1, e1, e⟩
  · exact h ε σ F H _ _ ok e1 p
  refine h ε σ F H _ _ ok e1 fun v1 F1 H1 ok1 s1 r1 => ?_
  rcases bnd_some e with ⟨x, ε', e2, rfl⟩ | ⟨ds, ε2, e2, e⟩
  · exact h' ε1 σ F1 H1 _ _ ok1 e2 (XPost.mono p s1)
  refine h' ε1 σ F1 H1 _ _ ok1 e2 fun vs F2 H2 ok2 s2 r2 => ?_
  cases e
  exact p _ F2 H2 ok2 (s1.trans s2) (.cons (r1.mono s2) r2)
theorem va_cons (ha : VE X B e te fe) (hr : VA X B es ts fs) (hs : starEach (e :: es) X.env = (false, eval e X.env) :: starEach es X.env := by rfl) : VA X B (e :: es) (tCons te ts) (aCons fe fs) := ⟨pa_cons ha.pe hr.pa hs, den_cons ha.den hr.den⟩

/-! ### displays -/
def eTup (f : Env → Option (Out (List D))) : Env → Option (Out D) := bnd f fun ds => if ds.length ≤ sizeLine then ret (.tup ds) else fun _ => none
theorem ve_tup {x1} (h : VA X B es ts fs) : VE X B (.Tuple es x1 pos) (tTup ts) (eTup fs) := ⟨pe_tup h.pa, fun ε σ F H Q r ok e p => by
  rcases bnd_some e with ⟨x, ε', e1, rfl⟩ | ⟨ds, ε1, e1, e⟩
  · exact h.den ε σ F H _ _ ok e1 p
  refine h.den ε σ F H _ _ ok e1 fun vs F1 H1 ok1 s1 r1 => ?_
  split at e
  · rename_i hl
    cases e
    exact ⟨by rw [r1.length]; exact hl, fun q hq => p _ _ _ (ok1.laid hq _) (s1.trans (same_laid ok1 hq _)) (.tup (SqT.of upd_same) (r1.mono (same_laid ok1 hq _)))⟩
  · cases e⟩
def nLst (f : Env → Option (Out (List D))) : Env → Option (Out (List D)) := bnd f fun ds => if ds.length ≤ sizeLine then ret ds else fun _ => none
theorem vn_lst (h : VA X B es ts fs) : VN X B (.List es pos) (tLst ts) (nLst fs) := ⟨pe_lst h.pa, fun ε σ F H Q r ok e p => by
  rcases bnd_some e with ⟨x, ε', e1, rfl⟩ | ⟨ds, ε1, e1, e⟩
  · exact h.den ε σ F H _ _ ok e1 p
  refine h.den ε σ F H _ _ ok e1 fun vs F1 H1 ok1 s1 r1 => ?_
  split at e
  · rename_i hl
    cases e
    exact ⟨by rw [r1.length]; exact hl, fun q hq => p q vs F1 H1 ok1 s1 hq r1⟩
  · cases e⟩
/-- a new list, as a value: frozen at once -/
def eN (f : Env → Option (Out (List D))) : Env → Option (Out D) := bnd f fun ds => ret (.lst ds)
theorem VN.ve {e : Expr} {te : TE} {fn : Env → Option (Out (List D))} (h : VN X B e te fn) : VE X B e te (eN fn) := ⟨h.pe, fun ε σ F H Q r ok e p => by
  rcases bnd_some e with ⟨x, ε', e1, rfl⟩ | ⟨ds, ε1, e1, e⟩
  · exact h.den ε σ F H _ _ ok e1 p
  refine h.den ε σ F H _ _ ok e1 fun q vs F1 H1 ok1 s1 hq r1 => ?_
  cases e
  exact p _ _ _ (ok1.laid hq _) (s1.trans (same_laid ok1 hq _)) (.lst upd_same (r1.mono (same_laid ok1 hq _)))⟩

/-! ### subscripts -/
def oIx : D → D → Option D
  | .lst xs, .int i => atI xs i
  | .frl xs, .int i => atI xs i
  | .tup xs, .int i => atI xs i
  | .str s, .int i => if s.length ≤ sizeLine then (atI s.cps.toList i).map fun c => .str ⟨#[c]⟩ else none
  | _, _ => none
theorem atI_rep {K : PySem.W.Frag} {mg : Str → Option Value} {F : Hp} {vs : List V} {ds : List D} {i : Int} {d : D} (r : RepL K mg F vs ds) (h : atI ds i = some d) : ∃ v, atI vs i = some v ∧ Rep K mg F v d := by
  unfold atI at h ⊢
  rw [r.length]
  cases e : ixN ds.length i with
  | none => rw [e] at h; cases h
  | some j =>
    rw [e] at h
    exact r.get h
theorem opd_ix {K : PySem.W.Frag} {mg : Str → Option Value} : OpD K mg B (rIx K) oIx := fun ε σ F H x y a b d Q ok ra rb e q => by
  unfold oIx at e
  split at e
  · cases rb; cases ra with | lst ha r1 =>
    obtain ⟨v, ev, rv⟩ := atI_rep r1 e
    exact .inl ⟨_, _, _, v, rfl, rfl, SqL.of (ok.sub _ _ ha), ev, q v F H ok (Same.refl _) rv⟩
  · cases rb; cases ra with | frl ha r1 =>
    obtain ⟨v, ev, rv⟩ := atI_rep r1 e
    exact .inl ⟨_, _, _, v, rfl, rfl, ok.sub.seq ha, ev, q v F H ok (Same.refl _) rv⟩
  · cases rb; cases ra with | tup ha r1 =>
    obtain ⟨v, ev, rv⟩ := atI_rep r1 e
    exact .inr (.inl ⟨_, _, _, v, rfl, rfl, same_sqT ok.sub ha, ev, q v F H ok (Same.refl _) rv⟩)
  · split at e
    · rename_i hl
      cases rb; cases ra
      obtain ⟨c, ec, rfl⟩ := Option.map_eq_some_iff.mp e
      exact .inr (.inr ⟨_, _, c, rfl, rfl, hl, ec, q _ F H ok (Same.refl _) (.str _)⟩)
    · cases e
  · cases e
theorem ve_ix (ha : VE X B a ta fa) (hb : VE X B b tb fb) (hs : PlainIx b := by exact fun _ _ => rfl) : VE X B (.Subscript a b pos) (tOp (rIx X.K) ta tb) (e2 oIx fa fb) := ⟨pe_ix ix_seq ha.pe hb.pe hs, den_op opd_ix ha.den hb.den⟩
/-! ### what stands in a slot, borrowed: nothing is frozen -/
def slotD : Slot → D
  | .fr d => d
  | .ow _ ds => .lst ds
theorem OkV.slotRep {K : PySem.W.Frag} {mg : Str → Option Value} {ε : Env} {σ : St} {F H : Hp} (ok : OkV K mg B ε σ F H) {i : Nat} {s : Slot} (e : ε[i]? = some (some s)) : ∃ v, σ[i]? = some (some v) ∧ Rep K mg H v (slotD s) := by
  obtain ⟨v, a, b⟩ := ok.slot i s e
  cases s with
  | fr d => exact ⟨v, a, Rep.mono ok.sub b⟩
  | ow l ds =>
    obtain ⟨p, vs, rfl, _, hp, r, _⟩ := b
    exact ⟨_, a, .lst hp (r.mono ok.sub)⟩
def rdS (i : Nat) (ε : Env) : Option D := match ε[i]? with
  | some (some s) => some (slotD s)
  | _ => none
theorem OkV.rd {K : PySem.W.Frag} {mg : Str → Option Value} {ε : Env} {σ : St} {F H : Hp} (ok : OkV K mg B ε σ F H) {i : Nat} {d : D} (e : rdS i ε = some d) : ∃ v, σ[i]? = some (some v) ∧ Rep K mg H v d := by
  unfold rdS at e
  split at e
  · rename_i s es
    cases e
    exact ok.slotRep es
  · cases e
/-- f (x, fb) with x the slot i, read last -/
def eB2 (f : D → D → Option D) (i : Nat) (fb : Env → Option (Out D)) : Env → Option (Out D) := fun ε => match rdS i ε with
  | some _ => bnd fb (fun b ε' => (rdS i ε').bind fun a => (f a b).map fun d => .ok d ε') ε
  | none => none
theorem den_b2 {K : PySem.W.Frag} {mg : Str → Option Value} {r : R2} {f : D → D → Option D} (i : Nat) (hr : OpH K mg r f) (hb : Den K mg B tb fb) : Den K mg B (tOp r (tVar i) tb) (eB2 f i fb) := fun ε σ F H Q q ok e p => by
  unfold eB2 at e
  split at e
  · rename_i d0 e0
    obtain ⟨v, sv, _⟩ := ok.rd e0
    refine ⟨v, sv, ?_⟩
    rcases bnd_some e with ⟨x, ε', e1, rfl⟩ | ⟨b, ε1, e1, e⟩
    · exact hb ε σ F H _ _ ok e1 p
    refine hb ε σ F H _ _ ok e1 fun v2 F2 H2 ok2 s2 r2 => ?_
    obtain ⟨a, ea, e⟩ := Option.bind_eq_some_iff.mp e
    obtain ⟨d, ed, rfl⟩ := Option.map_eq_some_iff.mp e
    obtain ⟨v', sv', ra⟩ := ok2.rd ea
    rw [sv] at sv'; cases sv'
    exact hr H2 v v2 a b d Q ra (r2.mono ok2.sub) ed fun w hw => p w F2 H2 ok2 s2 (hw F2)
  · cases e
theorem ve_cmB {x : Str} {px : Pos} {op : CmpOp} {r : R2} {f : D → D → Option D} (i : Nat) (c : CmpR X op r f) (hb : VE X B b tb fb) (hN : X.N[i]? = some x := by rfl) (hv : Vis X.env.scope x := by first | exact Or.inl rfl | exact Or.inr (Or.inl rfl) | exact Or.inr (Or.inr rfl)) (hd : (x == ("__debug__" : Str)) = false := by decide)
    (hcd : (x == ("__classdict__" : Str)) = false := by decide) : VE X B (.Compare (.Name x px) [op] [b] pos) (tOp r (tVar i) tb) (eB2 f i fb) := ⟨pe_cmpR c.ho (pe_var hN hv hd hcd) hb.pe (c.nm b), den_b2 i c.hd hb.den⟩
theorem vt_cmB {x : Str} {px : Pos} {op : CmpOp} {r : R2} {f : D → D → Option D} (i : Nat) (c : CmpR X op r f) (hb : VE X B b tb fb) (hN : X.N[i]? = some x := by rfl) (hv : Vis X.env.scope x := by first | exact Or.inl rfl | exact Or.inr (Or.inl rfl) | exact Or.inr (Or.inr rfl)) (hd : (x == ("__debug__" : Str)) = false := by decide)
    (hcd : (x == ("__classdict__" : Str)) = false := by decide) : VT X B (.Compare (.Name x px) [op] [b] pos) (tTest (tOp r (tVar i) tb)) (eT (eB2 f i fb)) := ⟨pt_cmpR c.ho (pe_var hN hv hd hcd) hb.pe (c.nm b), den_tTest (den_b2 i c.hd hb.den)⟩
/-- x[i] of a slot that may be owned -/
theorem den_ixB {K : PySem.W.Frag} {mg : Str → Option Value} (i : Nat) (hb : Den K mg B tb fb) : Den K mg B (tOp (rIx K) (tVar i) tb) (eB2 oIx i fb) := fun ε σ F H Q q ok e p => by
  unfold eB2 at e
  split at e
  · rename_i d0 e0
    obtain ⟨v, sv, _⟩ := ok.rd e0
    refine ⟨v, sv, ?_⟩
    rcases bnd_some e with ⟨x, ε', e1, rfl⟩ | ⟨b, ε1, e1, e⟩
    · exact hb ε σ F H _ _ ok e1 p
    refine hb ε σ F H _ _ ok e1 fun v2 F2 H2 ok2 s2 r2 => ?_
    obtain ⟨a, ea, e⟩ := Option.bind_eq_some_iff.mp e
    obtain ⟨d, ed, rfl⟩ := Option.map_eq_some_iff.mp e
    unfold rdS at ea
    split at ea
    · rename_i s es
      cases ea
      obtain ⟨v', sv', so⟩ := ok2.slot i s es
      rw [sv] at sv'; cases sv'
      cases s with
      | fr d' => exact opd_ix ε1 σ F2 H2 v v2 d' b d Q ok2 so r2 ed fun w F3 H3 ok3 s3 r3 => p w F3 H3 ok3 (s2.trans s3) r3
      | ow l ds =>
        obtain ⟨q, vs, rfl, _, hq, r, _⟩ := so
        have eq : oIx (.lst ds) b = some d := ed
        cases b with
        | int k =>
          cases r2
          obtain ⟨w, ew, rw'⟩ := atI_rep r (show atI ds k = some d from eq)
          exact .inl ⟨_, _, _, w, rfl, rfl, SqL.of hq, ew, p w F2 H2 ok2 s2 rw'⟩
        | _ => simp [oIx] at eq
    · cases ea
  · cases e
theorem ve_ixB {x : Str} {px : Pos} (i : Nat) (hb : VE X B b tb fb) (hs : PlainIx b := by exact fun _ _ => rfl) (hN : X.N[i]? = some x := by rfl) (hv : Vis X.env.scope x := by first | exact Or.inl rfl | exact Or.inr (Or.inl rfl) | exact Or.inr (Or.inr rfl)) (hd : (x == ("__debug__" : Str)) = false := by decide)
    (hcd : (x == ("__classdict__" : Str)) = false := by decide) : VE X B (.Subscript (.Name x px) b pos) (tOp (rIx X.K) (tVar i) tb) (eB2 oIx i fb) := ⟨pe_ix ix_seq (pe_var hN hv hd hcd) hb.pe hs, den_ixB i hb.den⟩
end
end VL
end

section
set_option Elab.async false
set_option linter.all false
set_option maxRecDepth 100000
set_option maxHeartbeats 4000000
/-! VL4: arguments that may be borrowed, calls of built-ins, of the text's own defs. -/
namespace VL
open PySem L2
variable [LamN]

/-! ### data without lists -/
mutual
def noL : D → Bool
  | .lst _ => false
  | .frl _ => false
  | .tup xs => noLs xs
  | .dic kvs => noLK kvs
  | .obj _ fs => noLF fs
  | .exn _ fs => noLF fs
  | _ => true
def noLs : List D → Bool
  | [] => true
  | d :: ds => noL d && noLs ds
def noLK : List (Key × D) → Bool
  | [] => true
  | (_, d) :: ds => noL d && noLK ds
def noLF : List (Str × D) → Bool
  | [] => true
  | (_, d) :: ds => noL d && noLF ds
end
section
variable {K : PySem.W.Frag} {mg : Str → Option Value} {F G : Hp}
theorem cut_sqT (h : ∀ a o, F a = some o → (∀ ws, o ≠ .lst ws) → G a = some o) {a : Addr} {xs : List V} (q : SqT K F a xs) : SqT K G a xs := by
  rcases q with (q | ⟨o, q⟩) | q
  · exact .inl (.inl (h _ _ q fun ws z => nomatch z))
  · exact .inl (.inr ⟨o, h _ _ q fun ws z => nomatch z⟩)
  · exact .inr q
mutual
theorem Rep.cut (h : ∀ a o, F a = some o → (∀ ws, o ≠ .lst ws) → G a = some o) : ∀ {v : V} {d : D}, Rep K mg F v d → noL d = true → Rep K mg G v d
  | _, _, .non, _ => .non
  | _, _, .bl b, _ => .bl b
  | _, _, .int i, _ => .int i
  | _, _, .str s, _ => .str s
  | _, _, .lst _ _, z => by simp [noL] at z
  | _, _, .tup q r, z => .tup (cut_sqT h q) (RepL.cut h r (by simpa [noL] using z))
  | _, _, .frl _ _, z => by simp [noL] at z
  | _, _, .dic q r, z => .dic (h _ _ q fun ws z => nomatch z) (RepK.cut h r (by simpa [noL] using z))
  | _, _, .obj c q r, z => .obj c (h _ _ q fun ws z => nomatch z) (RepF.cut h r (by simpa [noL] using z))
  | _, _, .cls c, _ => .cls c
  | _, _, .exo c q, _ => .exo c (h _ _ q fun ws z => nomatch z)
  | _, _, .exn c q q2 r, z => .exn c (h _ _ q fun ws z => nomatch z) (h _ _ q2 fun ws z => nomatch z) (RepF.cut h r (by simpa [noL] using z))
  | _, _, .opq v, _ => .opq v
theorem RepL.cut (h : ∀ a o, F a = some o → (∀ ws, o ≠ .lst ws) → G a = some o) : ∀ {vs : List V} {ds : List D}, RepL K mg F vs ds → noLs ds = true → RepL K mg G vs ds
  | _, _, .nil, _ => .nil
  | _, _, .cons r t, z => by
    simp only [noLs, Bool.and_eq_true] at z
    exact .cons (Rep.cut h r z.1) (RepL.cut h t z.2)
theorem RepK.cut (h : ∀ a o, F a = some o → (∀ ws, o ≠ .lst ws) → G a = some o) : ∀ {vs : List (Key × V)} {ds : List (Key × D)}, RepK K mg F vs ds → noLK ds = true → RepK K mg G vs ds
  | _, _, .nil, _ => .nil
  | _, _, .cons r t, z => by
    simp only [noLK, Bool.and_eq_true] at z
    exact .cons (Rep.cut h r z.1) (RepK.cut h t z.2)
theorem RepF.cut (h : ∀ a o, F a = some o → (∀ ws, o ≠ .lst ws) → G a = some o) : ∀ {vs : List (Str × V)} {ds : List (Str × D)}, RepF K mg F vs ds → noLF ds = true → RepF K mg G vs ds
  | _, _, .nil, _ => .nil
  | _, _, .cons r t, z => by
    simp only [noLF, Bool.and_eq_true] at z
    exact .cons (Rep.cut h r z.1) (RepF.cut h t z.2)
end
end

/-! ### arguments that may be borrowed: bs tells the slots -/
def isFr (ε : Env) (i : Nat) : Bool := match ε[i]? with
  | some (some (.fr _)) => true
  | _ => false
section
variable (K : PySem.W.Frag) (mg : Str → Option Value)
def PostC (B : Bs) (bs : List Nat) (σ : St) (F : Hp) (Q : List V → Hp → Prop) : Out (List D) → Prop
  | .ok ds ε => ∀ vs F' H' Fc, OkV K mg B ε σ F' H' → Same F F' → Same F' Fc → Same Fc H' → (∀ a, F' a = none → Fc a ≠ none → ∃ ws, Fc a = some (.lst ws)) → RepL K mg Fc vs ds → (bs.all (isFr ε) = true → RepL K mg F' vs ds) → Q vs H'
  | .ex x ε => XPost K mg B x ε F
def DenC (B : Bs) (bs : List Nat) (t : TA) (f : Env → Option (Out (List D))) : Prop :=
  ∀ ε σ F H Q r, OkV K mg B ε σ F H → f ε = some r → PostC K mg B bs σ F Q r → t σ H Q
end
structure VB (X : Cx) (B : Bs) (es : List Expr) (bs : List Nat) (t : TA) (f : Env → Option (Out (List D))) : Prop where
  pa : PA X es t
  den : DenC X.K X.mg B bs t f
def aBor (i : Nat) (g : Env → Option (Out (List D))) : Env → Option (Out (List D)) := fun ε => match rdS i ε with
  | some _ => bnd g (fun ds ε' => (rdS i ε').map fun d => .ok (d :: ds) ε') ε
  | none => none
section
variable {X : Cx} {B : Bs} {a b c e : Expr} {es rest : List Expr} {ta tb tc te : TE} {fa fb fc fe : Env → Option (Out D)} {pos p : Pos} {ts : TA} {fs : Env → Option (Out (List D))} {bs : List Nat}
theorem vb_nil : VB X B [] [] tNil aNil := ⟨pa_nil, fun ε σ F H Q r ok e p => by cases e; exact p [] F H F ok (Same.refl _) (Same.refl _) ok.sub (fun a z z' => absurd z z') .nil fun _ => .nil⟩
theorem vb_cons (ha : VE X B e te fe) (hr : VB X B es bs ts fs) (hs : starEach (e :: es) X.env = (false, eval e X.env) :: starEach es X.env := by rfl) : VB X B (e :: es) bs (tCons te ts) (aCons fe fs) := ⟨pa_cons ha.pe hr.pa hs, fun ε σ F H Q r ok e p => by
  rcases bnd_some e with ⟨x, ε', e1, rfl⟩ | ⟨d, ε1, e1, e⟩
  · exact ha.den ε σ F H _ _ ok e1 p
  refine ha.den ε σ F H _ _ ok e1 fun v1 F1 H1 ok1 s1 r1 => ?_
  rcases bnd_some e with ⟨x, ε', e2, rfl⟩ | ⟨ds, ε2, e2, e⟩
  · exact hr.den ε1 σ F1 H1 _ _ ok1 e2 (XPost.mono p s1)
  refine hr.den ε1 σ F1 H1 _ _ ok1 e2 fun vs F2 H2 Fc ok2 s2 s3 s4 n r2 r2' => ?_
  cases e
  exact p _ F2 H2 Fc ok2 (s1.trans s2) s3 s4 n (.cons (r1.mono (s2.trans s3)) r2) fun z => .cons (r1.mono s2) (r2' z)⟩
theorem vb_bor {x : Str} {px : Pos} (i : Nat) (hr : VB X B es bs ts fs) (hN : X.N[i]? = some x := by rfl) (hv : Vis X.env.scope x := by first | exact Or.inl rfl | exact Or.inr (Or.inl rfl) | exact Or.inr (Or.inr rfl)) (hd : (x == ("__debug__" : Str)) = false := by decide)
    (hcd : (x == ("__classdict__" : Str)) = false := by decide) (hs : starEach (.Name x px :: es) X.env = (false, eval (.Name x px) X.env) :: starEach es X.env := by rfl) : VB X B (.Name x px :: es) (i :: bs) (tCons (tVar i) ts) (aBor i fs) := ⟨pa_cons (pe_var hN hv hd hcd) hr.pa hs, fun ε σ F H Q r ok e p => by
  unfold aBor at e
  split at e
  · rename_i d0 e0
    obtain ⟨v, sv, _⟩ := ok.rd e0
    refine ⟨v, sv, ?_⟩
    rcases bnd_some e with ⟨y, ε', e1, rfl⟩ | ⟨ds, ε1, e1, e⟩
    · exact hr.den ε σ F H _ _ ok e1 p
    refine hr.den ε σ F H _ _ ok e1 fun vs F2 H2 Fc ok2 s2 s3 s4 n r2 r2' => ?_
    obtain ⟨d, ed, rfl⟩ := Option.map_eq_some_iff.mp e
    unfold rdS at ed
    split at ed
    · rename_i s es
      cases ed
      obtain ⟨v', sv', so⟩ := ok2.slot i s es
      rw [sv] at sv'; cases sv'
      cases s with
      | fr d' =>
        have so : Rep X.K X.mg F2 v d' := so
        exact p _ F2 H2 Fc ok2 s2 s3 s4 n (.cons (so.mono s3) r2) fun z => .cons so (r2' (by simp only [List.all_cons, Bool.and_eq_true] at z; exact z.2))
      | ow l ws =>
        obtain ⟨q, us, rfl, fq, hq, rr, _⟩ := so
        have sF : Same Fc (fun b => if b = q then H2 q else Fc b) := fun b o eb => by
          by_cases z : b = q
          · subst z; simp only [if_true]; exact s4 _ _ eb
          · simp only [if_neg z]; exact eb
        refine p _ F2 H2 (fun b => if b = q then H2 q else Fc b) ok2 s2 (s3.trans sF) (fun b o eb => ?_) (fun b h1 h2 => ?_) (.cons (.lst (by simp only [if_true]; exact hq) (rr.mono (s3.trans sF))) (r2.mono sF)) fun z => ?_
        · by_cases z : b = q
          · subst z; simpa using eb
          · simp only [if_neg z] at eb; exact s4 _ _ eb
        · by_cases z : b = q
          · subst z; exact ⟨us, by simp only [if_true]; exact hq⟩
          · simp only [if_neg z] at h2 ⊢; exact n b h1 h2
        · simp only [List.all_cons, Bool.and_eq_true] at z
          have z1 := z.1
          unfold isFr at z1
          rw [es] at z1
          cases z1
    · cases ed
  · cases e⟩

/-! ### built-ins that give a value without objects -/
def CallH (K : PySem.W.Frag) (mg : Str → Option Value) (r : List V → Hp → VK → Prop) (f : List D → Option D) : Prop :=
  ∀ H vs ds d Q, RepL K mg H vs ds → f ds = some d → (∀ v, (∀ F, Rep K mg F v d) → Q v H) → r vs H Q
def eCB (f : List D → Option D) (fs : Env → Option (Out (List D))) : Env → Option (Out D) := bnd fs fun ds => lift (f ds)
theorem den_cb {K : PySem.W.Frag} {mg : Str → Option Value} {r : List V → Hp → VK → Prop} {f : List D → Option D} (hr : CallH K mg r f) (h : DenC K mg B bs ts fs) : Den K mg B (tCB r ts) (eCB f fs) := fun ε σ F H Q q ok e p => by
  rcases bnd_some e with ⟨y, ε', e1, rfl⟩ | ⟨ds, ε1, e1, e⟩
  · exact h ε σ F H _ _ ok e1 p
  refine h ε σ F H _ _ ok e1 fun vs F2 H2 Fc ok2 s2 s3 s4 n r2 r2' => ?_
  obtain ⟨d, ed, rfl⟩ := lift_some e
  exact hr H2 vs ds d Q (r2.mono s4) ed fun v hv => p v F2 H2 ok2 s2 (hv F2)
theorem ve_cb {x : Str} {id : String} {r : List V → Hp → VK → Prop} {f : List D → Option D} (hc : CallR X (.builtin id) r) (hd : CallH X.K X.mg r f) (hg : Gl X x) (hm : X.mg x = none) (hv : bootBuiltins x = some (.builtin id)) (ha : VB X B (e :: es) bs ts fs) (hn : x ≠ "__name__" := by decide) (hdb : (x == ("__debug__" : Str)) = false := by decide)
    (he : starEach (e :: es) X.env = (false, eval e X.env) :: starEach es X.env := by rfl) (hpl : (backTo pos (starEach es X.env)).any (·.1) = false := by rfl) : VE X B (.Call (.Name x p) (e :: es) [] pos) (tCB r ts) (eCB f fs) := ⟨pe_callB hc hg hm hv ha.pa hn hdb he hpl, den_cb hd ha.den⟩
theorem ve_ct {x : Str} {T : String} {r : List V → Hp → VK → Prop} {f : List D → Option D} (hc : CallR X (.type T) r) (hd : CallH X.K X.mg r f) (hg : Gl X x) (hm : X.mg x = none) (hv : bootBuiltins x = some (.type T)) (ha : VB X B (e :: es) bs ts fs) (hn : x ≠ "__name__" := by decide) (hdb : (x == ("__debug__" : Str)) = false := by decide)
    (he : starEach (e :: es) X.env = (false, eval e X.env) :: starEach es X.env := by rfl) (hpl : (backTo pos (starEach es X.env)).any (·.1) = false := by rfl) : VE X B (.Call (.Name x p) (e :: es) [] pos) (tCB r ts) (eCB f fs) := ⟨pe_callTy hc hg hm hv ha.pa hn hdb he hpl, den_cb hd ha.den⟩
/-- a module's name for a built-in function -/
theorem ve_cf {x : Str} {id : String} {r : List V → Hp → VK → Prop} {f : List D → Option D} (hc : CallR X (.builtin id) r) (hd : CallH X.K X.mg r f) (hg : Gl X x) (hm : X.mg x = some (.builtin id)) (ha : VB X B (e :: es) bs ts fs) (hdb : (x == ("__debug__" : Str)) = false := by decide)
    (he : starEach (e :: es) X.env = (false, eval e X.env) :: starEach es X.env := by rfl) (hpl : (backTo pos (starEach es X.env)).any (·.1) = false := by rfl) : VE X B (.Call (.Name x p) (e :: es) [] pos) (tCB r ts) (eCB f fs) := ⟨pe_callBfun hc hg hm ha.pa hdb he hpl, den_cb hd ha.den⟩

/-! ### the text's own defs: what they promise -/
/-- what a call leaves as it was -/
structure Kp (K : PySem.W.Frag) (H H' : Hp) : Prop where
  keep : ∀ a o, H a = some o → (∀ ps, o ≠ .tbl ps) → H' a = some o
  tab : Tbs K H'
  there : ∀ a, H a ≠ none → H' a ≠ none
theorem NoT.cut {F Fc : Hp} (n : NoT F) (s : Same F Fc) (h : ∀ a, F a = none → Fc a ≠ none → ∃ ws, Fc a = some (.lst ws)) : NoT Fc := fun a ps z => by
  cases e : F a with
  | some o =>
    rw [s _ _ e] at z
    cases z
    exact n a ps e
  | none =>
    obtain ⟨ws, y⟩ := h a e (by rw [z]; exact fun q => nomatch q)
    rw [z] at y; cases y
/-- no list is lent: fn of the data -/
def spV (K : PySem.W.Frag) (mg : Str → Option Value) (n : Nat) (fn : List D → Option D) : Sp := fun vs H Q _ => vs.length = n ∧ ∃ F ds d, Same F H ∧ NoT F ∧ Tbs K H ∧ RepL K mg F vs ds ∧ fn ds = some d ∧
  ∀ v H' F', Same F F' → Same F' H' → (∀ a, H a ≠ none → F a = none → F' a = none) → NoT F' → Kp K H H' → Rep K mg F' v d → Q v H'
/-- the first argument is a list that is lent and changed -/
def spM (K : PySem.W.Frag) (mg : Str → Option Value) (n : Nat) (fn : List D → List D → Option (D × List D)) : Sp := fun vs H Q _ => vs.length = n + 1 ∧ ∃ F p ws cs us ds d cs', vs = .ref p :: us ∧ Same F H ∧ NoT F ∧ Tbs K H ∧ F p = none ∧ H p = some (.lst ws) ∧ RepL K mg F ws cs ∧ RepL K mg F us ds ∧ fn cs ds = some (d, cs') ∧
  ∀ v H' F' ws', Same F F' → Same F' H' → (∀ a, H a ≠ none → F a = none → F' a = none) → NoT F' → (∀ a o, a ≠ p → H a = some o → (∀ ps, o ≠ .tbl ps) → H' a = some o) → Tbs K H' → (∀ a, H a ≠ none → H' a ≠ none) → H' p = some (.lst ws') → RepL K mg F' ws' cs' → Rep K mg F' v d → Q v H'
/-- a def of the text that keeps a promise -/
def FnB (P : Program) (w : World) (K : PySem.W.Frag) (mg : Str → Option Value) (base : Heap) (k : Nat) (x : Str) (ps : List Str) (sp : Sp) : Prop :=
  ∃ f fd, FnG P w K mg base (L2.CX P w) k f fd ps sp ∧ mg x = some (.ref f) ∧ PySem.W.keepIn K (.ref f) = true ∧ Binds K fd ps []
theorem FnB.mono {P : Program} {w : World} {K : PySem.W.Frag} {mg : Str → Option Value} {base : Heap} {j k : Nat} {x : Str} {ps : List Str} {sp : Sp} (F : FnB P w K mg base j x ps sp) (h : j ≤ k) : FnB P w K mg base k x ps sp :=
  let ⟨f, fd, a, b, c, d⟩ := F
  ⟨f, fd, a.mono h, b, c, d⟩
def eCall (fn : List D → Option D) (bs : List Nat) (fs : Env → Option (Out (List D))) : Env → Option (Out D) := bnd fs fun ds ε => (fn ds).bind fun d => if (bs.all (isFr ε) || noL d) = true then some (.ok d ε) else none
section
variable {K : PySem.W.Frag} {mg : Str → Option Value} {B : Bs} {ε : Env} {σ : St} {F F' Fc H H' : Hp}
theorem OkV.callA (ok : OkV K mg B ε σ F H) (t1 : Same F F') (t2 : Same F' H') (t3 : ∀ a, H a ≠ none → F a = none → F' a = none) (tn : NoT F') (t4 : Kp K H H') : OkV K mg B ε σ F' H' := by
  refine ⟨t2, ok.grow.trans t1, fun a h1 h2 => t3 a (ok.there a h1) (ok.frame a h1 h2), fun a o h1 h2 h3 => t4.keep _ _ (ok.keep a o h1 h2 h3) h3, fun a h1 => t4.there a (ok.there a h1), ok.len, fun i s es => ?_, ok.apart, t4.tab, tn⟩
  obtain ⟨u, su, so⟩ := ok.slot i s es
  exact ⟨u, su, so.mono t1 fun q ws l cs _ _ fq hq => ⟨t3 q (by rw [hq]; exact fun z => nomatch z) fq, t4.keep _ _ hq fun _ z => nomatch z⟩⟩
theorem OkV.callC (ok : OkV K mg B ε σ F H) (s3 : Same F Fc) (n : ∀ a, F a = none → Fc a ≠ none → ∃ ws, Fc a = some (.lst ws)) (t1 : Same Fc F') (t2 : Same F' H') (t3 : ∀ a, H a ≠ none → Fc a = none → F' a = none) (tn : NoT F') (t4 : Kp K H H') :
    ∃ G, OkV K mg B ε σ G H' ∧ Same F G ∧ ∀ a o, F' a = some o → (∀ ws, o ≠ .lst ws) → G a = some o := by
  generalize eG : (fun a => if F a = none ∧ Fc a ≠ none then none else F' a : Hp) = G
  have g1 : ∀ a, F a = none → Fc a ≠ none → G a = none := fun a z1 z2 => by rw [← eG]; exact if_pos ⟨z1, z2⟩
  have g2 : ∀ a, ¬ (F a = none ∧ Fc a ≠ none) → G a = F' a := fun a z => by rw [← eG]; exact if_neg z
  have gs : Same G F' := fun a o ea => by
    by_cases z : F a = none ∧ Fc a ≠ none
    · rw [g1 a z.1 z.2] at ea; cases ea
    · rw [g2 a z] at ea; exact ea
  have gF : Same F G := fun a o ea => by
    rw [g2 a (fun z => by rw [ea] at z; cases z.1)]
    exact t1 _ _ (s3 _ _ ea)
  refine ⟨G, ⟨gs.trans t2, ok.grow.trans gF, fun a h1 h2 => ?_, fun a o h1 h2 h3 => t4.keep _ _ (ok.keep a o h1 h2 h3) h3, fun a h1 => t4.there a (ok.there a h1), ok.len, fun i s es => ?_, ok.apart, t4.tab, fun a ps z => tn a ps (gs _ _ z)⟩, gF, fun a o ea nl => ?_⟩
  · have f2 := ok.frame a h1 h2
    by_cases z : Fc a = none
    · rw [g2 a (fun q => q.2 z)]; exact t3 a (ok.there a h1) z
    · exact g1 a f2 z
  · obtain ⟨u, su, so⟩ := ok.slot i s es
    refine ⟨u, su, so.mono gF fun q ws l cs _ _ fq hq => ⟨?_, t4.keep _ _ hq fun _ z => nomatch z⟩⟩
    by_cases z : Fc q = none
    · rw [g2 q (fun y => y.2 z)]; exact t3 q (by rw [hq]; exact fun z => nomatch z) z
    · exact g1 q fq z
  · rw [g2 a (fun z => ?_)]
    · exact ea
    · obtain ⟨ws, ew⟩ := n a z.1 z.2
      rw [t1 _ _ ew] at ea
      exact nl ws (Option.some.inj ea).symm
end
theorem den_call {K : PySem.W.Frag} {mg : Str → Option Value} {n : Nat} {fn : List D → Option D} (hl : ∀ ds d, fn ds = some d → ds.length = n) (h : DenC K mg B bs ts fs) : Den K mg B (tCall (spV K mg n fn) [] E0 ts) (eCall fn bs fs) := fun ε σ F H Q q ok e p => by
  rcases bnd_some e with ⟨y, ε', e1, rfl⟩ | ⟨ds, ε1, e1, e⟩
  · exact h ε σ F H _ _ ok e1 p
  refine h ε σ F H _ _ ok e1 fun vs F2 H2 Fc ok2 s2 s3 s4 n r2 r2' => ?_
  obtain ⟨d, ed, e⟩ := Option.bind_eq_some_iff.mp e
  split at e
  · rename_i hc
    cases e
    rw [List.append_nil]
    have hlen : vs.length = _ := r2.length.trans (hl ds d ed)
    by_cases hfr : bs.all (isFr ε1) = true
    · exact ⟨hlen, F2, ds, d, ok2.sub, ok2.notb, ok2.tab, r2' hfr, ed, fun v H' F' t1 t2 t3 tn t4 rv => p v F' H' (ok2.callA t1 t2 t3 tn t4) (s2.trans t1) rv⟩
    · have hno : noL d = true := by simpa [hfr] using hc
      refine ⟨hlen, Fc, ds, d, s4, ok2.notb.cut s3 n, ok2.tab, r2, ed, fun v H' F' t1 t2 t3 tn t4 rv => ?_⟩
      obtain ⟨G, okG, gF, cut⟩ := ok2.callC s3 n t1 t2 t3 tn t4
      exact p v G H' okG (s2.trans gF) (rv.cut cut hno)
  · cases e
theorem pass_no {X : Cx} : Passes (L2.CX X.prog X.w) X E0 := fun _ _ _ _ _ _ _ h => by
  obtain ⟨_, _, _, _, _, _, _, _, _, _, _, _, z⟩ := h
  exact z.elim
theorem ve_call {x : Str} {k : Nat} {ps : List Str} {n : Nat} {fn : List D → Option D} (G : FnB X.prog X.w X.K X.mg X.base k x ps (spV X.K X.mg n fn)) (hl : ∀ ds d, fn ds = some d → ds.length = n) (hr : Room k X.A) (gd : X.A.guards = some []) (hg : Gl X x) (ha : VB X B (e :: es) bs ts fs) (hdb : (x == ("__debug__" : Str)) = false := by decide)
    (he : starEach (e :: es) X.env = (false, eval e X.env) :: starEach es X.env := by rfl) (hpl : (backTo pos (starEach es X.env)).any (·.1) = false := by rfl) :
    VE X B (.Call (.Name x p) (e :: es) [] pos) (tCall (spV X.K X.mg n fn) [] E0 ts) (eCall fn bs fs) :=
  let ⟨f, fd, F, hm, hk, hb⟩ := G
  ⟨pg_call F hr gd hg hm hk hb .nil pass_no ha.pa hdb he hpl, den_call hl ha.den⟩
/-- f(pen, ..): pen the slot i, a list that is owned here or lent to us -/
def eCallM (i : Nat) (fn : List D → List D → Option (D × List D)) (fs : Env → Option (Out (List D))) : Env → Option (Out D) := fun ε => match rdS i ε with
  | some _ => bnd fs (fun ds ε' => match ε'[i]? with
    | some (some (.ow l cs)) => (fn cs ds).map fun r => .ok r.1 (ε'.set i (some (.ow l r.2)))
    | _ => none) ε
  | none => none
theorem den_callM {K : PySem.W.Frag} {mg : Str → Option Value} {n : Nat} {fn : List D → List D → Option (D × List D)} (i : Nat) (hl : ∀ cs ds r, fn cs ds = some r → ds.length = n) (h : DenA K mg B ts fs) : Den K mg B (tCall (spM K mg n fn) [] E0 (tCons (tVar i) ts)) (eCallM i fn fs) := fun ε σ F H Q q ok e p => by
  unfold eCallM at e
  split at e
  · rename_i d0 e0
    obtain ⟨v, sv, _⟩ := ok.rd e0
    refine ⟨v, sv, ?_⟩
    rcases bnd_some e with ⟨y, ε', e1, rfl⟩ | ⟨ds, ε1, e1, e⟩
    · exact h ε σ F H _ _ ok e1 p
    refine h ε σ F H _ _ ok e1 fun vs F2 H2 ok2 s2 r2 => ?_
    split at e
    · rename_i l cs ec
      obtain ⟨⟨d, cs'⟩, ed, rfl⟩ := Option.map_eq_some_iff.mp e
      obtain ⟨v', sv', pp, us, rfl, fq, hq, rr, own⟩ := ok2.slot i _ ec
      rw [sv] at sv'; cases sv'
      rw [List.append_nil]
      refine ⟨by simp [r2.length, hl cs ds _ ed], F2, pp, us, cs, vs, ds, d, cs', rfl, ok2.sub, ok2.notb, ok2.tab, fq, hq, rr, r2, ed, fun v H' F' ws' t1 t2 t3 tn t4 tt th hp' rc rv => ?_⟩
      refine p v F' H' ⟨t2, ok2.grow.trans t1, fun a h1 h2 => t3 a (ok2.there a h1) (ok2.frame a h1 h2), fun a o h1 h2 h3 => ?_, fun a h1 => th a (ok2.there a h1), by simp [ok2.len], fun j s es => ?_, fun j k l1 l2 es fs u hjk e1 e2 e3 e4 => ?_, tt, tn⟩ (s2.trans t1) rv
      · refine t4 a o (fun z => ?_) (ok2.keep a o h1 h2 h3) h3
        subst z
        cases l with
        | true => exact h2 own
        | false =>
          have own : B.H0 a = none := own
          rw [h1] at own; cases own
      · rcases set_get es with ⟨rfl, es, hl⟩ | ⟨nj, es⟩
        · cases es
          exact ⟨.ref pp, sv, pp, ws', rfl, t3 pp (by rw [hq]; exact fun z => nomatch z) fq, hp', rc, own⟩
        · obtain ⟨u, su, so⟩ := ok2.slot j s es
          refine ⟨u, su, so.mono t1 fun q ws l' cs2 z1 z2 fq' hq' => ⟨t3 q (by rw [hq']; exact fun z => nomatch z) fq', t4 _ _ (fun z => ?_) hq' fun _ z => nomatch z⟩⟩
          subst z1 z2 z
          exact ok2.apart i j l l' cs cs2 _ (Ne.symm nj) ec es sv su
      · have g : ∀ {m : Nat} {l' : Bool} {gs : List D}, (ε1.set i (some (.ow l cs')))[m]? = some (some (.ow l' gs)) → ∃ l2 hs, ε1[m]? = some (some (.ow l2 hs)) := fun {m l' gs} z => by
          rcases set_get z with ⟨rfl, _, _⟩ | ⟨_, z⟩
          · exact ⟨l, cs, ec⟩
          · exact ⟨l', gs, z⟩
        obtain ⟨_, _, f1⟩ := g e1
        obtain ⟨_, _, f2⟩ := g e2
        exact ok2.apart j k _ _ _ _ u hjk f1 f2 e3 e4
    · cases e
  · cases e
theorem ve_callM {x y : Str} {py : Pos} {k : Nat} {ps : List Str} {n : Nat} {fn : List D → List D → Option (D × List D)} (i : Nat) (G : FnB X.prog X.w X.K X.mg X.base k x ps (spM X.K X.mg n fn)) (hl : ∀ cs ds r, fn cs ds = some r → ds.length = n) (hr : Room k X.A) (gd : X.A.guards = some []) (hg : Gl X x) (ha : VA X B es ts fs)
    (hN : X.N[i]? = some y := by rfl) (hv : Vis X.env.scope y := by first | exact Or.inl rfl | exact Or.inr (Or.inl rfl) | exact Or.inr (Or.inr rfl)) (hd : (y == ("__debug__" : Str)) = false := by decide) (hcd : (y == ("__classdict__" : Str)) = false := by decide)
    (hdb : (x == ("__debug__" : Str)) = false := by decide) (he : starEach (.Name y py :: es) X.env = (false, eval (.Name y py) X.env) :: starEach es X.env := by rfl) (hpl : (backTo pos (starEach es X.env)).any (·.1) = false := by rfl) :
    VE X B (.Call (.Name x p) (.Name y py :: es) [] pos) (tCall (spM X.K X.mg n fn) [] E0 (tCons (tVar i) ts)) (eCallM i fn fs) :=
  let ⟨f, fd, F, hm, hk, hb⟩ := G
  ⟨pg_call F hr gd hg hm hk hb .nil pass_no (pa_cons (pe_var hN hv hd hcd) ha.pa he) hdb he hpl, den_callM i hl ha.den⟩
end
end VL
end

section
set_option Elab.async false
set_option linter.all false
set_option maxRecDepth 100000
set_option maxHeartbeats 4000000
/-! VL5: statements, what is walked, loops. -/
namespace VL
open PySem L2
variable [LamN]

inductive R where
  | nx (ε : Env)
  | rt (d : D) (ε : Env)
  | bk (ε : Env)
  | ct (ε : Env)
  | ex (x : Exn) (ε : Env)
abbrev SF := Env → Option R
section
variable (K : PySem.W.Frag) (mg : Str → Option Value)
def PostS (B : Bs) (F : Hp) (D : Ends) : R → Prop
  | .nx ε => ∀ σ' F' H', OkV K mg B ε σ' F' H' → Same F F' → D.nx σ' H'
  | .bk ε => ∀ σ' F' H', OkV K mg B ε σ' F' H' → Same F F' → D.bk σ' H'
  | .ct ε => ∀ σ' F' H', OkV K mg B ε σ' F' H' → Same F F' → D.ct σ' H'
  | .rt d ε => ∀ v σ' F' H', OkV K mg B ε σ' F' H' → Same F F' → Rep K mg F' v d → D.rt v H'
  | .ex x ε => XPost K mg B x ε F
def DenS (B : Bs) (t : TS) (g : SF) : Prop := ∀ ε σ F H D r, OkV K mg B ε σ F H → g ε = some r → PostS K mg B F D r → t D σ H
/-- a target -/
def DenG (B : Bs) (is : List Nat) (t : TG) (g : D → Env → Option Env) : Prop := ∀ ε σ F H v d Q ε', OkV K mg B ε σ F H → Rep K mg F v d → g d ε = some ε' → (∀ σ' F' H', OkV K mg B ε' σ' F' H' → Same F F' → (∀ ws, (∀ i ∈ is, i ∈ ws) → wipe σ' ws = wipe σ ws) → Q σ' H') → t v σ H Q
def DenGs (B : Bs) (is : List Nat) (t : TGs) (g : List D → Env → Option Env) : Prop := ∀ ε σ F H vs ds Q ε', OkV K mg B ε σ F H → RepL K mg F vs ds → g ds ε = some ε' → (∀ σ' F' H', OkV K mg B ε' σ' F' H' → Same F F' → (∀ ws, (∀ i ∈ is, i ∈ ws) → wipe σ' ws = wipe σ ws) → Q σ' H') → t vs σ H Q
/-- what is walked: the items ds, frozen in F -/
structure WalkD (B : Bs) (J : It) (ds : List D) (F : Hp) : Prop where
  goes : ∀ i H, i < ds.length → Same F H → J.go i H
  stops : ∀ H, Same F H → J.stop ds.length H
  yields : ∀ i d x H H' ε σ F2, ds[i]? = some d → OkV K mg B ε σ F2 H → Same F F2 → J.yld i H x H' → ∃ F3, OkV K mg B ε σ F3 H' ∧ Same F2 F3 ∧ Same H H' ∧ (∀ a, H a ≠ none → F2 a = none → F3 a = none) ∧ Rep K mg F3 x d
def PostI (B : Bs) (σ : St) (F : Hp) (R : It → Hp → Prop) : Out (List D) → Prop
  | .ok ds ε => ∀ J F' H', OkV K mg B ε σ F' H' → Same F F' → WalkD K mg B J ds F' → R J H'
  | .ex x ε => XPost K mg B x ε F
def DenI (B : Bs) (t : TI) (f : Env → Option (Out (List D))) : Prop := ∀ ε σ F H R r, OkV K mg B ε σ F H → f ε = some r → PostI K mg B σ F R r → t σ H R
end
structure VS (X : Cx) (B : Bs) (s : Stmt) (t : TS) (g : SF) : Prop where
  ps : PS X s t
  den : DenS X.K X.mg B t g
structure VSs (X : Cx) (B : Bs) (s : List Stmt) (t : TS) (g : SF) : Prop where
  ps : PSs X s t
  den : DenS X.K X.mg B t g
structure VG (X : Cx) (B : Bs) (is : List Nat) (e : Expr) (t : TG) (g : D → Env → Option Env) : Prop where
  pg : PG X e t
  den : DenG X.K X.mg B is t g
structure VGs (X : Cx) (B : Bs) (is : List Nat) (es : List Expr) (t : TGs) (g : List D → Env → Option Env) : Prop where
  pg : PGs X es t
  den : DenGs X.K X.mg B is t g
theorem wipe_set {σ : St} {i : Nat} {x : Option V} : ∀ {ws : List Nat}, i ∈ ws → wipe (σ.set i x) ws = wipe σ ws
  | [], h => by cases h
  | w :: ws, h => by
    show (wipe (σ.set i x) ws).set w none = (wipe σ ws).set w none
    by_cases e : i ∈ ws
    · rw [wipe_set e]
    · have hw : i = w := by
        rcases List.mem_cons.mp h with z | z
        · exact z
        · exact absurd z e
      subst hw
      have g : ∀ {us : List Nat}, i ∉ us → wipe (σ.set i x) us = (wipe σ us).set i x := by
        intro us
        induction us with
        | nil => intro _; rfl
        | cons u us ih =>
          intro hu
          have h1 : i ≠ u := fun z => hu (by rw [z]; exact List.mem_cons_self)
          show (wipe (σ.set i x) us).set u none = ((wipe σ us).set u none).set i x
          rw [ih fun z => hu (List.mem_cons_of_mem _ z), List.set_comm _ _ h1]
      rw [g e, List.set_set]
structure VI (X : Cx) (B : Bs) (tg e : Expr) (t : TI) (f : Env → Option (Out (List D))) : Prop where
  pi : PI X tg e t
  den : DenI X.K X.mg B t f

/-! ### the data level of statements -/
def sNil : SF := fun ε => some (.nx ε)
def sSeq (g h : SF) : SF := fun ε => match g ε with
  | some (.nx ε') => h ε'
  | r => r
/-- an expression ahead, then what its value does -/
def sE {α : Type} (f : Env → Option (Out α)) (k : α → Env → Option R) : SF := fun ε => match f ε with
  | some (.ok a ε') => k a ε'
  | some (.ex x ε') => some (.ex x ε')
  | none => none
theorem sE_some {α : Type} {f : Env → Option (Out α)} {k : α → Env → Option R} {ε : Env} {r : R} (h : sE f k ε = some r) : (∃ x ε', f ε = some (.ex x ε') ∧ r = .ex x ε') ∨ ∃ a ε', f ε = some (.ok a ε') ∧ k a ε' = some r := by
  unfold sE at h
  cases e : f ε with
  | none => rw [e] at h; cases h
  | some o =>
    rw [e] at h
    cases o with
    | ok a ε' => exact .inr ⟨a, ε', rfl, h⟩
    | ex x ε' => exact .inl ⟨x, ε', rfl, (Option.some.inj h).symm⟩
def sExpr (f : Env → Option (Out D)) : SF := sE f fun _ ε => some (.nx ε)
def sRet (f : Env → Option (Out D)) : SF := sE f fun d ε => some (.rt d ε)
def sRetN : SF := fun ε => some (.rt .non ε)
def sIf (c : Env → Option (Out Bool)) (g h : SF) : SF := sE c fun b => if b = true then g else h
def sSet (i : Nat) (f : Env → Option (Out D)) : SF := sE f fun d ε => some (.nx (ε.set i (some (.fr d))))
def sOwn (i : Nat) (f : Env → Option (Out (List D))) : SF := sE f fun ds ε => some (.nx (ε.set i (some (.ow false ds))))
def sAsg (f : Env → Option (Out D)) (g : D → Env → Option Env) : SF := sE f fun d ε => (g d ε).map .nx

section
variable {X : Cx} {B : Bs} {a b c e tg : Expr} {es : List Expr} {st : Stmt} {sts rest : List Stmt} {t u tb : TS} {g h : SF} {te ta : TE} {fe fa : Env → Option (Out D)} {tc : TT} {fc : Env → Option (Out Bool)} {pos p : Pos} {tn : TE} {fn : Env → Option (Out (List D))}
theorem PostS.mono {K : PySem.W.Frag} {mg : Str → Option Value} {F F' : Hp} {D : Ends} {r : R} (h : PostS K mg B F D r) (s : Same F F') : PostS K mg B F' D r := by
  cases r with
  | nx ε => exact fun σ F2 H2 ok s2 => h σ F2 H2 ok (s.trans s2)
  | bk ε => exact fun σ F2 H2 ok s2 => h σ F2 H2 ok (s.trans s2)
  | ct ε => exact fun σ F2 H2 ok s2 => h σ F2 H2 ok (s.trans s2)
  | rt d ε => exact fun v σ F2 H2 ok s2 => h v σ F2 H2 ok (s.trans s2)
  | ex x ε => exact XPost.mono h s
theorem vss_nil : VSs X B [] tNext sNil := ⟨pss_nil, fun ε σ F H D r ok e p => by cases e; exact p σ F H ok (Same.refl _)⟩
theorem den_seq {K : PySem.W.Frag} {mg : Str → Option Value} (h1 : DenS K mg B t g) (h2 : DenS K mg B u h) : DenS K mg B (tSeq t u) (sSeq g h) := fun ε σ F H D r ok e p => by
  unfold sSeq at e
  cases eg : g ε with
  | none => rw [eg] at e; cases e
  | some q =>
    rw [eg] at e
    cases q with
    | nx ε' =>
      have e : h ε' = some r := e
      exact h1 ε σ F H _ _ ok eg fun σ' F' H' ok' s' => h2 ε' σ' F' H' D r ok' e (p.mono s')
    | rt d ε' => cases e; exact h1 ε σ F H _ _ ok eg p
    | bk ε' => cases e; exact h1 ε σ F H _ _ ok eg p
    | ct ε' => cases e; exact h1 ε σ F H _ _ ok eg p
    | ex x ε' => cases e; exact h1 ε σ F H _ _ ok eg p
theorem vss_cons (h1 : VS X B st t g) (h2 : VSs X B rest u h) : VSs X B (st :: rest) (tSeq t u) (sSeq g h) := ⟨pss_cons h1.ps h2.ps, den_seq h1.den h2.den⟩
theorem vss_one (h1 : VS X B st t g) : VSs X B [st] t g := ⟨pss_one h1.ps, h1.den⟩
theorem vs_pass : VS X B (.Pass pos) tNext sNil := ⟨ps_pass, vss_nil.den⟩
theorem vs_break : VS X B (.Break pos) tBreak (fun ε => some (.bk ε)) := ⟨ps_break, fun ε σ F H D r ok e p => by cases e; exact p σ F H ok (Same.refl _)⟩
theorem vs_continue : VS X B (.Continue pos) tCont (fun ε => some (.ct ε)) := ⟨ps_continue, fun ε σ F H D r ok e p => by cases e; exact p σ F H ok (Same.refl _)⟩
/-- never reached -/
theorem vs_never : VS X B st tNever (fun _ => none) := ⟨ps_never, fun ε σ F H D r ok e p => by cases e⟩
theorem vs_expr (he : VE X B e te fe) (hs : swapsWith e none pos.line X.env = pure false := by rfl) : VS X B (.Expr e pos) (tDrop te) (sExpr fe) := ⟨ps_expr he.pe hs, fun ε σ F H D r ok e p => by
  rcases sE_some e with ⟨x, ε', e1, rfl⟩ | ⟨d, ε1, e1, e⟩
  · exact he.den ε σ F H _ _ ok e1 p
  cases e
  exact he.den ε σ F H _ _ ok e1 fun v F1 H1 ok1 s1 r1 => p σ F1 H1 ok1 s1⟩
theorem vs_ret (he : VE X B e te fe) : VS X B (.Return (some e) pos) (tRet te) (sRet fe) := ⟨ps_ret he.pe, fun ε σ F H D r ok e p => by
  rcases sE_some e with ⟨x, ε', e1, rfl⟩ | ⟨d, ε1, e1, e⟩
  · exact he.den ε σ F H _ _ ok e1 p
  cases e
  exact he.den ε σ F H _ _ ok e1 fun v F1 H1 ok1 s1 r1 => p v σ F1 H1 ok1 s1 r1⟩
theorem vs_retN : VS X B (.Return none pos) tRetN sRetN := ⟨ps_retN, fun ε σ F H D r ok e p => by cases e; exact p .non σ F H ok (Same.refl _) .non⟩
theorem vs_if (hc : VT X B c tc fc) (ha : VSs X B sts t g) (hb : VSs X B rest u h) : VS X B (.If c sts rest pos) (tIfS tc t u) (sIf fc g h) := ⟨ps_if hc.pt ha.ps hb.ps, fun ε σ F H D r ok e p => by
  rcases sE_some e with ⟨x, ε', e1, rfl⟩ | ⟨k, ε1, e1, e⟩
  · exact hc.den ε σ F H _ _ ok e1 p
  refine hc.den ε σ F H _ _ ok e1 fun F1 H1 ok1 s1 => ?_
  cases k with
  | true => rw [if_pos rfl] at e ⊢; exact ha.den ε1 σ F1 H1 D r ok1 e (p.mono s1)
  | false => rw [if_neg Bool.false_ne_true] at e ⊢; exact hb.den ε1 σ F1 H1 D r ok1 e (p.mono s1)⟩
theorem den_set {K : PySem.W.Frag} {mg : Str → Option Value} {i : Nat} (hd : Den K mg B te fe) : DenS K mg B (tAsg te (gName i)) (sSet i fe) := fun ε σ F H D r ok e p => by
  rcases sE_some e with ⟨x, ε', e1, rfl⟩ | ⟨d, ε1, e1, e⟩
  · exact hd ε σ F H _ _ ok e1 p
  cases e
  exact hd ε σ F H _ _ ok e1 fun v F1 H1 ok1 s1 r1 => p _ F1 H1 (ok1.setF r1 i) s1
theorem den_own {K : PySem.W.Frag} {mg : Str → Option Value} {i : Nat} (hd : DenN K mg B tn fn) : DenS K mg B (tAsg tn (gName i)) (sOwn i fn) := fun ε σ F H D r ok e p => by
  rcases sE_some e with ⟨x, ε', e1, rfl⟩ | ⟨ds, ε1, e1, e⟩
  · exact hd ε σ F H _ _ ok e1 p
  cases e
  exact hd ε σ F H _ _ ok e1 fun q vs F1 H1 ok1 s1 hq r1 => p _ F1 _ (ok1.setO hq r1 i) s1
theorem vs_set {i : Nat} {x : Str} {pos' : Pos} (hN : X.N.Nodup) (hi : X.N[i]? = some x) (hx : Loc X.env.scope x) (he : VE X B e te fe) (hs : swapsWith e (some (.Name x pos')) pos.line X.env = pure false := by rfl) (hf : X.fn x = true ∨ X.env.scope.names.lookup x = some .local := by first | exact .inl rfl | exact .inr rfl | assumption) :
    VS X B (.Assign [.Name x pos'] e pos) (tAsg te (gName i)) (sSet i fe) := ⟨ps_set hN hi hx he.pe hs hf, den_set he.den⟩
theorem vs_own {i : Nat} {x : Str} {pos' : Pos} (hN : X.N.Nodup) (hi : X.N[i]? = some x) (hx : Loc X.env.scope x) (he : VN X B e tn fn) (hs : swapsWith e (some (.Name x pos')) pos.line X.env = pure false := by rfl) (hf : X.fn x = true ∨ X.env.scope.names.lookup x = some .local := by first | exact .inl rfl | exact .inr rfl | assumption) :
    VS X B (.Assign [.Name x pos'] e pos) (tAsg tn (gName i)) (sOwn i fn) := ⟨ps_set hN hi hx he.pe hs hf, den_own he.den⟩

/-! ### targets -/
def gSetD (i : Nat) : D → Env → Option Env := fun d ε => some (ε.set i (some (.fr d)))
def gNilD : List D → Env → Option Env := fun ds ε => match ds with
  | [] => some ε
  | _ => none
def gConsD (g : D → Env → Option Env) (h : List D → Env → Option Env) : List D → Env → Option Env := fun ds ε => match ds with
  | d :: r => (g d ε).bind (h r)
  | [] => none
def gTupD (n : Nat) (h : List D → Env → Option Env) : D → Env → Option Env := fun d ε => match d with
  | .tup ds => if ds.length = n then h ds ε else none
  | _ => none
theorem vg_name {i : Nat} {x : Str} (hN : X.N.Nodup) (hi : X.N[i]? = some x) (hx : Loc X.env.scope x) (hf : X.fn x = true ∨ X.env.scope.names.lookup x = some .local := by first | exact .inl rfl | exact .inr rfl | assumption) : VG X B [i] (.Name x pos) (gName i) (gSetD i) := ⟨pg_name hN hi hx hf, fun ε σ F H v d Q ε' ok r e q => by
  cases e
  exact q _ F H (ok.setF r i) (Same.refl _) fun ws h => wipe_set (h i (List.mem_singleton.mpr rfl))⟩
theorem vgs_nil : VGs X B [] [] gNil gNilD := ⟨pgs_nil, fun ε σ F H vs ds Q ε' ok r e q => by
  cases r with
  | nil => cases e; exact ⟨rfl, q σ F H ok (Same.refl _) fun _ _ => rfl⟩
  | cons _ _ => cases e⟩
theorem vgs_cons {i1 i2 : List Nat} {t1 : TG} {g1 : D → Env → Option Env} {t2 : TGs} {g2 : List D → Env → Option Env} (h1 : VG X B i1 e t1 g1) (h2 : VGs X B i2 es t2 g2) (hs : (assignEach (e :: es) X.env).map (·.2) = assign e X.env :: (assignEach es X.env).map (·.2) := by rfl) : VGs X B (i1 ++ i2) (e :: es) (gCons t1 t2) (gConsD g1 g2) := ⟨pgs_cons h1.pg h2.pg hs, fun ε σ F H vs ds Q ε' ok r e q => by
  cases r with
  | nil => cases e
  | cons r t =>
    obtain ⟨ε1, e1, e⟩ := Option.bind_eq_some_iff.mp e
    exact ⟨_, _, rfl, h1.den ε σ F H _ _ _ ε1 ok r e1 fun σ1 F1 H1 ok1 s1 w1 => h2.den ε1 σ1 F1 H1 _ _ _ ε' ok1 (t.mono s1) e fun σ2 F2 H2 ok2 s2 w2 => q σ2 F2 H2 ok2 (s1.trans s2) fun ws h => (w2 ws fun i hi => h i (List.mem_append_right _ hi)).trans (w1 ws fun i hi => h i (List.mem_append_left _ hi))⟩⟩
theorem vg_tup {k n : Nat} {is : List Nat} {t2 : TGs} {g2 : List D → Env → Option Env} (hc : X.calm = true) (h : VGs X B is es t2 g2)
    (hn : (assignEach es X.env).length = n := by rfl) (hst : (assignEach es X.env).findIdx? (·.1) = none := by rfl) : VG X B is (.Tuple es k pos) (gTup X.K n t2) (gTupD n g2) := ⟨pg_tup hc h.pg hn hst, fun ε σ F H v d Q ε' ok r e q => by
  unfold gTupD at e
  split at e
  · split at e
    · rename_i hl
      cases r with | tup ha r =>
      exact ⟨_, _, rfl, same_sqT ok.sub ha, by rw [r.length]; exact hl, h.den ε σ F H _ _ Q ε' ok r e q⟩
    · cases e
  · cases e⟩
theorem vs_asg {is : List Nat} {tgt : TG} {g1 : D → Env → Option Env} (he : VE X B e te fe) (hg : VG X B is tg tgt g1) (hs : swapsWithSole [tg] e pos.line X.env = pure false := by rfl) (hw : swappedStores [tg] e X.env = pure none := by rfl)
    (h1 : (assignEach [tg] X.env).map (·.2) = [assign tg X.env] := by rfl) : VS X B (.Assign [tg] e pos) (tAsg te tgt) (sAsg fe g1) := ⟨ps_asg he.pe hg.pg hs hw h1, fun ε σ F H D r ok e p => by
  rcases sE_some e with ⟨x, ε', e1, rfl⟩ | ⟨d, ε1, e1, e⟩
  · exact he.den ε σ F H _ _ ok e1 p
  obtain ⟨ε2, e2, rfl⟩ := Option.map_eq_some_iff.mp e
  exact he.den ε σ F H _ _ ok e1 fun v F1 H1 ok1 s1 r1 => hg.den ε1 σ F1 H1 v d _ ε2 ok1 r1 e2 fun σ2 F2 H2 ok2 s2 _ => p σ2 F2 H2 ok2 (s1.trans s2)⟩
/-- a, b = x, y -/
def sPar (i j : Nat) (f : Env → Option (Out (List D))) : SF := sE f fun ds ε => match ds with
  | [a, b] => some (.nx ((ε.set i (some (.fr a))).set j (some (.fr b))))
  | _ => none
theorem vs_par {i j : Nat} {x y : Str} {px py pt : Pos} {kt k2 pt2} {ts : TA} {fs : Env → Option (Out (List D))} (hc : X.calm = true) (hN : X.N.Nodup) (hi : X.N[i]? = some x) (hj : X.N[j]? = some y) (hij : i ≠ j)
    (hx : X.env.scope.names.lookup x = some .local) (hy : X.env.scope.names.lookup y = some .local) (ha : VA X B [a, b] ts fs)
    (hw : swappedStores [.Tuple [.Name x px, .Name y py] kt pt] (.Tuple [a, b] k2 pt2) X.env = pure (some [x, y]))
    (hs : swapsWithSole [.Tuple [.Name x px, .Name y py] kt pt] (.Tuple [a, b] k2 pt2) pos.line X.env = pure false := by rfl) :
    VS X B (.Assign [.Tuple [.Name x px, .Name y py] kt pt] (.Tuple [a, b] k2 pt2) pos) (tPar i j ts) (sPar i j fs) := ⟨ps_par hc hN hi hj hij hx hy ha.pa hw hs, fun ε σ F H D r ok e p => by
  rcases sE_some e with ⟨x, ε', e1, rfl⟩ | ⟨ds, ε1, e1, e⟩
  · exact ha.den ε σ F H _ _ ok e1 p
  refine ha.den ε σ F H _ _ ok e1 fun vs F1 H1 ok1 s1 r1 => ?_
  split at e
  · cases e
    cases r1 with | cons ra r1 => cases r1 with | cons rb r1 => cases r1 with | nil =>
    exact ⟨_, _, rfl, p _ F1 H1 ((ok1.setF ra i).setF rb j) s1⟩
  · cases e⟩
end
end VL
end

section
set_option Elab.async false
set_option linter.all false
set_option maxRecDepth 100000
set_option maxHeartbeats 4000000
/-! VL6: methods of owned lists, items stored, what is walked, for and while, comprehensions, a def. -/
namespace VL
open PySem L2
variable [LamN]

section
variable {K : PySem.W.Frag} {mg : Str → Option Value} {B : Bs} {ε : Env} {σ : St} {F H : Hp}
theorem OkV.ow (ok : OkV K mg B ε σ F H) {i : Nat} {l : Bool} {ds : List D} (e : ε[i]? = some (some (.ow l ds))) : ∃ p vs, σ[i]? = some (some (.ref p)) ∧ F p = none ∧ H p = some (.lst vs) ∧ RepL K mg F vs ds := by
  obtain ⟨v, a, p, vs, rfl, f0, hp, r, _⟩ := ok.slot i _ e
  exact ⟨p, vs, a, f0, hp, r⟩
end
/-- x.append(e), x an owned slot -/
def eApp (i : Nat) (f : Env → Option (Out D)) : Env → Option (Out D) := fun ε => match ε[i]? with
  | some (some (.ow _ _)) => bnd f (fun d ε' => match ε'[i]? with
    | some (some (.ow l ds)) => if ds.length < sizeLine then some (.ok .non (ε'.set i (some (.ow l (ds ++ [d]))))) else none
    | _ => none) ε
  | _ => none
/-- x.pop() -/
def ePop (i : Nat) : Env → Option (Out D) := fun ε => match ε[i]? with
  | some (some (.ow l ds)) => (ds[ds.length - 1]?).map fun d => .ok d (ε.set i (some (.ow l ds.dropLast)))
  | _ => none
/-- x.pop(k) -/
def ePopAt (i : Nat) (f : Env → Option (Out D)) : Env → Option (Out D) := fun ε => match ε[i]? with
  | some (some (.ow _ _)) => bnd f (fun d ε' => match d, ε'[i]? with
    | .int k, some (some (.ow l ds)) => if -(2 ^ 63) ≤ k ∧ k < 2 ^ 63 then (seqIndex? k ds.length).bind fun j => (ds[j]?).map fun x => .ok x (ε'.set i (some (.ow l (ds.eraseIdx j)))) else none
    | _, _ => none) ε
  | _ => none
section
variable {X : Cx} {B : Bs} {e a b : Expr} {te ta tb : TE} {fe fa fb : Env → Option (Out D)} {pos p apos px : Pos} {x : Str}
theorem ve_append (i : Nat) (he : VE X B e te fe) (hN : X.N[i]? = some x := by rfl) (hv : Vis X.env.scope x := by first | exact Or.inl rfl | exact Or.inr (Or.inl rfl) | exact Or.inr (Or.inr rfl)) (hd : (x == ("__debug__" : Str)) = false := by decide) (hcd : (x == ("__classdict__" : Str)) = false := by decide)
    (pe : PE X e te → PE X (.Call (.Attribute (.Name x px) "append" apos) [e] [] pos) (tBM X.K "list" rAppend (tVar i) (tCons te tNil))) : VE X B (.Call (.Attribute (.Name x px) "append" apos) [e] [] pos) (tBM X.K "list" rAppend (tVar i) (tCons te tNil)) (eApp i fe) := ⟨pe he.pe, fun ε σ F H Q r ok e p => by
  unfold eApp at e
  split at e
  · rename_i l0 ds0 e0
    obtain ⟨q, vs, sv, _, hq, _⟩ := ok.ow e0
    refine ⟨_, sv, .inl ⟨rfl, _, SqL.of hq⟩, ?_⟩
    rcases bnd_some e with ⟨y, ε', e1, rfl⟩ | ⟨d, ε1, e1, e⟩
    · exact he.den ε σ F H _ _ ok e1 p
    refine he.den ε σ F H _ _ ok e1 fun v1 F1 H1 ok1 s1 r1 => ?_
    split at e
    · rename_i l ds ei
      split at e
      · rename_i hl
        cases e
        obtain ⟨q', vs', sv', _, hq', rr⟩ := ok1.ow ei
        rw [sv] at sv'; cases sv'
        exact ⟨q, vs', v1, rfl, rfl, hq', by rw [rr.length]; exact hl, p .non F1 _ (ok1.setM ei sv (rr.append (.cons r1 .nil))) s1 .non⟩
      · cases e
    · cases e
  · cases e⟩
theorem ve_pop (i : Nat) (hN : X.N[i]? = some x := by rfl)
    (pe : PE X (.Call (.Attribute (.Name x px) "pop" apos) [] [] pos) (tBM0 X.K "list" rPop (tVar i))) : VE X B (.Call (.Attribute (.Name x px) "pop" apos) [] [] pos) (tBM0 X.K "list" rPop (tVar i)) (ePop i) := ⟨pe, fun ε σ F H Q r ok e p => by
  unfold ePop at e
  split at e
  · rename_i l ds e0
    obtain ⟨q, vs, sv, _, hq, rr⟩ := ok.ow e0
    obtain ⟨d, ed, rfl⟩ := Option.map_eq_some_iff.mp e
    obtain ⟨v, ev, rv⟩ := rr.get ed
    refine ⟨_, sv, .inl ⟨rfl, _, SqL.of hq⟩, q, vs, v, rfl, rfl, hq, by rw [rr.length]; exact ev, p v F _ (ok.setM e0 sv rr.dropLast) (Same.refl _) rv⟩
  · cases e⟩
theorem ve_popAt (i : Nat) (he : VE X B e te fe) (hN : X.N[i]? = some x := by rfl)
    (pe : PE X e te → PE X (.Call (.Attribute (.Name x px) "pop" apos) [e] [] pos) (tBM X.K "list" rPopAt (tVar i) (tCons te tNil))) : VE X B (.Call (.Attribute (.Name x px) "pop" apos) [e] [] pos) (tBM X.K "list" rPopAt (tVar i) (tCons te tNil)) (ePopAt i fe) := ⟨pe he.pe, fun ε σ F H Q r ok e p => by
  unfold ePopAt at e
  split at e
  · rename_i l0 ds0 e0
    obtain ⟨q, vs, sv, _, hq, _⟩ := ok.ow e0
    refine ⟨_, sv, .inl ⟨rfl, _, SqL.of hq⟩, ?_⟩
    rcases bnd_some e with ⟨y, ε', e1, rfl⟩ | ⟨d, ε1, e1, e⟩
    · exact he.den ε σ F H _ _ ok e1 p
    refine he.den ε σ F H _ _ ok e1 fun v1 F1 H1 ok1 s1 r1 => ?_
    split at e
    · rename_i k l ds ei
      split at e
      · rename_i hk
        obtain ⟨j, ej, e⟩ := Option.bind_eq_some_iff.mp e
        obtain ⟨d, ed, rfl⟩ := Option.map_eq_some_iff.mp e
        obtain ⟨q', vs', sv', _, hq', rr⟩ := ok1.ow ei
        rw [sv] at sv'; cases sv'
        cases r1
        obtain ⟨v, ev, rv⟩ := rr.get ed
        exact ⟨q, vs', k, j, v, rfl, rfl, hq', hk.1, hk.2, by rw [rr.length]; exact ej, ev, p v F1 _ (ok1.setM ei sv (rr.eraseIdx j)) s1 rv⟩
      · cases e
    · cases e
  · cases e⟩
/-- x[k] = e, x an owned slot: e first, then k -/
def sPut (i : Nat) (f k : Env → Option (Out D)) : SF := sE f fun d ε1 => match rdS i ε1 with
  | some _ => sE k (fun kd ε => match kd, ε[i]? with
    | .int z, some (some (.ow l ds)) => (ixN ds.length z).map fun j => .nx (ε.set i (some (.ow l (ds.set j d))))
    | _, _ => none) ε1
  | none => none
theorem den_put {K : PySem.W.Frag} {mg : Str → Option Value} (i : Nat) (he : Den K mg B te fe) (hk : Den K mg B ta fa) : DenS K mg B (tAsg te (gSub (tVar i) ta rSetL)) (sPut i fe fa) := fun ε σ F H D r ok e p => by
  rcases sE_some e with ⟨x, ε', e1, rfl⟩ | ⟨d, ε1, e1, e⟩
  · exact he ε σ F H _ _ ok e1 p
  refine he ε σ F H _ _ ok e1 fun v F1 H1 ok1 s1 r1 => ?_
  split at e
  · rename_i d0 er
    obtain ⟨v0, sv0, _⟩ := ok1.rd er
    refine ⟨v0, sv0, ?_⟩
    rcases sE_some e with ⟨x, ε', e2, rfl⟩ | ⟨kd, ε2, e2, e⟩
    · exact hk ε1 σ F1 H1 _ _ ok1 e2 (XPost.mono p s1)
    refine hk ε1 σ F1 H1 _ _ ok1 e2 fun v2 F2 H2 ok2 s2 r2 => ?_
    split at e
    · rename_i z l ds ei
      obtain ⟨j, ej, rfl⟩ := Option.map_eq_some_iff.mp e
      obtain ⟨q, vs, sv, _, hq, rr⟩ := ok2.ow ei
      rw [sv0] at sv; cases sv
      cases r2
      exact ⟨q, vs, z, j, rfl, rfl, hq, by rw [rr.length]; exact ej, p σ F2 _ (ok2.setM ei sv0 (rr.set j (r1.mono s2))) (s1.trans s2)⟩
    · cases e
  · cases e
theorem vs_put {px : Pos} {x : Str} (i : Nat) (he : VE X B e te fe) (hk : VE X B a ta fa) (hN : X.N[i]? = some x := by rfl) (hv : Vis X.env.scope x := by first | exact Or.inl rfl | exact Or.inr (Or.inl rfl) | exact Or.inr (Or.inr rfl)) (hd : (x == ("__debug__" : Str)) = false := by decide) (hcd : (x == ("__classdict__" : Str)) = false := by decide)
    (ha : ∀ v, assign (.Subscript (.Name x px) a p) X.env v = (do
      let ov ← holding [v] (eval (.Name x px) X.env)
      let iv ← holding [v, ov] (eval a X.env)
      standAt p
      holding [v, ov, iv] (setItem ov iv v)
      release [v, ov, iv] []) := by intro _; rfl)
    (hs : swapsWithSole [.Subscript (.Name x px) a p] e pos.line X.env = pure false := by rfl) (hw : swappedStores [.Subscript (.Name x px) a p] e X.env = pure none := by rfl)
    (h1 : (assignEach [.Subscript (.Name x px) a p] X.env).map (·.2) = [assign (.Subscript (.Name x px) a p) X.env] := by rfl) :
    VS X B (.Assign [.Subscript (.Name x px) a p] e pos) (tAsg te (gSub (tVar i) ta rSetL)) (sPut i fe fa) := ⟨ps_asg he.pe (pg_sub (pe_var hN hv hd hcd) hk.pe set_list ha) hs hw h1, den_put i he.den hk.den⟩

/-! ### what is walked -/
end
section
variable {X : Cx} {B : Bs} {e a b tg : Expr} {es : List Expr} {te ta tb : TE} {fe fa fb : Env → Option (Out D)} {pos p : Pos} {ts : TA} {fs : Env → Option (Out (List D))}
def iSeq (K : PySem.W.Frag) (tl : TE) : TI := fun σ H R => tl σ H fun x H1 => (∃ a xs, x = .ref a ∧ SqL K H1 a xs ∧ R (Itl K a) H1) ∨ (∃ a xs, x = .ref a ∧ SqT K H1 a xs ∧ R (Itt K a) H1) ∨ ∃ z, x = .str z ∧ R (Its z) H1
theorem pi_seq (hl : PE X e te) : PI X tg e (iSeq X.K te) := by
  refine ⟨fun pins s σ H R I h => ?_⟩
  refine thn (hl.run pins s σ H _ I h) fun v s1 ⟨x, H1, I1, r1, q1⟩ => ?_
  rcases q1 with ⟨a, xs, e, hq, q⟩ | ⟨a, xs, e, hq, q⟩ | ⟨z, e, q⟩
  · subst e
    cases r1
    obtain ⟨its, rv, p, hz⟩ := I1.list hq
    refine wpAny_pyIter_list p.isList ?_
    refine ⟨s1.heap.objs.size, [s1.heap.objs.size], _, _, H1, rfl, I1.kept (t' := s1.toks) fun b o e => Heap.get?_push_of_some _ e, turn_list a _, ⟨_, Heap.get?_push_size _ rfl, rfl, rfl⟩, fun b hb => ?_, q⟩
    have e : b = s1.heap.objs.size := by simpa using hb
    subst e
    exact I1.fpOk (Nat.le_refl _) (I1.hok.fresh (Nat.le_refl _))
  · subst e
    cases r1
    obtain ⟨its, rv, p, hz⟩ := I1.tuple hq
    refine wpAny_pyIter_tuple (show s1.heap.IsTuple a its.toArray from p) ?_
    refine ⟨s1.heap.objs.size, [s1.heap.objs.size], _, _, H1, rfl, I1.kept (t' := s1.toks) fun b o e => Heap.get?_push_of_some _ e, turn_tuple a _, ⟨_, Heap.get?_push_size _ rfl, rfl, rfl⟩, fun b hb => ?_, q⟩
    have e : b = s1.heap.objs.size := by simpa using hb
    subst e
    exact I1.fpOk (Nat.le_refl _) (I1.hok.fresh (Nat.le_refl _))
  · subst e
    obtain ⟨t, rfl⟩ := r1
    cases ha : z.cps.all (· < 128)
    · exact wpAny_pyIter_wide ha (pi_one (tk := s1.toks) I1 _ (turn_str _ z t "str_iterator" (.inr rfl)) ⟨_, Heap.get?_push_size _ rfl, rfl, rfl⟩ q)
    · exact wpAny_pyIter_ascii ha (pi_one (tk := s1.toks) I1 _ (turn_str _ z t "str_ascii_iterator" (.inl rfl)) ⟨_, Heap.get?_push_size _ rfl, rfl, rfl⟩ q)
/-- the items of what is walked -/
def itemsD : D → Option (List D)
  | .lst xs => some xs
  | .frl xs => some xs
  | .tup xs => some xs
  | .str s => some (s.cps.toList.map fun c => .str ⟨#[c]⟩)
  | _ => none
section
variable {K : PySem.W.Frag} {mg : Str → Option Value}
theorem walkD_list {F : Hp} {a : Addr} {vs : List V} {ds : List D} (h : SqL K F a vs) (r : RepL K mg F vs ds) : WalkD K mg B (Itl K a) ds F := by
  have w := walk_list (K := K) (a := a) (xs := vs)
  refine ⟨fun i H hi s => w.goes i H (by rw [r.length]; exact hi) (s.seq h), fun H s => by rw [← r.length]; exact w.stops H (s.seq h), fun i d x H H' ε σ F2 ed ok s y => ?_⟩
  have hi : i < vs.length := by rw [r.length]; exact (List.getElem?_eq_some_iff.mp ed).1
  obtain ⟨rfl, ex⟩ := w.yields i H x H' hi (ok.sub.seq (s.seq h)) y
  obtain ⟨v, ev, rv⟩ := r.get ed
  rw [ev] at ex; cases ex
  exact ⟨F2, ok, Same.refl _, Same.refl _, fun _ _ h => h, rv.mono s⟩
theorem walkD_tup {F : Hp} {a : Addr} {vs : List V} {ds : List D} (h : SqT K F a vs) (r : RepL K mg F vs ds) : WalkD K mg B (Itt K a) ds F := by
  have w := walk_tup (K := K) (a := a) (xs := vs)
  refine ⟨fun i H hi s => w.goes i H (by rw [r.length]; exact hi) (same_sqT s h), fun H s => by rw [← r.length]; exact w.stops H (same_sqT s h), fun i d x H H' ε σ F2 ed ok s y => ?_⟩
  have hi : i < vs.length := by rw [r.length]; exact (List.getElem?_eq_some_iff.mp ed).1
  obtain ⟨rfl, ex⟩ := w.yields i H x H' hi (same_sqT ok.sub (same_sqT s h)) y
  obtain ⟨v, ev, rv⟩ := r.get ed
  rw [ev] at ex; cases ex
  exact ⟨F2, ok, Same.refl _, Same.refl _, fun _ _ h => h, rv.mono s⟩
theorem walkD_str {F : Hp} {z : Str} : WalkD K mg B (Its z) (z.cps.toList.map fun c => D.str ⟨#[c]⟩) F := by
  have w := walk_str (z := z)
  refine ⟨fun i H hi s => w.goes i H (by simpa using hi) trivial, fun H s => by rw [List.length_map, Array.length_toList]; exact w.stops H trivial, fun i d x H H' ε σ F2 ed ok s y => ?_⟩
  rw [List.getElem?_map] at ed
  obtain ⟨c, ec, rfl⟩ := Option.map_eq_some_iff.mp ed
  have hi : i < z.cps.size := by have := (List.getElem?_eq_some_iff.mp ec).1; simpa using this
  obtain ⟨rfl, c', ec', rfl⟩ := w.yields i H x H' hi trivial y
  have : c = c' := by
    rw [Array.getElem?_toList] at ec
    exact Option.some.inj (ec.symm.trans ec')
  subst this
  exact ⟨F2, ok, Same.refl _, Same.refl _, fun _ _ h => h, .str _⟩
theorem walkD_range {F : Hp} {lo : Int} {n : Nat} : WalkD K mg B (Itr lo n) ((List.range n).map fun i => D.int (lo + (i : Nat))) F := by
  have w := walk_range (lo := lo) (n := n)
  refine ⟨fun i H hi s => w.goes i H (by simpa using hi) trivial, fun H s => by rw [List.length_map, List.length_range]; exact w.stops H trivial, fun i d x H H' ε σ F2 ed ok s y => ?_⟩
  rw [List.getElem?_map] at ed
  obtain ⟨c, ec, rfl⟩ := Option.map_eq_some_iff.mp ed
  have hi : i < n := by have := (List.getElem?_eq_some_iff.mp ec).1; simpa using this
  have hc : c = i := by
    rw [List.getElem?_range hi] at ec
    exact (Option.some.inj ec).symm
  subst hc
  obtain ⟨rfl, rfl⟩ := w.yields _ H x H' hi trivial y
  exact ⟨F2, ok, Same.refl _, Same.refl _, fun _ _ h => h, .int _⟩
end
def iItems (f : Env → Option (Out D)) : Env → Option (Out (List D)) := bnd f fun d => lift (itemsD d)
theorem vi_seq (he : VE X B e te fe) : VI X B tg e (iSeq X.K te) (iItems fe) := ⟨pi_seq he.pe, fun ε σ F H R r ok e p => by
  rcases bnd_some e with ⟨y, ε', e1, rfl⟩ | ⟨d, ε1, e1, e⟩
  · exact he.den ε σ F H _ _ ok e1 p
  refine he.den ε σ F H _ _ ok e1 fun v1 F1 H1 ok1 s1 r1 => ?_
  obtain ⟨ds, ed, rfl⟩ := lift_some e
  cases r1 with
  | lst h r => cases ed; exact .inl ⟨_, _, rfl, SqL.of (ok1.sub _ _ h), p _ F1 H1 ok1 s1 (walkD_list (SqL.of h) r)⟩
  | frl h r => cases ed; exact .inl ⟨_, _, rfl, ok1.sub.seq h, p _ F1 H1 ok1 s1 (walkD_list h r)⟩
  | tup h r => cases ed; exact .inr (.inl ⟨_, _, rfl, same_sqT ok1.sub h, p _ F1 H1 ok1 s1 (walkD_tup h r)⟩)
  | str z => cases ed; exact .inr (.inr ⟨_, rfl, p _ F1 H1 ok1 s1 walkD_str⟩)
  | _ => cases ed⟩
def rngD (lo hi : Int) : List D := (List.range (hi - lo).toNat).map fun i => D.int (lo + (i : Nat))
def iRange1 (fs : Env → Option (Out (List D))) : Env → Option (Out (List D)) := bnd fs fun ds => lift (match ds with
  | [.int j] => if -(2 ^ 62) ≤ j ∧ j < 2 ^ 62 then some (rngD 0 j) else none
  | _ => none)
def iRange2 (fs : Env → Option (Out (List D))) : Env → Option (Out (List D)) := bnd fs fun ds => lift (match ds with
  | [.int i, .int j] => if -(2 ^ 62) ≤ i ∧ i < 2 ^ 62 ∧ -(2 ^ 62) ≤ j ∧ j < 2 ^ 62 then some (rngD i j) else none
  | _ => none)
theorem vi_range1 (hg : Gl X "range") (hm : X.mg "range" = none) (ha : VA X B [a] ts fs) (hs : starEach [a] X.env = [(false, eval a X.env)] := by rfl) : VI X B tg (.Call (.Name "range" p) [a] [] pos) (iRng1 ts) (iRange1 fs) := ⟨pi_range1 hg hm ha.pa hs, fun ε σ F H R r ok e p => by
  rcases bnd_some e with ⟨y, ε', e1, rfl⟩ | ⟨ds, ε1, e1, e⟩
  · exact ha.den ε σ F H _ _ ok e1 p
  refine ha.den ε σ F H _ _ ok e1 fun vs F1 H1 ok1 s1 r1 => ?_
  obtain ⟨it, ed, rfl⟩ := lift_some e
  split at ed
  · split at ed
    · rename_i hl
      cases ed
      cases r1 with | cons q r1 => cases r1 with | nil => cases q with | int _ =>
      refine ⟨_, rfl, hl.1, hl.2, p _ F1 H1 ok1 s1 ?_⟩
      unfold rngD
      rw [Int.sub_zero]
      exact walkD_range
    · cases ed
  · cases ed⟩
theorem vi_range2 (hg : Gl X "range") (hm : X.mg "range" = none) (ha : VA X B [a, b] ts fs) (hs : starEach [a, b] X.env = [(false, eval a X.env), (false, eval b X.env)] := by rfl) (hs2 : starEach [b] X.env = [(false, eval b X.env)] := by rfl) : VI X B tg (.Call (.Name "range" p) [a, b] [] pos) (iRng2 ts) (iRange2 fs) := ⟨pi_range2 hg hm ha.pa hs hs2, fun ε σ F H R r ok e p => by
  rcases bnd_some e with ⟨y, ε', e1, rfl⟩ | ⟨ds, ε1, e1, e⟩
  · exact ha.den ε σ F H _ _ ok e1 p
  refine ha.den ε σ F H _ _ ok e1 fun vs F1 H1 ok1 s1 r1 => ?_
  obtain ⟨it, ed, rfl⟩ := lift_some e
  split at ed
  · split at ed
    · rename_i hl
      cases ed
      cases r1 with | cons q r1 => cases r1 with | cons q' r1 => cases r1 with | nil => cases q with | int _ => cases q' with | int _ =>
      exact ⟨_, _, rfl, hl, p _ F1 H1 ok1 s1 walkD_range⟩
    · cases ed
  · cases ed⟩
end

/-! ### for, while -/
def forD (tgt : D → Env → Option Env) (body : SF) : List D → SF
  | [], ε => some (.nx ε)
  | d :: ds, ε => match tgt d ε with
    | none => none
    | some ε1 => match body ε1 with
      | some (.nx ε2) => forD tgt body ds ε2
      | some (.ct ε2) => forD tgt body ds ε2
      | some (.bk ε2) => some (.nx ε2)
      | r => r
def sFor (it : Env → Option (Out (List D))) (tgt : D → Env → Option Env) (body : SF) : SF := sE it fun ds => forD tgt body ds
def whileD (c : Env → Option (Out Bool)) (body : SF) : Nat → SF
  | 0, _ => none
  | n + 1, ε => match c ε with
    | none => none
    | some (.ex x ε1) => some (.ex x ε1)
    | some (.ok false ε1) => some (.nx ε1)
    | some (.ok true ε1) => match body ε1 with
      | some (.nx ε2) => whileD c body n ε2
      | some (.ct ε2) => whileD c body n ε2
      | some (.bk ε2) => some (.nx ε2)
      | r => r
theorem whileD_mono {c : Env → Option (Out Bool)} {body : SF} : ∀ {n m : Nat} {ε : Env} {r : R}, whileD c body n ε = some r → n ≤ m → whileD c body m ε = some r
  | 0, _, _, _, h, _ => by cases h
  | n + 1, 0, _, _, _, l => absurd l (by omega)
  | n + 1, m + 1, ε, r, h, l => by
    simp only [whileD] at h ⊢
    cases hc : c ε with
    | none => rw [hc] at h; cases h
    | some o =>
      rw [hc] at h
      cases o with
      | ex x ε1 => exact h
      | ok k ε1 =>
        cases k with
        | false => exact h
        | true =>
          simp only at h ⊢
          cases hb : body ε1 with
          | none => rw [hb] at h; cases h
          | some q =>
            rw [hb] at h
            cases q with
            | nx ε2 => exact whileD_mono h (by omega)
            | ct ε2 => exact whileD_mono h (by omega)
            | bk ε2 => exact h
            | rt d ε2 => exact h
            | ex x ε2 => exact h
open Classical in
/-- a while, however many turns -/
noncomputable def sWhile (c : Env → Option (Out Bool)) (body : SF) : SF := fun ε => if h : ∃ n r, whileD c body n ε = some r then some (Classical.choose (Classical.choose_spec h)) else none
theorem sWhile_of {c : Env → Option (Out Bool)} {body : SF} {n : Nat} {ε : Env} {r : R} (h : whileD c body n ε = some r) : sWhile c body ε = some r := by
  have he : ∃ n r, whileD c body n ε = some r := ⟨n, r, h⟩
  unfold sWhile
  rw [dif_pos he]
  have h2 := Classical.choose_spec (Classical.choose_spec he)
  have a := whileD_mono h (Nat.le_max_left n (Classical.choose he))
  have b := whileD_mono h2 (Nat.le_max_right n (Classical.choose he))
  rw [a] at b
  exact b.symm
theorem sWhile_some {c : Env → Option (Out Bool)} {body : SF} {ε : Env} {r : R} (h : sWhile c body ε = some r) : ∃ n, whileD c body n ε = some r := by
  unfold sWhile at h
  split at h
  · rename_i he
    have h2 := Classical.choose_spec (Classical.choose_spec he)
    rw [Option.some.inj h] at h2
    exact ⟨_, h2⟩
  · cases h
section
variable {X : Cx} {B : Bs} {e c tg iter : Expr} {body : List Stmt} {tb : TS} {gb : SF} {wi : TI} {fi : Env → Option (Out (List D))} {is : List Nat} {g : TG} {gt : D → Env → Option Env} {tc : TT} {fc : Env → Option (Out Bool)} {pos : Pos}
theorem vs_for (hp : PassesOwn (model X.prog X.w) X.A X.env X.xe) (hc : X.calm = true) (hi : VI X B tg iter wi fi) (hg : VG X B is tg g gt) (hb : VSs X B body tb gb)
    (hs : ∀ x, foldedSetIterable iter X.env x = pure x := by intro _; rfl) : VS X B (.For tg iter body [] pos) (tFor wi g tb) (sFor fi gt gb) := ⟨ps_for hp hc hi.pi hg.pg hb.ps hs, fun ε σ F H D r ok e p => by
  rcases sE_some e with ⟨x, ε', e1, rfl⟩ | ⟨ds, ε1, e1, e⟩
  · exact hi.den ε σ F H _ _ ok e1 p
  refine hi.den ε σ F H _ _ ok e1 fun J F1 H1 ok1 s1 w => ?_
  refine ⟨fun i m σ H => m = ds.length - i ∧ i ≤ ds.length ∧ ∃ ε F2, OkV X.K X.mg B ε σ F2 H ∧ Same F1 F2 ∧ forD gt gb (ds.drop i) ε = some r, ⟨_, rfl, Nat.zero_le _, ε1, F1, ok1, Same.refl _, e⟩, ?_⟩
  rintro i m σ2 H2 ⟨rfl, hi2, ε2, F2, ok2, s2, e2⟩
  by_cases hlt : i < ds.length
  · refine .inr ⟨w.goes i H2 hlt (s2.trans ok2.sub), fun σ' H' => ∃ ε F2, OkV X.K X.mg B ε σ' F2 H' ∧ Same F1 F2 ∧ forD gt gb (ds.drop (i + 1)) ε = some r, fun σ' H' hn => ⟨ds.length - (i + 1), by omega, rfl, hlt, hn⟩, fun x H' y => ?_⟩
    rw [List.drop_eq_getElem_cons hlt] at e2
    obtain ⟨F3, ok3, s3, _, _, r3⟩ := w.yields i _ x H2 H' ε2 σ2 F2 (List.getElem?_eq_getElem hlt) ok2 s2 y
    unfold forD at e2
    split at e2
    · cases e2
    · rename_i ε3 eg
      refine hg.den ε2 σ2 F3 H' x _ _ ε3 ok3 r3 eg fun σ4 F4 H4 ok4 s4 _ => ?_
      have s04 := s2.trans (s3.trans s4)
      have p2 : PostS X.K X.mg B F4 D r := p.mono (s1.trans s04)
      cases eb : gb ε3 with
      | none => rw [eb] at e2; cases e2
      | some q =>
        rw [eb] at e2
        cases q with
        | nx ε4 => exact hb.den ε3 σ4 F4 H4 _ _ ok4 eb fun σ5 F5 H5 ok5 s5 => ⟨ε4, F5, ok5, s04.trans s5, e2⟩
        | ct ε4 => exact hb.den ε3 σ4 F4 H4 _ _ ok4 eb fun σ5 F5 H5 ok5 s5 => ⟨ε4, F5, ok5, s04.trans s5, e2⟩
        | bk ε4 => cases e2; exact hb.den ε3 σ4 F4 H4 _ _ ok4 eb p2
        | rt d ε4 => cases e2; exact hb.den ε3 σ4 F4 H4 _ _ ok4 eb p2
        | ex x ε4 => cases e2; exact hb.den ε3 σ4 F4 H4 _ _ ok4 eb p2
  · have hz : i = ds.length := by omega
    subst hz
    rw [List.drop_length] at e2
    cases e2
    exact .inl ⟨w.stops H2 (s2.trans ok2.sub), p σ2 F2 H2 ok2 (s1.trans s2)⟩⟩
end
end VL
end

section
set_option Elab.async false
set_option linter.all false
set_option maxRecDepth 100000
set_option maxHeartbeats 4000000
/-! VL7: while, comprehensions, a def of the text. -/
namespace VL
open PySem L2
variable [LamN]

section
variable {X : Cx} {B : Bs} {e c tg iter : Expr} {body : List Stmt} {tb : TS} {gb : SF} {tc : TT} {fc : Env → Option (Out Bool)} {pos : Pos}
theorem vs_while (hp : PassesOwn (model X.prog X.w) X.A X.env X.xe) (hc : VT X B c tc fc) (hb : VSs X B body tb gb) : VS X B (.While c body [] pos) (tWhile tc tb) (sWhile fc gb) := ⟨ps_while hp hc.pt hb.ps, fun ε σ F H D r ok e p => by
  obtain ⟨n, e⟩ := sWhile_some e
  refine ⟨fun m σ H => ∃ ε F2, OkV X.K X.mg B ε σ F2 H ∧ Same F F2 ∧ whileD fc gb m ε = some r, ⟨n, ε, F, ok, Same.refl _, e⟩, ?_⟩
  rintro m σ2 H2 ⟨ε2, F2, ok2, s2, e2⟩
  cases m with
  | zero => cases e2
  | succ m =>
    simp only [whileD] at e2
    have p2 : PostS X.K X.mg B F2 D r := p.mono s2
    cases ec : fc ε2 with
    | none => rw [ec] at e2; cases e2
    | some o =>
      rw [ec] at e2
      cases o with
      | ex x ε3 => cases e2; exact hc.den ε2 σ2 F2 H2 _ _ ok2 ec p2
      | ok k ε3 =>
        refine hc.den ε2 σ2 F2 H2 _ _ ok2 ec fun F3 H3 ok3 s3 => ?_
        have p3 : PostS X.K X.mg B F3 D r := p2.mono s3
        cases k with
        | false => cases e2; rw [if_neg Bool.false_ne_true]; exact p3 σ2 F3 H3 ok3 (Same.refl _)
        | true =>
          rw [if_pos rfl]
          refine ⟨fun σ' H' => ∃ ε F4, OkV X.K X.mg B ε σ' F4 H' ∧ Same F F4 ∧ whileD fc gb m ε = some r, fun σ' H' hn => ⟨m, Nat.lt_succ_self _, hn⟩, ?_⟩
          simp only at e2
          cases eb : gb ε3 with
          | none => rw [eb] at e2; cases e2
          | some q =>
            rw [eb] at e2
            cases q with
            | nx ε4 => exact hb.den ε3 σ2 F3 H3 _ _ ok3 eb fun σ5 F5 H5 ok5 s5 => ⟨ε4, F5, ok5, s2.trans (s3.trans s5), e2⟩
            | ct ε4 => exact hb.den ε3 σ2 F3 H3 _ _ ok3 eb fun σ5 F5 H5 ok5 s5 => ⟨ε4, F5, ok5, s2.trans (s3.trans s5), e2⟩
            | bk ε4 => cases e2; exact hb.den ε3 σ2 F3 H3 _ _ ok3 eb p3
            | rt d ε4 => cases e2; exact hb.den ε3 σ2 F3 H3 _ _ ok3 eb p3
            | ex x ε4 => cases e2; exact hb.den ε3 σ2 F3 H3 _ _ ok3 eb p3⟩
end

/-! ### an inner block: what is owned outside is lent -/
def lendE (ε : Env) : Env := ε.map fun s => match s with
  | some (.ow _ ds) => some (.ow true ds)
  | s => s
def unl : Option Slot → Option Slot → Option Slot
  | some (.ow l _), some (.ow _ ds) => some (.ow l ds)
  | _, some (.fr d) => some (.fr d)
  | _, _ => none
def unlE (ε1 ε2 : Env) : Env := List.zipWith unl ε1 ε2
section
variable {K : PySem.W.Frag} {mg : Str → Option Value} {B : Bs} {ε ε1 ε2 : Env} {σ : St} {F F' H H' : Hp}
theorem lendE_get {i : Nat} {s : Slot} (h : (lendE ε)[i]? = some (some s)) : (∃ d, s = .fr d ∧ ε[i]? = some (some (.fr d))) ∨ ∃ l ds, s = .ow true ds ∧ ε[i]? = some (some (.ow l ds)) := by
  unfold lendE at h
  rw [List.getElem?_map] at h
  cases e : ε[i]? with
  | none => rw [e] at h; cases h
  | some o =>
    rw [e] at h
    cases o with
    | none => cases h
    | some q =>
      cases q with
      | fr d => cases h; exact .inl ⟨d, rfl, rfl⟩
      | ow l ds => cases h; exact .inr ⟨l, ds, rfl, rfl⟩
def OkV.inn (ok : OkV K mg B ε σ F H) : Bs := ⟨H, F, fun a => B.mb a ∨ ∃ (i : Nat) (ds : List D), ε[i]? = some (some (.ow false ds)) ∧ σ[i]? = some (some (.ref a)), fun _ _ _ _ => False, fun a h => by
  rcases h with h | ⟨i, ds, e, sv⟩
  · exact ok.there a (B.lent a h)
  · obtain ⟨v, sv', p, vs, rfl, _, hp, _⟩ := ok.slot i _ e
    rw [sv] at sv'; cases sv'
    rw [hp]; exact fun z => nomatch z⟩
theorem OkV.enter (ok : OkV K mg B ε σ F H) : OkV K mg ok.inn (lendE ε) σ F H := by
  refine ⟨ok.sub, Same.refl _, fun a _ h => h, fun a o h _ _ => h, fun a h => h, by unfold lendE; rw [List.length_map]; exact ok.len, fun i s e => ?_, fun i j l m ds es v hij e1 e2 e3 e4 => ?_, ok.tab, ok.notb⟩
  · rcases lendE_get e with ⟨d, rfl, e'⟩ | ⟨l, ds, rfl, e'⟩
    · exact ok.slot i _ e'
    · obtain ⟨v, sv, p, vs, rfl, f0, hp, r, own⟩ := ok.slot i _ e'
      refine ⟨_, sv, p, vs, rfl, f0, hp, r, ?_⟩
      rw [if_pos rfl]
      cases l with
      | true => exact .inl own
      | false => exact .inr ⟨i, ds, e', sv⟩
  · rcases lendE_get e1 with ⟨d, z, _⟩ | ⟨l1, d1, z, f1⟩
    · cases z
    rcases lendE_get e2 with ⟨d, z, _⟩ | ⟨l2, d2, z, f2⟩
    · cases z
    exact ok.apart i j l1 l2 d1 d2 v hij f1 f2 e3 e4
theorem unlE_get {i : Nat} {s : Slot} (h : (unlE ε1 ε2)[i]? = some (some s)) : (∃ d, s = .fr d ∧ ε2[i]? = some (some (.fr d))) ∨ ∃ l m ds es, s = .ow l ds ∧ ε1[i]? = some (some (.ow l es)) ∧ ε2[i]? = some (some (.ow m ds)) := by
  unfold unlE at h
  rw [List.getElem?_zipWith] at h
  cases e1 : ε1[i]? with
  | none => rw [e1] at h; cases h
  | some o1 =>
    cases e2 : ε2[i]? with
    | none => rw [e1, e2] at h; cases h
    | some o2 =>
      rw [e1, e2] at h
      have h : unl o1 o2 = some s := by simpa using h
      unfold unl at h
      split at h
      · cases h; exact .inr ⟨_, _, _, _, rfl, rfl, rfl⟩
      · cases h; exact .inl ⟨_, rfl, rfl⟩
      · cases h
theorem OkV.leave (ok : OkV K mg B ε1 σ F H) (ok2 : OkV K mg ok.inn ε2 σ F' H') : OkV K mg B (unlE ε1 ε2) σ F' H' := by
  have lens : ε1.length = ε2.length := ok.len.trans ok2.len.symm
  refine ⟨ok2.sub, ok.grow.trans ok2.grow, fun a h1 h2 => ok2.frame a (ok.there a h1) (ok.frame a h1 h2), fun a o h1 h2 h3 => ?_, fun a h1 => ok2.there a (ok.there a h1), ?_, fun i s e => ?_, fun i j l m ds es v hij e1 e2 e3 e4 => ?_, ok2.tab, ok2.notb⟩
  · refine ok2.keep a o (ok.keep a o h1 h2 h3) (fun z => ?_) h3
    rcases z with z | ⟨i, ds, e, sv⟩
    · exact h2 z
    · obtain ⟨v, sv', p, vs, rfl, _, _, _, own⟩ := ok.slot i _ e
      rw [sv] at sv'; cases sv'
      have own : B.H0 a = none := own
      rw [h1] at own; cases own
  · unfold unlE; rw [List.length_zipWith, lens, Nat.min_self]; exact ok2.len
  · rcases unlE_get e with ⟨d, rfl, e'⟩ | ⟨l, m, ds, es, rfl, e1, e2⟩
    · exact ok2.slot i _ e'
    · obtain ⟨v, sv, p, vs, rfl, f0, hp, r, _⟩ := ok2.slot i _ e2
      obtain ⟨v', sv', p', vs', rfl, _, _, _, own⟩ := ok.slot i _ e1
      rw [sv] at sv'; cases sv'
      exact ⟨_, sv, p, vs, rfl, f0, hp, r, own⟩
  · rcases unlE_get e1 with ⟨d, z, _⟩ | ⟨l1, m1, d1, es1, z, a1, b1⟩
    · cases z
    rcases unlE_get e2 with ⟨d, z, _⟩ | ⟨l2, m2, d2, es2, z, a2, b2⟩
    · cases z
    exact ok2.apart i j m1 m2 d1 d2 v hij b1 b2 e3 e4

/-! ### names that are hidden for a while -/
def hideE (ε : Env) : List Nat → Env
  | [] => ε
  | i :: is => (hideE ε is).set i none
theorem OkV.setN (ok : OkV K mg B ε σ F H) (i : Nat) : OkV K mg B (ε.set i none) (σ.set i none) F H := by
  refine ⟨ok.sub, ok.grow, ok.frame, ok.keep, ok.there, by simp [ok.len], fun j s e => ?_, fun j k l m ds es u hjk e1 e2 e3 e4 => ?_, ok.tab, ok.notb⟩
  · rcases set_get e with ⟨_, es, _⟩ | ⟨n, e⟩
    · cases es
    · obtain ⟨u, a, b⟩ := ok.slot j s e
      exact ⟨u, by rw [List.getElem?_set_ne (Ne.symm n)]; exact a, b⟩
  · rcases set_get e1 with ⟨_, z, _⟩ | ⟨n1, e1⟩
    · cases z
    rcases set_get e2 with ⟨_, z, _⟩ | ⟨n2, e2⟩
    · cases z
    rw [List.getElem?_set_ne (Ne.symm n1)] at e3
    rw [List.getElem?_set_ne (Ne.symm n2)] at e4
    exact ok.apart j k l m ds es u hjk e1 e2 e3 e4
theorem OkV.hide (ok : OkV K mg B ε σ F H) : ∀ is : List Nat, OkV K mg B (hideE ε is) (wipe σ is) F H
  | [] => ok
  | i :: is => (OkV.hide ok is).setN i
/-- behind the block: the hidden names as they were -/
def shownE (ε1 ε2 : Env) : List Nat → Env
  | [] => ε2
  | i :: is => (shownE ε1 ε2 is).set i (ε1.getD i none)
def plainAt (ε : Env) (i : Nat) : Bool := match ε[i]? with
  | some (some (.ow _ _)) => false
  | _ => true
theorem OkV.show1 (ok : OkV K mg B ε2 σ F' H') {i : Nat} {v : Option V} {s : Option Slot} (h : ∀ d, s = some (.fr d) → ∃ u, v = some u ∧ Rep K mg F' u d) (n : ∀ l ds, s ≠ some (.ow l ds)) : OkV K mg B (ε2.set i s) (σ.set i v) F' H' := by
  refine ⟨ok.sub, ok.grow, ok.frame, ok.keep, ok.there, by simp [ok.len], fun j q e => ?_, fun j k l m ds es u hjk e1 e2 e3 e4 => ?_, ok.tab, ok.notb⟩
  · rcases set_get e with ⟨rfl, es, hl⟩ | ⟨nj, e⟩
    · subst es
      cases q with
      | fr d =>
        obtain ⟨u, rfl, r⟩ := h d rfl
        exact ⟨u, by rw [List.getElem?_set_self (by rw [← ok.len]; exact hl)], r⟩
      | ow l ds => exact absurd rfl (n l ds)
    · obtain ⟨u, a, b⟩ := ok.slot j q e
      exact ⟨u, by rw [List.getElem?_set_ne (Ne.symm nj)]; exact a, b⟩
  · rcases set_get e1 with ⟨_, z, _⟩ | ⟨n1, e1⟩
    · exact absurd z.symm (n l ds)
    rcases set_get e2 with ⟨_, z, _⟩ | ⟨n2, e2⟩
    · exact absurd z.symm (n m es)
    rw [List.getElem?_set_ne (Ne.symm n1)] at e3
    rw [List.getElem?_set_ne (Ne.symm n2)] at e4
    exact ok.apart j k l m ds es u hjk e1 e2 e3 e4
theorem OkV.shown {F1 H1 : Hp} (ok1 : OkV K mg B ε1 σ F1 H1) (s : Same F1 F') : ∀ {is : List Nat}, is.all (plainAt ε1) = true → OkV K mg B ε2 (wipe σ is) F' H' → OkV K mg B (shownE ε1 ε2 is) σ F' H'
  | is, hp, ok2 => by
    -- first: over the wiped slots, each set to what σ has
    have g : ∀ js : List Nat, (∀ j ∈ js, j ∈ is) → OkV K mg B (shownE ε1 ε2 js) (js.foldr (fun i τ => τ.set i (σ.getD i none)) (wipe σ is)) F' H' := by
      intro js
      induction js with
      | nil => intro _; exact ok2
      | cons j js ih =>
        intro hj
        have o := ih fun k hk => hj k (List.mem_cons_of_mem _ hk)
        refine OkV.show1 o (fun d hd => ?_) fun l ds hd => ?_
        · have e1 : ε1[j]? = some (some (.fr d)) := by
            rw [List.getD_eq_getElem?_getD] at hd
            cases e : ε1[j]? with
            | none => rw [e] at hd; cases hd
            | some q => rw [e] at hd; exact congrArg some hd
          obtain ⟨u, su, ru⟩ := ok1.slot j _ e1
          refine ⟨u, ?_, Rep.mono s ru⟩
          rw [List.getD_eq_getElem?_getD, su]
          rfl
        · have e1 : ε1[j]? = some (some (.ow l ds)) := by
            rw [List.getD_eq_getElem?_getD] at hd
            cases e : ε1[j]? with
            | none => rw [e] at hd; cases hd
            | some q => rw [e] at hd; exact congrArg some hd
          have := List.all_eq_true.mp hp j (hj j List.mem_cons_self)
          unfold plainAt at this
          rw [e1] at this
          cases this
    have fin : is.foldr (fun i τ => τ.set i (σ.getD i none)) (wipe σ is) = σ := by
      have w : ∀ (js : List Nat) (τ : St), τ.length = σ.length → (∀ i, i ∉ js → τ[i]? = σ[i]?) → js.foldr (fun i τ => τ.set i (σ.getD i none)) τ = σ := by
        intro js τ hl hi
        have all : ∀ (js : List Nat), (js.foldr (fun i τ => τ.set i (σ.getD i none)) τ).length = σ.length ∧ ∀ i : Nat, (i ∈ js → (js.foldr (fun i τ => τ.set i (σ.getD i none)) τ)[i]? = σ[i]?) ∧ (i ∉ js → (js.foldr (fun i τ => τ.set i (σ.getD i none)) τ)[i]? = τ[i]?) := by
          intro js
          induction js with
          | nil => exact ⟨hl, fun i => ⟨fun h => (by cases h), fun _ => rfl⟩⟩
          | cons j js ih =>
            rw [List.foldr_cons]
            refine ⟨by rw [List.length_set]; exact ih.1, fun i => ⟨fun h => ?_, fun h => ?_⟩⟩
            · by_cases e : i = j
              · subst e
                by_cases hlt : i < σ.length
                · rw [List.getElem?_set_self (by rw [ih.1]; exact hlt), List.getD_eq_getElem?_getD, List.getElem?_eq_getElem hlt]
                  rfl
                · rw [List.getElem?_eq_none_iff.mpr (by rw [List.length_set, ih.1]; omega), List.getElem?_eq_none_iff.mpr (by omega)]
              · rw [List.getElem?_set_ne (Ne.symm e)]
                rcases List.mem_cons.mp h with z | z
                · exact absurd z e
                · exact (ih.2 i).1 z
            · have e : i ≠ j := fun z => h (by rw [z]; exact List.mem_cons_self)
              rw [List.getElem?_set_ne (Ne.symm e)]
              exact (ih.2 i).2 fun z => h (List.mem_cons_of_mem _ z)
        refine List.ext_getElem? fun i => ?_
        by_cases h : i ∈ js
        · exact ((all js).2 i).1 h
        · exact (((all js).2 i).2 h).trans (hi i h)
      exact w is _ (wipe_length _ _) fun i hi => wipe_out hi
    have := g is fun j hj => hj
    rw [fin] at this
    exact this
end
end VL
end

section
set_option Elab.async false
set_option linter.all false
set_option maxRecDepth 100000
set_option maxHeartbeats 4000000
/-! VL8: list comprehensions, a def of the text. -/
namespace VL
open PySem L2
variable [LamN]

/-- the turns of a comprehension: the names own are its own -/
def compD (own : List Nat) (gt : D → Env → Option Env) (ft : Env → Option (Out Bool)) (fe : Env → Option (Out D)) : List D → List D → Env → Option (List D × Env)
  | [], acc, ε => some (acc, ε)
  | d :: ds, acc, ε => match gt d (lendE ε) with
    | none => none
    | some ε1 => match ft ε1 with
      | some (.ok true ε2) => match fe ε2 with
        | some (.ok x ε3) => if acc.length < sizeLine then compD own gt ft fe ds (acc ++ [x]) (unlE ε (hideE ε3 own)) else none
        | _ => none
      | some (.ok false ε2) => compD own gt ft fe ds acc (unlE ε (hideE ε2 own))
      | _ => none
def nComp (own : List Nat) (fi : Env → Option (Out (List D))) (gt : D → Env → Option Env) (ft : Env → Option (Out Bool)) (fe : Env → Option (Out D)) : Env → Option (Out (List D)) :=
  bnd fi fun ds ε1 => if own.all (plainAt ε1) = true then (compD own gt ft fe ds [] (hideE ε1 own)).map fun r => .ok r.1 (shownE ε1 r.2 own) else none

theorem del_upd {H : Hp} {D : Addr} {o : HO} (h : H D = some o) : upd (fun b => if b = D then none else H b) D o = H := by
  funext b
  unfold upd
  by_cases e : b = D
  · subst e; rw [if_pos rfl, h]
  · rw [if_neg e]; exact if_neg e
theorem wipe_set_comm {σ : St} {u : Nat} : ∀ {vs : List Nat}, wipe (σ.set u none) vs = (wipe σ vs).set u none
  | [] => rfl
  | v :: vs => by
    show (wipe (σ.set u none) vs).set v none = ((wipe σ vs).set v none).set u none
    rw [wipe_set_comm]
    by_cases e : u = v
    · subst e; rw [List.set_set]
    · rw [List.set_comm _ _ e]
theorem wipe_wipe (σ : St) : ∀ vs : List Nat, wipe (wipe σ vs) vs = wipe σ vs
  | [] => rfl
  | v :: vs => by
    show (wipe ((wipe σ vs).set v none) vs).set v none = (wipe σ vs).set v none
    rw [wipe_set_comm, wipe_wipe σ vs, List.set_set]
section
variable {K : PySem.W.Frag} {mg : Str → Option Value} {B : Bs} {ε : Env} {σ : St} {F H : Hp}
/-- an object that no one knows of is taken away -/
theorem OkV.del (ok : OkV K mg B ε σ F H) {p : Addr} {av : List V} (hl : H p = some (.lst av)) (fp : F p = none) (h0 : B.H0 p = none) (no : ∀ (i : Nat) l ds, ε[i]? = some (some (.ow l ds)) → σ[i]? ≠ some (some (.ref p))) : OkV K mg B ε σ F (fun b => if b = p then none else H b) := by
  have kp : ∀ b, b ≠ p → (if b = p then none else H b) = H b := fun b h => if_neg h
  refine ⟨fun b u e => ?_, ok.grow, ok.frame, fun a o h1 h2 h3 => ?_, fun a h1 => ?_, ok.len, fun i s e => ?_, ok.apart, ok.tab.trans (TbK.of_lst hl fun b u hb e => by rw [if_neg hb]; exact e), ok.notb⟩
  · exact (kp b (fun z => by rw [z, fp] at e; cases e)).trans (ok.sub b u e)
  · exact (kp a (fun z => by rw [z, h0] at h1; cases h1)).trans (ok.keep a o h1 h2 h3)
  · exact fun z => ok.there a h1 ((kp a (fun z => h1 (by rw [z]; exact h0))).symm.trans z)
  · obtain ⟨v, a, b⟩ := ok.slot i s e
    refine ⟨v, a, b.mono (Same.refl _) fun q vs l ds es ev f0 hq => ⟨f0, ?_⟩⟩
    subst es ev
    exact (kp q (fun z => no i l ds e (by rw [← z]; exact a))).trans hq
/-- an object that no one knows of is changed -/
theorem OkV.chg (ok : OkV K mg B ε σ F H) {p : Addr} (o : HO) {av : List V} (hl : H p = some (.lst av)) (fp : F p = none) (h0 : B.H0 p = none) (no : ∀ (i : Nat) l ds, ε[i]? = some (some (.ow l ds)) → σ[i]? ≠ some (some (.ref p))) : OkV K mg B ε σ F (upd H p o) := by
  refine ⟨fun b u e => ?_, ok.grow, ok.frame, fun a o h1 h2 h3 => ?_, fun a h1 => ?_, ok.len, fun i s e => ?_, ok.apart, ok.tab.trans (TbK.of_lst hl fun b u hb e => by rw [upd_ne hb]; exact e), ok.notb⟩
  · rw [upd_ne (fun z => by rw [z, fp] at e; cases e)]; exact ok.sub b u e
  · rw [upd_ne (fun z => by rw [z, h0] at h1; cases h1)]; exact ok.keep a o h1 h2 h3
  · by_cases z : a = p
    · subst z; rw [upd_same]; exact fun y => nomatch y
    · rw [upd_ne z]; exact ok.there a h1
  · obtain ⟨v, a, b⟩ := ok.slot i s e
    refine ⟨v, a, b.mono (Same.refl _) fun q vs l ds es ev f0 hq => ⟨f0, ?_⟩⟩
    subst es ev
    rw [upd_ne (fun z => no i l ds e (by rw [← z]; exact a))]; exact hq
end
/-- tests of a comprehension -/
structure VTs (X : Cx) (B : Bs) (ifs : List Expr) (t : TT) (f : Env → Option (Out Bool)) : Prop where
  pt : PTs X ifs t
  den : DenT X.K X.mg B t f
section
variable {X : Cx} {B : Bs} {c : Expr} {t : TT} {f : Env → Option (Out Bool)}
theorem vts_nil : VTs X B [] tYes (ret true) := ⟨pts_nil, fun ε σ F H Q r ok e p => by cases e; exact p F H ok (Same.refl _)⟩
theorem vts_one (h : VT X B c t f) : VTs X B [c] t f := ⟨pts_one h.pt, h.den⟩
end
section
variable {K : PySem.W.Frag} {mg : Str → Option Value} {B : Bs}
theorem den_comp {own : List Nat} {is : List Nat} {wi : TI} {g : TG} {tt : TT} {te : TE} {fi : Env → Option (Out (List D))} {gt : D → Env → Option Env} {ft : Env → Option (Out Bool)} {fe : Env → Option (Out D)}
    (hi : DenI K mg B wi fi) (hg : ∀ B, DenG K mg B is g gt) (his : ∀ i ∈ is, i ∈ own) (ht : ∀ B, DenT K mg B tt ft) (he : ∀ B, Den K mg B te fe) : DenN K mg B (tLc wi g tt te own) (nComp own fi gt ft fe) := fun ε σ F H Q r ok e p => by
  rcases bnd_some e with ⟨x, ε', e1, rfl⟩ | ⟨ds, ε1, e1, e⟩
  · exact hi ε σ F H _ _ ok e1 p
  refine hi ε σ F H _ _ ok e1 fun J F1 H1 ok1 s1 w => ?_
  split at e
  · rename_i hpl
    obtain ⟨⟨xs, εz⟩, ez, rfl⟩ := Option.map_eq_some_iff.mp e
    intro Dd hD
    have fD0 : F1 Dd = none := ok1.sub.free hD
    refine ⟨fun i m H => m = ds.length - i ∧ i ≤ ds.length ∧ ∃ ε F2 av ad, OkV K mg B ε (wipe σ own) F2 H ∧ Same F1 F2 ∧ F2 Dd = none ∧ H Dd = some (.lst av) ∧ (∀ (i : Nat) l ds, ε[i]? = some (some (.ow l ds)) → (wipe σ own)[i]? ≠ some (some (.ref Dd))) ∧ RepL K mg F2 av ad ∧ compD own gt ft fe (ds.drop i) ad ε = some (xs, εz),
      ⟨_, rfl, Nat.zero_le _, hideE ε1 own, F1, [], [], (ok1.hide own).laidH hD _, Same.refl _, fD0, upd_same, (ok1.hide own).free_slot hD, .nil, ez⟩, ?_⟩
    rintro i m H2 ⟨rfl, hi2, ε2, F2, av, ad, ok2, s2, fD, hDd, noD, ra, ec⟩
    by_cases hlt : i < ds.length
    · refine .inr ⟨w.goes i H2 hlt (s2.trans ok2.sub), fun H' => ∃ ε F3 av ad, OkV K mg B ε (wipe σ own) F3 H' ∧ Same F1 F3 ∧ F3 Dd = none ∧ H' Dd = some (.lst av) ∧ (∀ (i : Nat) l ds, ε[i]? = some (some (.ow l ds)) → (wipe σ own)[i]? ≠ some (some (.ref Dd))) ∧ RepL K mg F3 av ad ∧ compD own gt ft fe (ds.drop (i + 1)) ad ε = some (xs, εz),
        fun H' hn => ⟨ds.length - (i + 1), by omega, rfl, hlt, hn⟩, fun x H' y => ?_⟩
      rw [List.drop_eq_getElem_cons hlt] at ec
      -- the item comes
      obtain ⟨F3, okY, s3, sH, nF, r3⟩ := w.yields i _ x H2 H' _ _ F2 (List.getElem?_eq_getElem hlt) ok2 s2 y
      have hDd3 : H' Dd = some (.lst av) := sH _ _ hDd
      have h0 : B.H0 Dd = none := ok1.h0 hD
      have fD3 : F3 Dd = none := nF Dd (by rw [hDd]; exact fun z => nomatch z) fD
      -- in the inner block the new list stands still
      have nmb : ¬ okY.inn.mb Dd := fun z => by
        rcases z with z | ⟨j, cs, ej, sj⟩
        · exact B.lent Dd z h0
        · exact noD j false cs ej sj
      have hN : okY.inn.H0 Dd = some (.lst av) := hDd3
      have fN : okY.inn.F0 Dd = none := fD3
      have fD4 : ∀ {ε σ F4 H4}, OkV K mg okY.inn ε σ F4 H4 → F4 Dd = none := fun o => o.frame Dd (by rw [hN]; exact fun z => nomatch z) fN
      have hD4 : ∀ {ε σ F4 H4}, OkV K mg okY.inn ε σ F4 H4 → H4 Dd = some (.lst av) := fun o => o.keep Dd _ hN nmb fun _ z => nomatch z
      -- the turn's end
      have noE : ∀ {ε' : Env} (i : Nat) l ds, (unlE ε2 ε')[i]? = some (some (.ow l ds)) → (wipe σ own)[i]? ≠ some (some (.ref Dd)) := fun {ε'} i l ds e => by
        rcases unlE_get e with ⟨d, z, _⟩ | ⟨l1, m1, d1, es1, z, a1, b1⟩
        · cases z
        · exact noD i l1 es1 a1
      have okI := okY.enter
      have s13 : Same F1 F3 := s2.trans s3
      unfold compD at ec
      split at ec
      · cases ec
      · rename_i ε3 eg
        refine hg okY.inn (lendE ε2) (wipe σ own) F3 H' x _ _ ε3 okI r3 eg fun σ4 F4 H4 ok4 s4 w4 => ?_
        have hw : wipe σ4 own = wipe σ own := (w4 own his).trans (wipe_wipe σ own)
        refine ⟨hw, ?_⟩
        -- back
        have back : ∀ {ε' : Env} {F5 H5 : Hp}, OkV K mg okY.inn ε' σ4 F5 H5 → OkV K mg B (unlE ε2 (hideE ε' own)) (wipe σ own) F5 H5 := fun {ε' F5 H5} o => by
          have o2 := o.hide own
          rw [hw] at o2
          exact okY.leave o2
        split at ec
        · rename_i ε5 eft
          refine ht okY.inn ε3 σ4 F4 H4 _ _ ok4 eft fun F5 H5 ok5 s5 => ?_
          rw [if_pos rfl]
          split at ec
          · rename_i xv ε6 efe
            split at ec
            · rename_i hln
              refine he okY.inn ε5 σ4 F5 H5 _ _ ok5 efe fun v F6 H6 ok6 s6 r6 => ?_
              have sAll : Same F2 F6 := s3.trans (s4.trans (s5.trans s6))
              refine ⟨av, hD4 ok6, by rw [ra.length]; exact hln, unlE ε2 (hideE ε6 own), F6, av ++ [v], ad ++ [xv], (back ok6).chg _ (hD4 ok6) (fD4 ok6) h0 noE, s2.trans sAll, fD4 ok6, upd_same, noE, (ra.mono sAll).append (.cons r6 .nil), ec⟩
            · cases ec
          · cases ec
        · rename_i ε5 eft
          refine ht okY.inn ε3 σ4 F4 H4 _ _ ok4 eft fun F5 H5 ok5 s5 => ?_
          rw [if_neg Bool.false_ne_true]
          have sAll : Same F2 F5 := s3.trans (s4.trans s5)
          exact ⟨unlE ε2 (hideE ε5 own), F5, av, ad, back ok5, s2.trans sAll, fD4 ok5, hD4 ok5, noE, ra.mono sAll, ec⟩
        · cases ec
    · have hz : i = ds.length := by omega
      subst hz
      rw [List.drop_length] at ec
      cases ec
      refine .inl ⟨w.stops H2 (s2.trans ok2.sub), ?_⟩
      rw [← del_upd hDd]
      refine p Dd av F2 _ ?_ (s1.trans s2) (if_pos rfl) ra
      have h0 : B.H0 Dd = none := ok1.h0 hD
      exact OkV.shown ok1 s2 hpl (ok2.del hDd fD h0 noD)
  · cases e
end

theorem DenN.den {K : PySem.W.Frag} {mg : Str → Option Value} {B : Bs} {t : TE} {f : Env → Option (Out (List D))} (h : DenN K mg B t f) : Den K mg B t (eN f) := fun ε σ F H Q r ok e p => by
  rcases bnd_some e with ⟨x, ε', e1, rfl⟩ | ⟨ds, ε1, e1, e⟩
  · exact h ε σ F H _ _ ok e1 p
  refine h ε σ F H _ _ ok e1 fun q vs F1 H1 ok1 s1 hq r1 => ?_
  cases e
  exact p _ _ _ (ok1.laid hq _) (s1.trans (same_laid ok1 hq _)) (.lst upd_same (r1.mono (same_laid ok1 hq _)))
section
variable {X : Cx} {B : Bs} {elt tg iter : Expr} {ifs : List Expr} {scope : Scope} {own : List (Str × Nat)} {is : List Nat} {pos : Pos} {wi : TI} {g : TG} {tt : TT} {te : TE} {fi : Env → Option (Out (List D))} {gt : D → Env → Option Env} {ft : Env → Option (Out Bool)} {fe : Env → Option (Out D)}
theorem vn_comp (hc : X.calm = true) (hN : X.N.Nodup) (hi : VI X B tg iter wi fi) (ok : BlkOk X.N X.env.scope scope own)
    (hg : ∀ (B : Bs) (s : Shared) (H : Hp) (C : Addr) (cl : List (Str × Addr)) (fp : List Addr), VG (X.blk s H scope (compEnvC scope cl C X.env) fp) B is tg g gt) (his : ∀ i ∈ is, i ∈ own.map (·.2))
    (ht : ∀ (B : Bs) (s : Shared) (H : Hp) (C : Addr) (cl : List (Str × Addr)) (fp : List Addr), VTs (X.blk s H scope (compEnvC scope cl C X.env) fp) B ifs tt ft)
    (he : ∀ (B : Bs) (s : Shared) (H : Hp) (C : Addr) (cl : List (Str × Addr)) (fp : List Addr), VE (X.blk s H scope (compEnvC scope cl C X.env) fp) B elt te fe) (hs : ∀ x, foldedSetIterable iter X.env x = pure x := by intro _; rfl) :
    VN X B (.ListComp elt [⟨tg, iter, ifs, 0⟩] scope pos) (tLc wi g tt te (own.map (·.2))) (nComp (own.map (·.2)) fi gt ft fe) :=
  ⟨pe_lc hc hN hi.pi ok (fun s H C cl fp => (hg B s H C cl fp).pg) (fun s H C cl fp => (ht B s H C cl fp).pt) (fun s H C cl fp => (he B s H C cl fp).pe) hs,
    den_comp hi.den (fun B => (hg B X.s_0 X.H_0 0 [] []).den) his (fun B => (ht B X.s_0 X.H_0 0 [] []).den) fun B => (he B X.s_0 X.H_0 0 [] []).den⟩
/-- y = [..] on one line -/
theorem vs_setC {i : Nat} {y : Str} {py : Pos} {spos : Pos} (hc : X.calm = true) (hN : X.N.Nodup) (hy : X.N[i]? = some y) (hyl : X.env.scope.names.lookup y = some .local)
    (hsw : swapsWith (.ListComp elt [⟨tg, iter, ifs, 0⟩] scope pos) (some (.Name y py)) spos.line X.env = pure true) (hi : VI X B tg iter wi fi) (ok : BlkOk X.N X.env.scope scope own)
    (hg : ∀ (B : Bs) (s : Shared) (H : Hp) (C : Addr) (cl : List (Str × Addr)) (fp : List Addr), VG (X.blk s H scope (compEnvC scope cl C X.env) fp) B is tg g gt) (his : ∀ i ∈ is, i ∈ own.map (·.2))
    (ht : ∀ (B : Bs) (s : Shared) (H : Hp) (C : Addr) (cl : List (Str × Addr)) (fp : List Addr), VTs (X.blk s H scope (compEnvC scope cl C X.env) fp) B ifs tt ft)
    (he : ∀ (B : Bs) (s : Shared) (H : Hp) (C : Addr) (cl : List (Str × Addr)) (fp : List Addr), VE (X.blk s H scope (compEnvC scope cl C X.env) fp) B elt te fe) (hs : ∀ x, foldedSetIterable iter X.env x = pure x := by intro _; rfl) :
    VS X B (.Assign [.Name y py] (.ListComp elt [⟨tg, iter, ifs, 0⟩] scope pos) spos) (tAsg (tLc wi g tt te (own.map (·.2))) (gName i)) (sSet i (eN (nComp (own.map (·.2)) fi gt ft fe))) :=
  ⟨ps_setLc hc hN hy hyl hsw hi.pi ok (fun s H C cl fp => (hg B s H C cl fp).pg) (fun s H C cl fp => (ht B s H C cl fp).pt) (fun s H C cl fp => (he B s H C cl fp).pe) hs,
    den_set (den_comp hi.den (fun B => (hg B X.s_0 X.H_0 0 [] []).den) his (fun B => (ht B X.s_0 X.H_0 0 [] []).den) fun B => (he B X.s_0 X.H_0 0 [] []).den).den⟩
theorem vs_ownC {i : Nat} {y : Str} {py : Pos} {spos : Pos} (hc : X.calm = true) (hN : X.N.Nodup) (hy : X.N[i]? = some y) (hyl : X.env.scope.names.lookup y = some .local)
    (hsw : swapsWith (.ListComp elt [⟨tg, iter, ifs, 0⟩] scope pos) (some (.Name y py)) spos.line X.env = pure true) (hi : VI X B tg iter wi fi) (ok : BlkOk X.N X.env.scope scope own)
    (hg : ∀ (B : Bs) (s : Shared) (H : Hp) (C : Addr) (cl : List (Str × Addr)) (fp : List Addr), VG (X.blk s H scope (compEnvC scope cl C X.env) fp) B is tg g gt) (his : ∀ i ∈ is, i ∈ own.map (·.2))
    (ht : ∀ (B : Bs) (s : Shared) (H : Hp) (C : Addr) (cl : List (Str × Addr)) (fp : List Addr), VTs (X.blk s H scope (compEnvC scope cl C X.env) fp) B ifs tt ft)
    (he : ∀ (B : Bs) (s : Shared) (H : Hp) (C : Addr) (cl : List (Str × Addr)) (fp : List Addr), VE (X.blk s H scope (compEnvC scope cl C X.env) fp) B elt te fe) (hs : ∀ x, foldedSetIterable iter X.env x = pure x := by intro _; rfl) :
    VS X B (.Assign [.Name y py] (.ListComp elt [⟨tg, iter, ifs, 0⟩] scope pos) spos) (tAsg (tLc wi g tt te (own.map (·.2))) (gName i)) (sOwn i (nComp (own.map (·.2)) fi gt ft fe)) :=
  ⟨ps_setLc hc hN hy hyl hsw hi.pi ok (fun s H C cl fp => (hg B s H C cl fp).pg) (fun s H C cl fp => (ht B s H C cl fp).pt) (fun s H C cl fp => (he B s H C cl fp).pe) hs,
    den_own (den_comp hi.den (fun B => (hg B X.s_0 X.H_0 0 [] []).den) his (fun B => (ht B X.s_0 X.H_0 0 [] []).den) fun B => (he B X.s_0 X.H_0 0 [] []).den)⟩
end

/-! ### a def -/
def envV (N n : Nat) (ds : List D) : Env := ds.map (fun d => some (.fr d)) ++ List.replicate (N - n) none
def fnV (N n : Nat) (g : SF) : List D → Option D := fun ds => if ds.length = n then match g (envV N n ds) with
  | some (.rt d _) => some d
  | some (.nx _) => some .non
  | _ => none
  else none
def envM (N n : Nat) (cs ds : List D) : Env := some (.ow true cs) :: (ds.map (fun d => some (.fr d)) ++ List.replicate (N - (n + 1)) none)
def lentOf (ε : VL.Env) : Option (List D) := match ε[(0 : Nat)]? with
  | some (some (.ow true cs)) => some cs
  | _ => none
def fnM (N n : Nat) (g : SF) : List D → List D → Option (D × List D) := fun cs ds => if ds.length = n then match g (envM N n cs ds) with
  | some (.rt d ε) => (lentOf ε).map fun cs' => (d, cs')
  | some (.nx ε) => (lentOf ε).map fun cs' => (.non, cs')
  | _ => none
  else none
theorem fnV_len {N n : Nat} {g : SF} : ∀ ds d, fnV N n g ds = some d → ds.length = n := fun ds d h => by
  unfold fnV at h
  split at h
  · assumption
  · cases h
theorem fnM_len {N n : Nat} {g : SF} : ∀ cs ds r, fnM N n g cs ds = some r → ds.length = n := fun cs ds d h => by
  unfold fnM at h
  split at h
  · assumption
  · cases h
section
variable {P : Program} {w : World} {K : PySem.W.Frag} {mg : Str → Option Value} {base : Heap}
def bV (F H : Hp) : Bs := ⟨H, F, fun _ => False, fun _ _ _ _ => False, fun _ h => h.elim⟩
def bM (F H : Hp) (p : Addr) (h : H p ≠ none) : Bs := ⟨H, F, fun a => a = p, fun _ _ _ _ => False, fun a e => by rw [e]; exact h⟩
theorem envV_get {N n : Nat} {ds : List D} {i : Nat} {s : Slot} (h : (envV N n ds)[i]? = some (some s)) : ∃ d, s = .fr d ∧ ds[i]? = some d := by
  unfold envV at h
  by_cases hi : i < ds.length
  · rw [List.getElem?_append_left (by rw [List.length_map]; exact hi), List.getElem?_map, List.getElem?_eq_getElem hi] at h
    cases h
    exact ⟨_, rfl, by simp [hi]⟩
  · rw [List.getElem?_append_right (by rw [List.length_map]; omega)] at h
    rw [List.getElem?_replicate] at h
    split at h
    · cases h
    · cases h
theorem start_get {N : List Str} {vs : List V} {i : Nat} {v : V} (h : vs[i]? = some v) : (L2.start N vs)[i]? = some (some v) := by
  unfold L2.start
  have hi := (List.getElem?_eq_some_iff.mp h).1
  rw [List.getElem?_append_left (by rw [List.length_map]; exact hi), List.getElem?_map, h]
  rfl
theorem fn_plain {x qual : Str} {st : Stmt} {f : Addr} {fd : FuncData} {N ps : List Str} {k n : Nat} {g : SF} (F : FunV K x qual st f fd) (S : FnScope N ps (defScope st)) (hn : ps.length = n)
    (body : ∀ (cdv : Value) (A : Around) (outer : List PySem.Env) (s : Shared) (H : Hp) (E : XK) (B : Bs), fd.code = cdv → Room k (A.deeper (PyProof.Rows.envOfC qual (defScope st) s.heap.objs.size f cdv)) → A.guards = some [] →
      ∃ t, VSs (cxOf (L2.CX P w) P w K mg base N qual (defScope st) f cdv A outer s H E).nox B (defBody st) t g) : FnG P w K mg base (L2.CX P w) (k + 1) f fd ps (spV K mg n (fnV N.length n g)) := by
  refine g_def F S (fun vs H Q E h => h.1.trans hn.symm) fun cdv A outer s H vs Q E hcd hr gd h => ?_
  obtain ⟨hl, F0, ds, d, sub, nt, tb, rl, ed, post⟩ := h
  obtain ⟨t, v⟩ := body cdv A outer s H E (bV F0 H) hcd hr gd
  refine ⟨t, v.ps.nox, ?_⟩
  have hd : ds.length = n := by rw [← rl.length]; exact hl
  have ok : OkV K mg (bV F0 H) (envV N.length n ds) (L2.start N vs) F0 H := by
    refine ⟨sub, Same.refl _, fun a _ h => h, fun a o h _ _ => h, fun a h => h, ?_, fun i s e => ?_, fun i j l m ds es v hij e1 => ?_, tb, nt⟩
    · unfold envV L2.start; simp [hd, hl]
    · obtain ⟨d, rfl, e'⟩ := envV_get e
      obtain ⟨u, eu, ru⟩ := rl.get e'
      exact ⟨u, start_get eu, ru⟩
    · obtain ⟨d, z, _⟩ := envV_get e1
      cases z
  unfold fnV at ed
  rw [if_pos hd] at ed
  have fin : ∀ {ε σ F' H'}, OkV K mg (bV F0 H) ε σ F' H' → Same F0 F' → ∀ v, Rep K mg F' v d → Q v H' := fun {ε σ F' H'} o s v r =>
    post v H' F' s o.sub o.frame o.notb ⟨fun b u e n => o.keep b u e (fun z => z) n, o.tab, o.there⟩ r
  split at ed
  · rename_i d' ε' eg
    cases ed
    exact v.den _ _ F0 H _ _ ok eg fun v σ' F' H' o s r => fin o s v r
  · rename_i ε' eg
    cases ed
    exact v.den _ _ F0 H _ _ ok eg fun σ' F' H' o s => fin o s .non .non
  · cases ed
theorem fn_lent {x qual : Str} {st : Stmt} {f : Addr} {fd : FuncData} {N ps : List Str} {k n : Nat} {g : SF} (F : FunV K x qual st f fd) (S : FnScope N ps (defScope st)) (hn : ps.length = n + 1)
    (body : ∀ (cdv : Value) (A : Around) (outer : List PySem.Env) (s : Shared) (H : Hp) (E : XK) (B : Bs), fd.code = cdv → Room k (A.deeper (PyProof.Rows.envOfC qual (defScope st) s.heap.objs.size f cdv)) → A.guards = some [] →
      ∃ t, VSs (cxOf (L2.CX P w) P w K mg base N qual (defScope st) f cdv A outer s H E).nox B (defBody st) t g) : FnG P w K mg base (L2.CX P w) (k + 1) f fd ps (spM K mg n (fnM N.length n g)) := by
  refine g_def F S (fun vs H Q E h => h.1.trans hn.symm) fun cdv A outer s H vs Q E hcd hr gd h => ?_
  obtain ⟨hl, F0, p, ws, cs, us, ds, d, cs', rfl, sub, nt, tb, fp, hp, rc, rl, ed, post⟩ := h
  have hne : H p ≠ none := by rw [hp]; exact fun z => nomatch z
  obtain ⟨t, v⟩ := body cdv A outer s H E (bM F0 H p hne) hcd hr gd
  refine ⟨t, v.ps.nox, ?_⟩
  have hd : ds.length = n := by rw [← rl.length]; simpa using hl
  have ok : OkV K mg (bM F0 H p hne) (envM N.length n cs ds) (L2.start N (.ref p :: us)) F0 H := by
    refine ⟨sub, Same.refl _, fun a _ h => h, fun a o h _ _ => h, fun a h => h, ?_, fun i s e => ?_, fun i j l m ds' es v hij e1 e2 => ?_, tb, nt⟩
    · unfold envM L2.start; simp [hd, rl.length]
    · cases i with
      | zero =>
        have e : some (some (Slot.ow true cs)) = some (some s) := e
        cases e
        exact ⟨.ref p, rfl, p, ws, rfl, fp, hp, rc, rfl⟩
      | succ i =>
        have e : (envV N.length (n + 1) ds)[i]? = some (some s) := e
        obtain ⟨d, rfl, e'⟩ := envV_get e
        obtain ⟨u, eu, ru⟩ := rl.get e'
        exact ⟨u, start_get (N := N) (vs := .ref p :: us) (i := i + 1) eu, ru⟩
    · have z : ∀ {i : Nat} {l : Bool} {gs : List D}, (envM N.length n cs ds)[i]? = some (some (.ow l gs)) → i = 0 := fun {i l gs} e => by
        cases i with
        | zero => rfl
        | succ i =>
          have e : (envV N.length (n + 1) ds)[i]? = some (some (.ow l gs)) := e
          obtain ⟨d, z, _⟩ := envV_get e
          cases z
      exact absurd ((z e1).trans (z e2).symm) hij
  unfold fnM at ed
  rw [if_pos hd] at ed
  have fin : ∀ {ε σ F' H'}, lentOf ε = some cs' → OkV K mg (bM F0 H p hne) ε σ F' H' → Same F0 F' → ∀ v, Rep K mg F' v d → Q v H' := fun {ε σ F' H'} le o s vv r => by
    unfold lentOf at le
    split at le
    · rename_i cs2 e0
      cases le
      obtain ⟨v0, sv, q, vs, rfl, fq, hq, rr, own⟩ := o.slot 0 _ e0
      have own : q = p := own
      subst own
      exact post vv H' F' vs s o.sub o.frame o.notb (fun b u hb e n => o.keep b u e (fun z => hb z) n) o.tab o.there hq rr r
    · cases le
  split at ed
  · rename_i d' ε' eg
    obtain ⟨c2, le, z⟩ := Option.map_eq_some_iff.mp ed
    cases z
    exact v.den _ _ F0 H _ _ ok eg fun v σ' F' H' o s r => fin le o s v r
  · rename_i ε' eg
    obtain ⟨c2, le, z⟩ := Option.map_eq_some_iff.mp ed
    cases z
    exact v.den _ _ F0 H _ _ ok eg fun σ' F' H' o s => fin le o s .non .non
  · cases ed
end
end VL
end

section
set_option Elab.async false
set_option linter.all false
set_option maxRecDepth 100000
set_option maxHeartbeats 4000000
/-! VL9: the built-ins. -/
namespace VL
open PySem L2
variable [LamN]

section
variable {K : PySem.W.Frag} {mg : Str → Option Value}
theorem RepL.one {H : Hp} {vs : List V} {d : D} (r : RepL K mg H vs [d]) : ∃ v, vs = [v] ∧ Rep K mg H v d := by
  cases r with | cons r t => cases t; exact ⟨_, rfl, r⟩
theorem RepL.two {H : Hp} {vs : List V} {d e : D} (r : RepL K mg H vs [d, e]) : ∃ v u, vs = [v, u] ∧ Rep K mg H v d ∧ Rep K mg H u e := by
  cases r with | cons r t => cases t with | cons r2 t => cases t; exact ⟨_, _, rfl, r, r2⟩
/-! ### abs, int, bool, len, gcd -/
def bAbs : List D → Option D
  | [.int i] => some (.int (if i < 0 then -i else i))
  | _ => none
theorem cd_abs : CallH K mg (fun xs H Q => ∃ i, xs = [.int i] ∧ Q (.int (if i < 0 then -i else i)) H) bAbs := fun H vs ds d Q r e q => by
  unfold bAbs at e
  split at e
  · cases e; obtain ⟨v, rfl, r1⟩ := r.one; cases r1; exact ⟨_, rfl, q _ fun _ => .int _⟩
  · cases e
def bInt : List D → Option D
  | [.int i] => some (.int i)
  | [.bl k] => some (.int (if k then 1 else 0))
  | _ => none
theorem cd_int : CallH K mg (fun xs H Q => (∃ i, xs = [.int i] ∧ Q (.int i) H) ∨ ∃ k, xs = [.bl k] ∧ Q (.int (if k then 1 else 0)) H) bInt := fun H vs ds d Q r e q => by
  unfold bInt at e
  split at e
  · cases e; obtain ⟨v, rfl, r1⟩ := r.one; cases r1; exact .inl ⟨_, rfl, q _ fun _ => .int _⟩
  · cases e; obtain ⟨v, rfl, r1⟩ := r.one; cases r1; exact .inr ⟨_, rfl, q _ fun _ => .int _⟩
  · cases e
def lenD : D → Option Nat
  | .str s => if s.length ≤ sizeLine then some s.length else none
  | .lst xs => some xs.length
  | .frl xs => some xs.length
  | .tup xs => some xs.length
  | _ => none
def bLen : List D → Option D
  | [d] => (lenD d).map fun (n : Nat) => D.int (n : Int)
  | _ => none
theorem cd_len : CallH K mg (fun xs H Q => (∃ p ys, xs = [.ref p] ∧ (SqL K H p ys ∨ SqT K H p ys) ∧ Q (.int ys.length) H) ∨ ∃ z, xs = [.str z] ∧ z.length ≤ sizeLine ∧ Q (.int z.length) H) bLen := fun H vs ds d Q r e q => by
  unfold bLen at e
  split at e
  · rename_i x
    obtain ⟨v, rfl, r1⟩ := r.one
    obtain ⟨n, en, rfl⟩ := Option.map_eq_some_iff.mp e
    cases r1 with
    | str s =>
      simp only [lenD] at en
      split at en
      · rename_i hl; cases en; exact .inr ⟨_, rfl, hl, q _ fun _ => .int _⟩
      · cases en
    | lst h r2 => cases en; refine .inl ⟨_, _, rfl, .inl (SqL.of h), ?_⟩; rw [r2.length]; exact q _ fun _ => .int _
    | frl h r2 => cases en; refine .inl ⟨_, _, rfl, .inl h, ?_⟩; rw [r2.length]; exact q _ fun _ => .int _
    | tup h r2 => cases en; refine .inl ⟨_, _, rfl, .inr h, ?_⟩; rw [r2.length]; exact q _ fun _ => .int _
    | _ => cases en
  · cases e
def bGcd : List D → Option D
  | [.int i, .int j] => some (.int ((Nat.gcd i.natAbs j.natAbs : Nat) : Int))
  | _ => none
theorem cd_gcd : CallH K mg rGcd bGcd := fun H vs ds d Q r e q => by
  unfold bGcd at e
  split at e
  · cases e; obtain ⟨v, u, rfl, r1, r2⟩ := r.two; cases r1; cases r2; exact ⟨_, _, rfl, q _ fun _ => .int _⟩
  · cases e
/-! ### sums of ints, all, any -/
def intsD : List D → Option (List Int)
  | [] => some []
  | .int i :: ds => (intsD ds).map (i :: ·)
  | _ => none
theorem intsD_eq : ∀ {ds : List D} {ns : List Int}, intsD ds = some ns → ds = ns.map D.int
  | [], ns, h => by cases h; rfl
  | d :: ds, ns, h => by
    unfold intsD at h
    split at h
    · rename_i z; cases z
    · rename_i i ds' z
      cases z
      obtain ⟨ms, em, rfl⟩ := Option.map_eq_some_iff.mp h
      rw [List.map_cons, intsD_eq em]
    · cases h
theorem intsD_of (ns : List Int) : intsD (ns.map D.int) = some ns := by
  induction ns with
  | nil => rfl
  | cons n ns ih => simp [intsD, ih]
def blsD : List D → Option (List Bool)
  | [] => some []
  | .bl i :: ds => (blsD ds).map (i :: ·)
  | _ => none
theorem blsD_eq : ∀ {ds : List D} {ns : List Bool}, blsD ds = some ns → ds = ns.map D.bl
  | [], ns, h => by cases h; rfl
  | d :: ds, ns, h => by
    unfold blsD at h
    split at h
    · rename_i z; cases z
    · rename_i i ds' z
      cases z
      obtain ⟨ms, em, rfl⟩ := Option.map_eq_some_iff.mp h
      rw [List.map_cons, blsD_eq em]
    · cases h
theorem blsD_of (ns : List Bool) : blsD (ns.map D.bl) = some ns := by
  induction ns with
  | nil => rfl
  | cons n ns ih => simp [blsD, ih]
def lstD : D → Option (List D)
  | .lst xs => some xs
  | .frl xs => some xs
  | _ => none
theorem lstD_sq {H : Hp} {v : V} {d : D} {ds : List D} (r : Rep K mg H v d) (e : lstD d = some ds) : ∃ a vs, v = .ref a ∧ SqL K H a vs ∧ RepL K mg H vs ds := by
  cases r with
  | lst h r => cases e; exact ⟨_, _, rfl, SqL.of h, r⟩
  | frl h r => cases e; exact ⟨_, _, rfl, h, r⟩
  | _ => cases e
def bSum : List D → Option D
  | [d] => ((lstD d).bind intsD).map fun ns => .int ns.sum
  | _ => none
theorem cd_sum : CallH K mg (rSum K) bSum := fun H vs ds d Q r e q => by
  unfold bSum at e
  split at e
  · obtain ⟨v, rfl, r1⟩ := r.one
    obtain ⟨ns, en, rfl⟩ := Option.map_eq_some_iff.mp e
    obtain ⟨xs, ex, en⟩ := Option.bind_eq_some_iff.mp en
    obtain ⟨a, vs, rfl, h, rl⟩ := lstD_sq r1 ex
    rw [intsD_eq en] at rl
    rw [rl.ints] at h
    exact ⟨a, ns, rfl, h, q _ fun _ => .int _⟩
  · cases e
def bAll : List D → Option D
  | [d] => ((lstD d).bind blsD).map fun bs => .bl (bs.all id)
  | _ => none
theorem cd_all : CallH K mg (rAll K) bAll := fun H vs ds d Q r e q => by
  unfold bAll at e
  split at e
  · obtain ⟨v, rfl, r1⟩ := r.one
    obtain ⟨ns, en, rfl⟩ := Option.map_eq_some_iff.mp e
    obtain ⟨xs, ex, en⟩ := Option.bind_eq_some_iff.mp en
    obtain ⟨a, vs, rfl, h, rl⟩ := lstD_sq r1 ex
    rw [blsD_eq en] at rl
    rw [rl.bls] at h
    exact ⟨a, ns, rfl, h, q _ fun _ => .bl _⟩
  · cases e
def bAny : List D → Option D
  | [d] => ((lstD d).bind blsD).map fun bs => .bl (bs.any id)
  | _ => none
theorem cd_any : CallH K mg (rAny K) bAny := fun H vs ds d Q r e q => by
  unfold bAny at e
  split at e
  · obtain ⟨v, rfl, r1⟩ := r.one
    obtain ⟨ns, en, rfl⟩ := Option.map_eq_some_iff.mp e
    obtain ⟨xs, ex, en⟩ := Option.bind_eq_some_iff.mp en
    obtain ⟨a, vs, rfl, h, rl⟩ := lstD_sq r1 ex
    rw [blsD_eq en] at rl
    rw [rl.bls] at h
    exact ⟨a, ns, rfl, h, q _ fun _ => .bl _⟩
  · cases e
def bMax2 : List D → Option D
  | [.int i, .int j] => some (.int (if j > i then j else i))
  | _ => none
theorem cd_max2 : CallH K mg (fun xs H Q => ∃ i j, xs = [.int i, .int j] ∧ Q (.int (if j > i then j else i)) H) bMax2 := fun H vs ds d Q r e q => by
  unfold bMax2 at e
  split at e
  · cases e; obtain ⟨v, u, rfl, r1, r2⟩ := r.two; cases r1; cases r2; exact ⟨_, _, rfl, q _ fun _ => .int _⟩
  · cases e
def bMin2 : List D → Option D
  | [.int i, .int j] => some (.int (if j < i then j else i))
  | _ => none
theorem cd_min2 : CallH K mg (fun xs H Q => ∃ i j, xs = [.int i, .int j] ∧ Q (.int (if j < i then j else i)) H) bMin2 := fun H vs ds d Q r e q => by
  unfold bMin2 at e
  split at e
  · cases e; obtain ⟨v, u, rfl, r1, r2⟩ := r.two; cases r1; cases r2; exact ⟨_, _, rfl, q _ fun _ => .int _⟩
  · cases e
/-! ### isinstance of built-in types -/
def tyN : D → Option String
  | .non => some "NoneType"
  | .bl _ => some "bool"
  | .int _ => some "int"
  | .str _ => some "str"
  | .lst _ => some "list"
  | .tup _ => some "tuple"
  | .dic _ => some "dict"
  | _ => none
theorem tyN_of {H : Hp} {v : V} {d : D} {T : String} (r : Rep K mg H v d) (e : tyN d = some T) : TyX K H v (.type T) := by
  cases r with
  | non => cases e; exact .base .non
  | bl b => cases e; exact .base (.bl b)
  | int b => cases e; exact .base (.int b)
  | str b => cases e; exact .base (.str b)
  | lst h _ => cases e; exact .base (.lst h)
  | tup h _ =>
    cases e
    rcases h with (h | ⟨o, h⟩) | ⟨o, _, _, h, hc, _⟩
    · exact .base (.tup h)
    · exact .fTuple h
    · exact .kTuple h hc
  | dic h _ => cases e; exact .base (.dK h)
  | _ => cases e
def tysD : List D → Option (List String)
  | [] => some []
  | .opq (.ty T) :: ds => (tysD ds).map (T :: ·)
  | _ => none
def kitL (T : String) : List String → Option Bool
  | [] => some false
  | c :: cs => match kitB T c with
    | some true => some true
    | some false => kitL T cs
    | none => none
theorem tysD_cls {H : Hp} : ∀ {ds : List D} {vs : List V} {Ts : List String}, tysD ds = some Ts → RepL K mg H vs ds → Paired ClsV vs (Ts.map Value.type)
  | [], _, Ts, e, .nil => by cases e; exact .nil
  | d :: ds, _, Ts, e, .cons r t => by
    unfold tysD at e
    split at e
    · rename_i z; cases z
    · rename_i T ds' z
      cases z
      obtain ⟨Ts', et, rfl⟩ := Option.map_eq_some_iff.mp e
      cases r
      exact .cons (.ty T) (tysD_cls et t)
    · cases e
theorem kitL_any {S : String} : ∀ {Ts : List String} {b : Bool}, kitL S Ts = some b → PySem.W.kitAny K (.type S) (Ts.map Value.type) = some b
  | [], b, e => by cases e; exact kitAny_nil
  | T :: Ts, b, e => by
    unfold kitL at e
    split at e
    · rename_i h; cases e
      exact kitAny_cons (kit_ty h) (fun z => by cases z) fun _ => rfl
    · rename_i h
      exact kitAny_cons (kit_ty h) (fun _ => kitL_any e) fun z => by cases z
    · cases e
end
section
variable {K : PySem.W.Frag} {mg : Str → Option Value}
def bIsi1 : List D → Option D
  | [d, .opq (.ty T)] => ((tyN d).bind fun S => kitB S T).map .bl
  | _ => none
theorem cd_isi1 : CallH K mg (rIsi K) bIsi1 := fun H vs ds d Q r e q => by
  unfold bIsi1 at e
  split at e
  · rename_i x T
    obtain ⟨v, u, rfl, r1, r2⟩ := r.two
    obtain ⟨b, eb, rfl⟩ := Option.map_eq_some_iff.mp e
    obtain ⟨S, eS, eb⟩ := Option.bind_eq_some_iff.mp eb
    cases r2
    exact ⟨v, _, _, _, b, rfl, .ty T, tyN_of r1 eS, kit_ty eb, q _ fun _ => .bl _⟩
  · cases e
end
section
variable {X : Cx} {B : Bs} {e : Expr} {es : List Expr} {te : TE} {fe : Env → Option (Out D)} {pos p : Pos} {ts : TA} {fs : Env → Option (Out (List D))}
/-- a built-in class as a value -/
theorem ve_ty {x : Str} {T : String} (hg : Gl X x) (hm : X.mg x = none) (hv : bootBuiltins x = some (.type T)) (hn : x ≠ "__name__" := by decide) (hd : (x == ("__debug__" : Str)) = false := by decide) : VE X B (.Name x pos) (tC (.ty T)) (eK (.opq (.ty T))) := ⟨pe_bltn hg hm hv rfl hn hd, den_const fun _ => .opq _⟩
/-- isinstance(x, (T1, T2, ..)): the tuple is just laid -/
def eIsiT (f : Env → Option (Out D)) (Ts : List String) : Env → Option (Out D) := bnd f fun d => lift (((tyN d).bind fun S => kitL S Ts).map .bl)
def tIsiT (K : PySem.W.Frag) (te : TE) (ts : TA) : TE := tCB (rIsiT K) (tCons te (tCons (tTup ts) tNil))
/-- names of built-in classes in a row -/
def tTys (Ts : List String) : TA := fun _ H Q => Q (Ts.map V.ty) H
theorem den_isiT {K : PySem.W.Frag} {mg : Str → Option Value} {Ts : List String} (h : Den K mg B te fe) (ht : ∀ σ H Q, ts σ H Q ↔ Q (Ts.map V.ty) H) (hl : Ts.length ≤ 100) : Den K mg B (tCB (rIsiT K) (tCons te (tCons (tTup ts) tNil))) (eIsiT fe Ts) := fun ε σ F H Q r ok e p => by
  rcases bnd_some e with ⟨x, ε', e1, rfl⟩ | ⟨d, ε1, e1, e⟩
  · exact h ε σ F H _ _ ok e1 p
  refine h ε σ F H _ _ ok e1 fun v F1 H1 ok1 s1 r1 => ?_
  obtain ⟨d', ed, rfl⟩ := lift_some e
  obtain ⟨b, eb, rfl⟩ := Option.map_eq_some_iff.mp ed
  obtain ⟨S, eS, eb⟩ := Option.bind_eq_some_iff.mp eb
  refine (ht σ H1 _).mpr ⟨by rw [List.length_map, sizeLine_eq]; omega, fun q hq => ?_⟩
  have tys : ∀ Ts : List String, Paired ClsV (Ts.map V.ty) (Ts.map Value.type) := fun Ts => by
    induction Ts with
    | nil => exact .nil
    | cons T Ts ih => exact .cons (.ty T) ih
  refine ⟨v, q, _, .type S, _, b, rfl, upd_same, tys Ts, tyN_of ((r1.mono ok1.sub).mono (upd_same_of hq)) eS, kitL_any eb, ?_⟩
  exact p _ _ _ (ok1.laidH hq _) s1 (.bl _)
theorem ve_isiT {Ts : List String} {kk : Nat} {tp : Pos} {cs : List Expr} (hg : Gl X "isinstance") (hm : X.mg "isinstance" = none) (he : VE X B e te fe) (pa : PA X cs ts) (ht : ∀ σ H Q, ts σ H Q ↔ Q (Ts.map V.ty) H) (hl : Ts.length ≤ 100 := by decide)
    (st : starEach [e, .Tuple cs kk tp] X.env = (false, eval e X.env) :: starEach [.Tuple cs kk tp] X.env := by rfl) (st2 : starEach [.Tuple cs kk tp] X.env = (false, eval (.Tuple cs kk tp) X.env) :: starEach [] X.env := by rfl) (pl : (backTo pos (starEach [.Tuple cs kk tp] X.env)).any (·.1) = false := by rfl) :
    VE X B (.Call (.Name "isinstance" p) [e, .Tuple cs kk tp] [] pos) (tCB (rIsiT X.K) (tCons te (tCons (tTup ts) tNil))) (eIsiT fe Ts) :=
  ⟨pe_callB call_isiT hg hm PyProof.Rows.boot_isinstance (pa_cons he.pe (pa_cons (pe_tup pa) pa_nil st2) st) (by decide) (by decide) st pl, den_isiT he.den ht hl⟩
theorem tys_nil (σ : L2.St) (H : Hp) (Q : List V → Hp → Prop) : tNil σ H Q ↔ Q (([] : List String).map V.ty) H := Iff.rfl
theorem tys_cons {T : String} {Ts : List String} {ts : TA} (h : ∀ σ H Q, ts σ H Q ↔ Q (Ts.map V.ty) H) : ∀ σ H Q, tCons (tC (.ty T)) ts σ H Q ↔ Q ((T :: Ts).map V.ty) H := fun σ H Q => h σ H fun xs H2 => Q (.ty T :: xs) H2

/-! ### tuple(x), list(x) -/
def bTuple : D → Option D
  | .lst xs => some (.tup xs)
  | .frl xs => some (.tup xs)
  | .tup xs => some (.tup xs)
  | _ => none
def rTup (K : PySem.W.Frag) : List V → Hp → VK → Prop := fun xs H Q => ∃ p ys, xs = [.ref p] ∧ ((SqL K H p ys ∧ ∀ l, H l = none → Q (.ref l) (upd H l (.tup ys))) ∨ (SqT K H p ys ∧ Q (.ref p) H))
theorem den_tuple {K : PySem.W.Frag} {mg : Str → Option Value} (h : Den K mg B te fe) : Den K mg B (tCB (rTup K) (tCons te tNil)) (e1 bTuple fe) := fun ε σ F H Q r ok e p => by
  rcases bnd_some e with ⟨x, ε', e1, rfl⟩ | ⟨d, ε1, e1, e⟩
  · exact h ε σ F H _ _ ok e1 p
  refine h ε σ F H _ _ ok e1 fun v F1 H1 ok1 s1 r1 => ?_
  obtain ⟨d', ed, rfl⟩ := lift_some e
  cases r1 with
  | lst h r => cases ed; exact ⟨_, _, rfl, .inl ⟨SqL.of (ok1.sub _ _ h), fun q hq => p _ _ _ (ok1.laid hq _) (s1.trans (same_laid ok1 hq _)) (.tup (SqT.of upd_same) (r.mono (same_laid ok1 hq _)))⟩⟩
  | frl h r => cases ed; exact ⟨_, _, rfl, .inl ⟨ok1.sub.seq h, fun q hq => p _ _ _ (ok1.laid hq _) (s1.trans (same_laid ok1 hq _)) (.tup (SqT.of upd_same) (r.mono (same_laid ok1 hq _)))⟩⟩
  | tup h r => cases ed; exact ⟨_, _, rfl, .inr ⟨same_sqT ok1.sub h, p _ F1 H1 ok1 s1 (.tup h r)⟩⟩
  | _ => cases ed
theorem ve_tuple (hg : Gl X "tuple") (hm : X.mg "tuple" = none) (he : VE X B e te fe) (st : starEach [e] X.env = (false, eval e X.env) :: starEach [] X.env := by rfl) : VE X B (.Call (.Name "tuple" p) [e] [] pos) (tCB (rTup X.K) (tCons te tNil)) (e1 bTuple fe) :=
  ⟨pe_callTy call_tuple_of hg hm PyProof.Rows.boot_tuple (pa_cons he.pe pa_nil st) (by decide) (by decide) st rfl, den_tuple he.den⟩
def rLst (K : PySem.W.Frag) : List V → Hp → VK → Prop := fun xs H Q => ∃ p ys, xs = [.ref p] ∧ (SqL K H p ys ∨ SqT K H p ys) ∧ ∀ l, H l = none → Q (.ref l) (upd H l (.lst ys))
def nList (f : Env → Option (Out D)) : Env → Option (Out (List D)) := bnd f fun d => lift (asItems d)
theorem den_list {K : PySem.W.Frag} {mg : Str → Option Value} (h : Den K mg B te fe) : DenN K mg B (tCB (rLst K) (tCons te tNil)) (nList fe) := fun ε σ F H Q r ok e p => by
  rcases bnd_some e with ⟨x, ε', e1, rfl⟩ | ⟨d, ε1, e1, e⟩
  · exact h ε σ F H _ _ ok e1 p
  refine h ε σ F H _ _ ok e1 fun v F1 H1 ok1 s1 r1 => ?_
  obtain ⟨d', ed, rfl⟩ := lift_some e
  cases r1 with
  | lst h r => cases ed; exact ⟨_, _, rfl, .inl (SqL.of (ok1.sub _ _ h)), fun q hq => p q _ F1 H1 ok1 s1 hq r⟩
  | frl h r => cases ed; exact ⟨_, _, rfl, .inl (ok1.sub.seq h), fun q hq => p q _ F1 H1 ok1 s1 hq r⟩
  | tup h r => cases ed; exact ⟨_, _, rfl, .inr (same_sqT ok1.sub h), fun q hq => p q _ F1 H1 ok1 s1 hq r⟩
  | _ => cases ed
theorem vn_list (hg : Gl X "list") (hm : X.mg "list" = none) (he : VE X B e te fe) (st : starEach [e] X.env = (false, eval e X.env) :: starEach [] X.env := by rfl) : VN X B (.Call (.Name "list" p) [e] [] pos) (tCB (rLst X.K) (tCons te tNil)) (nList fe) :=
  ⟨pe_callTy call_list_of hg hm PyProof.Rows.boot_list (pa_cons he.pe pa_nil st) (by decide) (by decide) st rfl, den_list he.den⟩
/-- x.bit_length() -/
def bBits : D → Option D
  | .int i => some (.int (Builtin.Int.intBits i : Nat))
  | _ => none
theorem ve_bits {apos : Pos} (he : VE X B e te fe) (hbase : attributeBase e "bit_length" X.env (eval e X.env) = eval e X.env := by rfl) (hline : (apos.endLine == pos.line) = true := by rfl) : VE X B (.Call (.Attribute e "bit_length" apos) [] [] pos) (tBits te) (e1 bBits fe) :=
  ⟨pe_bits he.pe hbase hline, fun ε σ F H Q r ok ev p => by
    rcases bnd_some ev with ⟨x, ε', e1, rfl⟩ | ⟨d, ε1, e1, ev⟩
    · exact he.den ε σ F H _ _ ok e1 p
    refine he.den ε σ F H _ _ ok e1 fun v F1 H1 ok1 s1 r1 => ?_
    obtain ⟨d', ed, rfl⟩ := lift_some ev
    unfold bBits at ed
    split at ed
    · cases ed; cases r1; exact ⟨_, rfl, p _ F1 H1 ok1 s1 (.int _)⟩
    · cases ed⟩
end
end VL
end

section
set_option Elab.async false
set_option linter.all false
set_option maxRecDepth 100000
set_option maxHeartbeats 4000000
/-! VL10: slices, zip, more. -/
namespace VL
open PySem L2
variable [LamN]

/-! ### parts of a slice -/
def PostO (K : PySem.W.Frag) (mg : Str → Option Value) (B : Bs) (σ : L2.St) (F : Hp) (Q : Option Int → Hp → Prop) : Out (Option Int) → Prop
  | .ok i ε => ∀ F' H', OkV K mg B ε σ F' H' → Same F F' → Q i H'
  | .ex x ε => XPost K mg B x ε F
def DenO (K : PySem.W.Frag) (mg : Str → Option Value) (B : Bs) (t : TO) (f : VL.Env → Option (Out (Option Int))) : Prop :=
  ∀ ε σ F H Q r, OkV K mg B ε σ F H → f ε = some r → PostO K mg B σ F Q r → t σ H Q
structure VO (X : Cx) (B : Bs) (e : Option Expr) (t : TO) (f : VL.Env → Option (Out (Option Int))) : Prop where
  po : PO X e t
  den : DenO X.K X.mg B t f
def asI : D → Option Int
  | .int i => some i
  | _ => none
def oPart (f : VL.Env → Option (Out D)) : VL.Env → Option (Out (Option Int)) := bnd f fun d => lift ((asI d).map some)
section
variable {X : Cx} {B : Bs} {e : Expr} {te : TE} {fe : VL.Env → Option (Out D)} {lo hi : Option Expr} {tl th : TO} {fl fh : VL.Env → Option (Out (Option Int))} {pos p2 : Pos}
theorem vo_none : VO X B none tNoPart (ret none) := ⟨po_none, fun ε σ F H Q r ok e p => by cases e; exact p F H ok (Same.refl _)⟩
theorem vo_some (he : VE X B e te fe) : VO X B (some e) (tPart te) (oPart fe) := ⟨po_some he.pe, fun ε σ F H Q r ok e p => by
  rcases bnd_some e with ⟨x, ε', e1, rfl⟩ | ⟨d, ε1, e1, e⟩
  · exact he.den ε σ F H _ _ ok e1 p
  refine he.den ε σ F H _ _ ok e1 fun v F1 H1 ok1 s1 r1 => ?_
  obtain ⟨i, ei, rfl⟩ := lift_some e
  obtain ⟨j, ej, rfl⟩ := Option.map_eq_some_iff.mp ei
  cases r1 <;> cases ej
  exact ⟨_, rfl, p F1 H1 ok1 s1⟩⟩
def cutD (xs : List D) (lo hi : Option Int) : List D := (xs.drop (HT.sIx xs.length 0 lo)).take (HT.sIx xs.length xs.length hi - HT.sIx xs.length 0 lo)
theorem RepL.cut' {K : PySem.W.Frag} {mg : Str → Option Value} {F : Hp} {vs : List V} {ds : List D} (r : RepL K mg F vs ds) (lo hi : Option Int) : RepL K mg F (cutV vs lo hi) (cutD ds lo hi) := by
  unfold cutV cutD
  rw [r.length]
  exact (r.drop _).take _
def oCut (d : D) (lo hi : Option Int) : Option D := match d with
  | .tup xs => some (.tup (cutD xs lo hi))
  | .str s => if s.length ≤ sizeLine then some (.str (cutS s lo hi)) else none
  | _ => none
/-- a list's slice -/
def nCut (f : VL.Env → Option (Out D)) (fl fh : VL.Env → Option (Out (Option Int))) : VL.Env → Option (Out (List D)) := bnd f fun d => bnd fl fun lo => bnd fh fun hi => lift ((lstD d).map fun xs => cutD xs lo hi)
theorem den_cutN {K : PySem.W.Frag} {mg : Str → Option Value} (h : Den K mg B te fe) (hl : DenO K mg B tl fl) (hh : DenO K mg B th fh) : DenN K mg B (tSl (rSlL K) te tl th) (nCut fe fl fh) := fun ε σ F H Q r ok e p => by
  rcases bnd_some e with ⟨x, ε', e1, rfl⟩ | ⟨d, ε1, e1, e⟩
  · exact h ε σ F H _ _ ok e1 p
  refine h ε σ F H _ _ ok e1 fun v F1 H1 ok1 s1 r1 => ?_
  rcases bnd_some e with ⟨x, ε', e2, rfl⟩ | ⟨lo, ε2, e2, e⟩
  · exact hl ε1 σ F1 H1 _ _ ok1 e2 (XPost.mono p s1)
  refine hl ε1 σ F1 H1 _ _ ok1 e2 fun F2 H2 ok2 s2 => ?_
  rcases bnd_some e with ⟨x, ε', e3, rfl⟩ | ⟨hi, ε3, e3, e⟩
  · exact hh ε2 σ F2 H2 _ _ ok2 e3 (XPost.mono p (s1.trans s2))
  refine hh ε2 σ F2 H2 _ _ ok2 e3 fun F3 H3 ok3 s3 => ?_
  obtain ⟨ds, ed, rfl⟩ := lift_some e
  obtain ⟨xs, ex, rfl⟩ := Option.map_eq_some_iff.mp ed
  have r3 := r1.mono (s2.trans s3)
  cases r3 with
  | lst h r => cases ex; exact ⟨_, _, rfl, SqL.of (ok3.sub _ _ h), fun q hq => p q _ F3 H3 ok3 (s1.trans (s2.trans s3)) hq (r.cut' lo hi)⟩
  | frl h r => cases ex; exact ⟨_, _, rfl, ok3.sub.seq h, fun q hq => p q _ F3 H3 ok3 (s1.trans (s2.trans s3)) hq (r.cut' lo hi)⟩
  | _ => cases ex
theorem vn_cut (he : VE X B e te fe) (hl : VO X B lo tl fl) (hh : VO X B hi th fh) : VN X B (.Subscript e (.Slice lo hi none p2) pos) (tSl (rSlL X.K) te tl th) (nCut fe fl fh) := ⟨pe_slice sl_list he.pe hl.po hh.po, den_cutN he.den hl.den hh.den⟩
/-- a slice of a list, a tuple or a text -/
def rSlAny (K : PySem.W.Frag) : V → Option Int → Option Int → Hp → VK → Prop := fun x lo hi H Q => rSlL K x lo hi H Q ∨ (rSlA K x lo hi H Q ∨ ∃ z : Str, x = .str z ∧ z.length ≤ sizeLine ∧ Q (.str (cutS z lo hi)) H)
def oCutA (d : D) (lo hi : Option Int) : Option D := match d with
  | .lst xs => some (.lst (cutD xs lo hi))
  | .frl xs => some (.lst (cutD xs lo hi))
  | .tup xs => some (.tup (cutD xs lo hi))
  | .str s => if s.length ≤ sizeLine then some (.str (cutS s lo hi)) else none
  | _ => none
def eCut (f : VL.Env → Option (Out D)) (fl fh : VL.Env → Option (Out (Option Int))) : VL.Env → Option (Out D) := bnd f fun d => bnd fl fun lo => bnd fh fun hi => lift (oCutA d lo hi)
theorem cutD_whole {xs : List D} {lo hi : Option Int} (h : HT.sIx xs.length 0 lo = 0 ∧ HT.sIx xs.length xs.length hi = xs.length) : cutD xs lo hi = xs := by
  unfold cutD
  rw [h.1, h.2, List.drop_zero, Nat.sub_zero, List.take_length]
theorem den_cut {K : PySem.W.Frag} {mg : Str → Option Value} (h : Den K mg B te fe) (hl : DenO K mg B tl fl) (hh : DenO K mg B th fh) : Den K mg B (tSl (rSlAny K) te tl th) (eCut fe fl fh) := fun ε σ F H Q r ok e p => by
  rcases bnd_some e with ⟨x, ε', e1, rfl⟩ | ⟨d, ε1, e1, e⟩
  · exact h ε σ F H _ _ ok e1 p
  refine h ε σ F H _ _ ok e1 fun v F1 H1 ok1 s1 r1 => ?_
  rcases bnd_some e with ⟨x, ε', e2, rfl⟩ | ⟨lo, ε2, e2, e⟩
  · exact hl ε1 σ F1 H1 _ _ ok1 e2 (XPost.mono p s1)
  refine hl ε1 σ F1 H1 _ _ ok1 e2 fun F2 H2 ok2 s2 => ?_
  rcases bnd_some e with ⟨x, ε', e3, rfl⟩ | ⟨hi, ε3, e3, e⟩
  · exact hh ε2 σ F2 H2 _ _ ok2 e3 (XPost.mono p (s1.trans s2))
  refine hh ε2 σ F2 H2 _ _ ok2 e3 fun F3 H3 ok3 s3 => ?_
  obtain ⟨d', ed, rfl⟩ := lift_some e
  have sA := s1.trans (s2.trans s3)
  have r3 := r1.mono (s2.trans s3)
  cases r3 with
  | lst h r => cases ed; exact .inl ⟨_, _, rfl, SqL.of (ok3.sub _ _ h), fun q hq => p _ _ _ (ok3.laid hq _) (sA.trans (same_laid ok3 hq _)) (.lst upd_same ((r.cut' lo hi).mono (same_laid ok3 hq _)))⟩
  | frl h r => cases ed; exact .inl ⟨_, _, rfl, ok3.sub.seq h, fun q hq => p _ _ _ (ok3.laid hq _) (sA.trans (same_laid ok3 hq _)) (.lst upd_same ((r.cut' lo hi).mono (same_laid ok3 hq _)))⟩
  | tup h r =>
    cases ed
    refine .inr (.inl ⟨_, _, rfl, same_sqT ok3.sub h, fun hw => ?_, fun _ q hq => p _ _ _ (ok3.laid hq _) (sA.trans (same_laid ok3 hq _)) (.tup (SqT.of upd_same) ((r.cut' lo hi).mono (same_laid ok3 hq _)))⟩)
    rw [r.length] at hw
    rw [cutD_whole hw] at p
    exact p _ F3 H3 ok3 sA (.tup h r)
  | str s =>
    simp only [oCutA] at ed
    split at ed
    · rename_i hz
      cases ed
      exact .inr (.inr ⟨_, rfl, hz, p _ F3 H3 ok3 sA (.str _)⟩)
    · cases ed
  | _ => cases ed
theorem ve_cut (he : VE X B e te fe) (hl : VO X B lo tl fl) (hh : VO X B hi th fh) : VE X B (.Subscript e (.Slice lo hi none p2) pos) (tSl (rSlAny X.K) te tl th) (eCut fe fl fh) := ⟨pe_slice (sl_list.or (sl_tupA.or sl_str)) he.pe hl.po hh.po, den_cut he.den hl.den hh.den⟩
/-! ### lists made by + and * -/
theorem DenN.of_add {K : PySem.W.Frag} {mg : Str → Option Value} {ta tb : TE} {fa fb : VL.Env → Option (Out D)} (ha : Den K mg B ta fa) (hb : Den K mg B tb fb) : DenN K mg B (tOp (rAddA K) ta tb) (bnd fa fun a => bnd fb fun b => lift (match a, b with
    | .lst x, .lst y => if x.length + y.length ≤ sizeLine then some (x ++ y) else none
    | _, _ => none)) := fun ε σ F H Q r ok e p => by
  rcases bnd_some e with ⟨x, ε', e1, rfl⟩ | ⟨a, ε1, e1, e⟩
  · exact ha ε σ F H _ _ ok e1 p
  refine ha ε σ F H _ _ ok e1 fun v F1 H1 ok1 s1 r1 => ?_
  rcases bnd_some e with ⟨x, ε', e2, rfl⟩ | ⟨b, ε2, e2, e⟩
  · exact hb ε1 σ F1 H1 _ _ ok1 e2 (XPost.mono p s1)
  refine hb ε1 σ F1 H1 _ _ ok1 e2 fun u F2 H2 ok2 s2 r2 => ?_
  obtain ⟨d, ed, rfl⟩ := lift_some e
  split at ed
  · split at ed
    · rename_i hl
      cases ed
      cases r1 with | lst h r => cases r2 with | lst h2 r2 =>
      refine .inr (.inr (.inl ⟨_, _, _, _, rfl, rfl, ok2.sub _ _ (s2 _ _ h), ok2.sub _ _ h2, by rw [r.length, r2.length]; exact hl, fun q hq => p q _ F2 H2 ok2 (s1.trans s2) hq ((r.mono s2).append r2)⟩))
    · cases ed
  · cases ed
theorem DenN.of_mul {K : PySem.W.Frag} {mg : Str → Option Value} {ta tb : TE} {fa fb : VL.Env → Option (Out D)} (ha : Den K mg B ta fa) (hb : Den K mg B tb fb) : DenN K mg B (tOp rMulA ta tb) (bnd fa fun a => bnd fb fun b => lift (match a, b with
    | .lst x, .int k => if -(2 ^ 63) ≤ k ∧ k < 2 ^ 63 ∧ x.length * k.toNat ≤ sizeLine then some (List.replicate k.toNat x).flatten else none
    | _, _ => none)) := fun ε σ F H Q r ok e p => by
  rcases bnd_some e with ⟨x, ε', e1, rfl⟩ | ⟨a, ε1, e1, e⟩
  · exact ha ε σ F H _ _ ok e1 p
  refine ha ε σ F H _ _ ok e1 fun v F1 H1 ok1 s1 r1 => ?_
  rcases bnd_some e with ⟨x, ε', e2, rfl⟩ | ⟨b, ε2, e2, e⟩
  · exact hb ε1 σ F1 H1 _ _ ok1 e2 (XPost.mono p s1)
  refine hb ε1 σ F1 H1 _ _ ok1 e2 fun u F2 H2 ok2 s2 r2 => ?_
  obtain ⟨d, ed, rfl⟩ := lift_some e
  split at ed
  · split at ed
    · rename_i hl
      obtain ⟨h1, h2, h3⟩ := hl
      cases ed
      cases r2
      cases r1 with | lst h r =>
      exact .inr ⟨_, _, _, rfl, rfl, ok2.sub _ _ (s2 _ _ h), h1, h2, by rw [r.length]; exact h3, fun q hq => p q _ F2 H2 ok2 (s1.trans s2) hq ((r.mono s2).rep _)⟩
    · cases ed
  · cases ed
end
end VL
end

section
set_option Elab.async false
set_option linter.all false
set_option maxRecDepth 100000
set_option maxHeartbeats 4000000
/-! VL: the last rules: constants of the module, a, b, c = x, y, z. -/
namespace VL
open PySem L2
variable [LamN]
section
variable {X : Cx} {B : Bs} {e a b c : Expr} {te ta tb : TE} {fe fa fb : VL.Env → Option (Out D)} {pos : Pos}
theorem ve_globI {x : Str} {i : Int} (hg : Gl X x) (h : ∃ t, X.mg x = some (.int i t)) (hd : (x == ("__debug__" : Str)) = false := by decide) : VE X B (.Name x pos) (tC (.int i)) (eK (.int i)) := let ⟨_, h⟩ := h; ve_glob hg h ⟨_, rfl⟩ (fun _ => .int _) hd
theorem ve_globS {x : Str} {i : Str} (hg : Gl X x) (h : ∃ t, X.mg x = some (.str i t)) (hd : (x == ("__debug__" : Str)) = false := by decide) : VE X B (.Name x pos) (tC (.str i)) (eK (.str i)) := let ⟨_, h⟩ := h; ve_glob hg h ⟨_, rfl⟩ (fun _ => .str _) hd
def nAdd (fa fb : VL.Env → Option (Out D)) : VL.Env → Option (Out (List D)) := bnd fa fun a => bnd fb fun b => lift (match a, b with
    | .lst x, .lst y => if x.length + y.length ≤ sizeLine then some (x ++ y) else none
    | _, _ => none)
def nMul (fa fb : VL.Env → Option (Out D)) : VL.Env → Option (Out (List D)) := bnd fa fun a => bnd fb fun b => lift (match a, b with
    | .lst x, .int k => if -(2 ^ 63) ≤ k ∧ k < 2 ^ 63 ∧ x.length * k.toNat ≤ sizeLine then some (List.replicate k.toNat x).flatten else none
    | _, _ => none)
theorem vn_add (ha : VE X B a ta fa) (hb : VE X B b tb fb) : VN X B (.BinOp a .Add b pos) (tOp (rAddA X.K) ta tb) (nAdd fa fb) := ⟨pe_op op_addA ha.pe hb.pe, DenN.of_add ha.den hb.den⟩
theorem vn_mul (ha : VE X B a ta fa) (hb : VE X B b tb fb) : VN X B (.BinOp a .Mult b pos) (tOp rMulA ta tb) (nMul fa fb) := ⟨pe_op op_mulA ha.pe hb.pe, DenN.of_mul ha.den hb.den⟩
def sPar3 (i j l : Nat) (f : VL.Env → Option (Out (List D))) : SF := sE f fun ds ε => match ds with
  | [a, b, c] => some (.nx (((ε.set i (some (.fr a))).set j (some (.fr b))).set l (some (.fr c))))
  | _ => none
theorem vs_par3 {i j l : Nat} {x y z : Str} {px py pz pt : Pos} {kt k2 pt2} {ts : TA} {fs : VL.Env → Option (Out (List D))} (hc : X.calm = true) (hN : X.N.Nodup) (hi : X.N[i]? = some x) (hj : X.N[j]? = some y) (hl : X.N[l]? = some z) (hij : i ≠ j) (hil : i ≠ l) (hjl : j ≠ l)
    (hx : X.env.scope.names.lookup x = some .local) (hy : X.env.scope.names.lookup y = some .local) (hz : X.env.scope.names.lookup z = some .local) (ha : VA X B [a, b, c] ts fs)
    (hw : swappedStores [.Tuple [.Name x px, .Name y py, .Name z pz] kt pt] (.Tuple [a, b, c] k2 pt2) X.env = pure (some [x, y, z]))
    (hs : swapsWithSole [.Tuple [.Name x px, .Name y py, .Name z pz] kt pt] (.Tuple [a, b, c] k2 pt2) pos.line X.env = pure false := by rfl) :
    VS X B (.Assign [.Tuple [.Name x px, .Name y py, .Name z pz] kt pt] (.Tuple [a, b, c] k2 pt2) pos) (tPar3 i j l ts) (sPar3 i j l fs) := ⟨ps_par3 hc hN hi hj hl hij hil hjl hx hy hz ha.pa hw hs, fun ε σ F H D r ok e p => by
  rcases sE_some e with ⟨x, ε', e1, rfl⟩ | ⟨ds, ε1, e1, e⟩
  · exact ha.den ε σ F H _ _ ok e1 p
  refine ha.den ε σ F H _ _ ok e1 fun vs F1 H1 ok1 s1 r1 => ?_
  split at e
  · cases e
    cases r1 with | cons ra r1 => cases r1 with | cons rb r1 => cases r1 with | cons rc r1 => cases r1 with | nil =>
    exact ⟨_, _, _, rfl, p _ F1 H1 (((ok1.setF ra i).setF rb j).setF rc l) s1⟩
  · cases e⟩
theorem va_star {es : List Expr} {p : Pos} {ts : TA} {fs : VL.Env → Option (Out (List D))} (he : VE X B e te fe) (hr : VA X B es ts fs) (hs : starEach (.Starred e p :: es) X.env = (true, eval e X.env) :: starEach es X.env := by rfl) : VA X B (.Starred e p :: es) (StX.tStar X.K te ts) (aStar fe fs) := ⟨StX.pa_star he.pe hr.pa hs, fun ε σ F H Q r ok e p => by
  rcases bnd_some e with ⟨x, ε', e1, rfl⟩ | ⟨d, ε1, e1, e⟩
  · exact he.den ε σ F H _ _ ok e1 p
  refine he.den ε σ F H _ _ ok e1 fun v1 F1 H1 ok1 s1 r1 => ?_
  rcases bnd_some e with ⟨x, ε', e2, rfl⟩ | ⟨xs, ε2, e2, e⟩
  · obtain ⟨_, _, z⟩ := lift_some e2; cases z
  obtain ⟨xs', ex, z⟩ := lift_some e2
  cases z
  have go : ∀ (vs : List V) (q : RepL X.K X.mg F1 vs xs), ts σ H1 fun ys H2 => Q (vs ++ ys) H2 := fun vs q => by
    rcases bnd_some e with ⟨x, ε', e3, rfl⟩ | ⟨ds, ε3, e3, e⟩
    · exact hr.den _ σ F1 H1 _ _ ok1 e3 (XPost.mono p s1)
    refine hr.den _ σ F1 H1 _ _ ok1 e3 fun us F2 H2 ok2 s2 r2 => ?_
    cases e
    exact p _ F2 H2 ok2 (s1.trans s2) ((q.mono s2).append r2)
  cases r1 with
  | lst h r => cases ex; exact ⟨_, _, rfl, .inr (SqL.of (ok1.sub _ _ h)), go _ r⟩
  | frl h r => cases ex; exact ⟨_, _, rfl, .inr (ok1.sub.seq h), go _ r⟩
  | tup h r => cases ex; exact ⟨_, _, rfl, .inl (same_sqT ok1.sub h), go _ r⟩
  | _ => cases ex⟩
end
end VL
end

section
set_option Elab.async false
set_option linter.all false
set_option maxRecDepth 100000
set_option maxHeartbeats 4000000
/-! VL11: defs that may raise, their calls. -/
namespace VL
open PySem L2
variable [LamN]

abbrev Rs := Except Exn D
/-- a def that may raise: fn of the data -/
def spX (K : PySem.W.Frag) (mg : Str → Option Value) (n : Nat) (fn : List D → Option Rs) : Sp := fun vs H Q E => vs.length = n ∧ ∃ F ds r, Same F H ∧ NoT F ∧ Tbs K H ∧ RepL K mg F vs ds ∧ fn ds = some r ∧
  (∀ d, r = .ok d → ∀ v H' F', Same F F' → Same F' H' → (∀ a, H a ≠ none → F a = none → F' a = none) → NoT F' → Kp K H H' → Rep K mg F' v d → Q v H') ∧
  (∀ x, r = .error x → ∀ C dd fs H' F', Same F F' → Same F' H' → (∀ a, H a ≠ none → F a = none → F' a = none) → NoT F' → Kp K H H' → mg x.n = some (.ref C) → F' dd = some (.xd fs) → RepF K mg F' fs x.fs → E (.ref C) (some dd) H')
def eCallX (fn : List D → Option Rs) (bs : List Nat) (fs : Env → Option (Out (List D))) : Env → Option (Out D) := bnd fs fun ds ε => match fn ds with
  | some (.ok d) => if (bs.all (isFr ε) || noL d) = true then some (.ok d ε) else none
  | some (.error x) => if (bs.all (isFr ε) || noLF x.fs) = true then some (.ex x ε) else none
  | none => none
theorem den_callX {K : PySem.W.Frag} {mg : Str → Option Value} {B : Bs} {ts : TA} {bs : List Nat} {fs : Env → Option (Out (List D))} {n : Nat} {fn : List D → Option Rs} (hl : ∀ ds d, fn ds = some d → ds.length = n) (h : DenC K mg B bs ts fs) :
    Den K mg B (tCallS (spX K mg n fn) B.E ts) (eCallX fn bs fs) := fun ε σ F H Q q ok e p => by
  rcases bnd_some e with ⟨y, ε', e1, rfl⟩ | ⟨ds, ε1, e1, e⟩
  · exact h ε σ F H _ _ ok e1 p
  refine h ε σ F H _ _ ok e1 fun vs F2 H2 Fc ok2 s2 s3 s4 n r2 r2' => ?_
  split at e
  · rename_i d ed
    split at e
    · rename_i hc
      cases e
      have hlen : vs.length = _ := r2.length.trans (hl ds _ ed)
      by_cases hfr : bs.all (isFr ε1) = true
      · refine ⟨hlen, F2, ds, _, ok2.sub, ok2.notb, ok2.tab, r2' hfr, ed, fun d' z v H' F' t1 t2 t3 tn t4 rv => ?_, fun x z => nomatch z⟩
        cases z
        exact p v F' H' (ok2.callA t1 t2 t3 tn t4) (s2.trans t1) rv
      · have hno : noL d = true := by simpa [hfr] using hc
        refine ⟨hlen, Fc, ds, _, s4, ok2.notb.cut s3 n, ok2.tab, r2, ed, fun d' z v H' F' t1 t2 t3 tn t4 rv => ?_, fun x z => nomatch z⟩
        cases z
        obtain ⟨G, okG, gF, cut⟩ := ok2.callC s3 n t1 t2 t3 tn t4
        exact p v G H' okG (s2.trans gF) (rv.cut cut hno)
    · cases e
  · rename_i x ed
    split at e
    · rename_i hc
      cases e
      have hlen : vs.length = _ := r2.length.trans (hl ds _ ed)
      by_cases hfr : bs.all (isFr ε1) = true
      · refine ⟨hlen, F2, ds, _, ok2.sub, ok2.notb, ok2.tab, r2' hfr, ed, fun d' z => (nomatch z), fun x' z C dd fs' H' F' t1 t2 t3 tn t4 hm hx rf => ?_⟩
        cases z
        exact p σ F' H' C dd fs' (ok2.callA t1 t2 t3 tn t4) (s2.trans t1) hm hx rf
      · have hno : noLF x.fs = true := by simpa [hfr] using hc
        refine ⟨hlen, Fc, ds, _, s4, ok2.notb.cut s3 n, ok2.tab, r2, ed, fun d' z => (nomatch z), fun x' z C dd fs' H' F' t1 t2 t3 tn t4 hm hx rf => ?_⟩
        cases z
        obtain ⟨G, okG, gF, cut⟩ := ok2.callC s3 n t1 t2 t3 tn t4
        exact p σ G H' C dd fs' okG (s2.trans gF) hm (cut _ _ hx fun ws z => nomatch z) (rf.cut cut hno)
    · cases e
  · cases e
/-- exceptions of the body go where B wishes -/
abbrev Tk (X : Cx) (B : Bs) : Prop := Takes X fun c d σ H => B.E σ c d H
section
variable {X : Cx} {k : Nat} {f C : Addr} {fd : FuncData} {ps : List Str} {sp : Sp} {E : St → XK} {x : Str} {p pos : Pos} {e : Expr} {es : List Expr} {t : TA}
theorem pg_callS (F : FnG X.prog X.w X.K X.mg X.base (L2.CX X.prog X.w) k f fd ps sp) (hr : Room k X.A) (gd : X.A.guards = some []) (hg : Gl X x) (hm : X.mg x = some (.ref f)) (hk : PySem.W.keepIn X.K (.ref f) = true) (hb : Binds X.K fd ps []) (hx : ∀ σ, PassesAt (L2.CX X.prog X.w) X σ (E σ))
    (ha : PA X (e :: es) t) (hdb : (x == ("__debug__" : Str)) = false := by decide) (he : starEach (e :: es) X.env = (false, eval e X.env) :: starEach es X.env := by rfl) (hpl : (backTo pos (starEach es X.env)).any (·.1) = false := by rfl) :
    PE X (.Call (.Name x p) (e :: es) [] pos) (tCallS sp E t) := by
  refine ⟨fun pins s σ H Q I h => ?_⟩
  refine wpAny_Call_Name_kw (ld_glob I hg hm ?_ hdb)
  refine PySem.W.callWith_K (h₀ := X.base) I.ok.mod.kin hk (wpAny_mono (ha.run pos pins s σ H _ I h) (fun us s1 ⟨vs, H1, I1, r, q⟩ => ⟨I1.kIn, ?_⟩) fun _ _ z => z) he hpl
  have hl : us.length = ps.length := by rw [← r.length]; exact F.len _ _ _ _ q
  have b := hb s1 us I1.kIn (by rw [List.append_nil]; exact hl)
  rw [List.append_nil] at b
  refine wpAny_call (codeAny_mono (F.go X.A hr gd X.stack s1 H1 ⟨us, []⟩ us vs Q (E σ) I1.env0 b r q) fun r s' hq => ?_)
  cases r with
  | error e => exact hx σ pins H1 s1 e s' I1 hq
  | ok fl =>
    cases fl with
    | ret u => exact I1.after hq
    | next => exact False.elim hq
    | brk => exact False.elim hq
    | cont => exact False.elim hq
end
section
variable {X : Cx} {B : Bs} {e : Expr} {es : List Expr} {ts : TA} {fs : Env → Option (Out (List D))} {bs : List Nat} {p pos : Pos}
theorem ve_callX {x : Str} {k : Nat} {ps : List Str} {n : Nat} {fn : List D → Option Rs} (G : FnB X.prog X.w X.K X.mg X.base k x ps (spX X.K X.mg n fn)) (hl : ∀ ds d, fn ds = some d → ds.length = n) (tk : Tk X B) (hr : Room k X.A) (gd : X.A.guards = some []) (hg : Gl X x) (ha : VB X B (e :: es) bs ts fs) (hdb : (x == ("__debug__" : Str)) = false := by decide)
    (he : starEach (e :: es) X.env = (false, eval e X.env) :: starEach es X.env := by rfl) (hpl : (backTo pos (starEach es X.env)).any (·.1) = false := by rfl) :
    VE X B (.Call (.Name x p) (e :: es) [] pos) (tCallS (spX X.K X.mg n fn) B.E ts) (eCallX fn bs fs) :=
  let ⟨f, fd, F, hm, hk, hb⟩ := G
  ⟨pg_callS F hr gd hg hm hk hb (fun σ => passAt tk σ) ha.pa hdb he hpl, den_callX hl ha.den⟩
end
/-- where it does not raise -/
def noX (fn : List D → Option Rs) : List D → Option D := fun ds => match fn ds with
  | some (.ok d) => some d
  | _ => none
theorem noX_len {fn : List D → Option Rs} {n : Nat} (h : ∀ ds d, fn ds = some d → ds.length = n) : ∀ ds d, noX fn ds = some d → ds.length = n := fun ds d e => by
  unfold noX at e
  split at e
  · rename_i d' e'
    exact h ds _ e'
  · cases e
theorem FnB.noX {P : Program} {w : World} {K : PySem.W.Frag} {mg : Str → Option Value} {base : Heap} {k n : Nat} {x : Str} {ps : List Str} {fn : List D → Option Rs} (F : FnB P w K mg base k x ps (spX K mg n fn)) : FnB P w K mg base k x ps (spV K mg n (noX fn)) := by
  obtain ⟨f, fd, G, hm, hk, hb⟩ := F
  have imp : ∀ vs H Q E, spV K mg n (VL.noX fn) vs H Q E → spX K mg n fn vs H Q E := fun vs H Q E h => by
    obtain ⟨hl, F, ds, d, s, nt, tb, r, e, q⟩ := h
    unfold VL.noX at e
    split at e
    · rename_i d' e'
      cases e
      exact ⟨hl, F, ds, _, s, nt, tb, r, e', fun d z => by cases z; exact q, fun x z => (nomatch z)⟩
    · cases e
  exact ⟨f, fd, ⟨fun vs H Q E h => G.len vs H Q E (imp vs H Q E h), fun A hr gd outer s H args us vs Q E e b v q => G.go A hr gd outer s H args us vs Q E e b v (imp vs H Q E q)⟩, hm, hk, hb⟩
def fnX (N n : Nat) (g : SF) : List D → Option Rs := fun ds => if ds.length = n then match g (envV N n ds) with
  | some (.rt d _) => some (.ok d)
  | some (.nx _) => some (.ok .non)
  | some (.ex x _) => some (.error x)
  | _ => none
  else none
theorem fnX_len {N n : Nat} {g : SF} : ∀ ds d, fnX N n g ds = some d → ds.length = n := fun ds d h => by
  unfold fnX at h
  split at h
  · assumption
  · cases h
section
variable {P : Program} {w : World} {K : PySem.W.Frag} {mg : Str → Option Value} {base : Heap}
def bX (F H : Hp) (E : XK) : Bs := ⟨H, F, fun _ => False, fun _ => E, fun _ h => h.elim⟩
theorem fn_raise {x qual : Str} {st : Stmt} {f : Addr} {fd : FuncData} {N ps : List Str} {k n : Nat} {g : SF} (F : FunV K x qual st f fd) (S : FnScope N ps (defScope st)) (hn : ps.length = n)
    (body : ∀ (cdv : Value) (A : Around) (outer : List PySem.Env) (s : Shared) (H : Hp) (E : XK) (B : Bs), Tk (cxOf (L2.CX P w) P w K mg base N qual (defScope st) f cdv A outer s H E) B → fd.code = cdv → Room k (A.deeper (PyProof.Rows.envOfC qual (defScope st) s.heap.objs.size f cdv)) → A.guards = some [] →
      ∃ t, VSs (cxOf (L2.CX P w) P w K mg base N qual (defScope st) f cdv A outer s H E) B (defBody st) t g) : FnG P w K mg base (L2.CX P w) (k + 1) f fd ps (spX K mg n (fnX N.length n g)) := by
  refine g_def F S (fun vs H Q E h => h.1.trans hn.symm) fun cdv A outer s H vs Q E hcd hr gd h => ?_
  obtain ⟨hl, F0, ds, r, sub, nt, tb, rl, ed, postO, postX⟩ := h
  obtain ⟨t, v⟩ := body cdv A outer s H E (bX F0 H E) (takes_of rfl rfl rfl rfl) hcd hr gd
  refine ⟨t, v.ps, ?_⟩
  have hd : ds.length = n := by rw [← rl.length]; exact hl
  have ok : OkV K mg (bX F0 H E) (envV N.length n ds) (L2.start N vs) F0 H := by
    refine ⟨sub, Same.refl _, fun a _ h => h, fun a o h _ _ => h, fun a h => h, ?_, fun i s e => ?_, fun i j l m ds es v hij e1 => ?_, tb, nt⟩
    · unfold envV L2.start; simp [hd, hl]
    · obtain ⟨d, rfl, e'⟩ := envV_get e
      obtain ⟨u, eu, ru⟩ := rl.get e'
      exact ⟨u, start_get eu, ru⟩
    · obtain ⟨d, z, _⟩ := envV_get e1
      cases z
  unfold fnX at ed
  rw [if_pos hd] at ed
  split at ed
  · rename_i d' ε' eg
    cases ed
    exact v.den _ _ F0 H _ _ ok eg fun v σ' F' H' o s r => postO _ rfl v H' F' s o.sub o.frame o.notb ⟨fun b u e n => o.keep b u e (fun z => z) n, o.tab, o.there⟩ r
  · rename_i ε' eg
    cases ed
    exact v.den _ _ F0 H _ _ ok eg fun σ' F' H' o s => postO _ rfl .non H' F' s o.sub o.frame o.notb ⟨fun b u e n => o.keep b u e (fun z => z) n, o.tab, o.there⟩ .non
  · rename_i x ε' eg
    cases ed
    exact v.den _ _ F0 H _ _ ok eg fun σ' F' H' C dd fs o s hm hx rf => postX x rfl C dd fs H' F' s o.sub o.frame o.notb ⟨fun b u e n => o.keep b u e (fun z => z) n, o.tab, o.there⟩ hm hx rf
  · cases ed
end
end VL
end

section
set_option Elab.async false
set_option linter.all false
set_option maxRecDepth 100000
set_option maxHeartbeats 4000000
/-! VLE: own exceptions under ValueError whose __init__ says super().__init__('..') first. -/
namespace VL
open PySem PySem.Spec PyProof.Rows L2 NdefX
variable [LamN]

section
variable {prog : Program} {w : World} {A : Around} {E : Value → Shared → Prop} {h : Heap} {g : Array GenState} {d : Drawn} {t : Nat} {os : OsState}
variable {nm q : Str} {C N : Addr} {bs bm : List Value} {hdct : Bool} {sn : List Str} {sub : List Value} {ab : Bool} {col : Option Bool} {dd : Option Addr} {k0 k1 k2 k3 k5 : Option Value}
/-- the bound ValueError.__init__ is called -/
theorem call_mw {u e t0 : Addr} {rest : List Value} {Q : Value → Shared → Prop}
    (hC : h.get? C = some (excClassObj nm q C N bs bm hdct sn sub ab col dd k0 k1 k2 k3 k5 "ValueError.__new__")) (he : h.get? e = some (HandSPX.excO C t0)) (hu : h.get? u = some (PySem.W.kxs_mw "ValueError.__init__" e)) (hrest : rest.length ≤ sizeLine)
    (hq : ∀ h' t1, (∀ b o, b ≠ e → h.get? b = some o → h'.get? b = some o) → h'.get? e = some (HandSPX.excO C t1) → Q .none ⟨h', g, d, t, os⟩) :
    wpAny (model prog w) A (call (.ref u) rest) Q E ⟨h, g, d, t, os⟩ := by
  refine wpAny_call (codeAny_of_tree ?_)
  show wpAny _ A.in1 (callAny (.ref u) ⟨rest, []⟩) _ _ _
  simp only [callAny]
  refine wpAny_bind (wpAny_load hu ?_)
  simp only [PySem.W.kxs_mw, show (Value.type "method-wrapper" == Value.type "method" || Value.type "method-wrapper" == Value.type "builtin_function_or_method" || Value.type "method-wrapper" == Value.type "method-wrapper") = true by decide, if_true]
  refine PySem.W.KFB.if_so (by decide) ?_
  refine wpAny_bind (PySem.ESX.check_bound F.excBase_ValueError hC he rfl ?_)
  refine wpAny_bind (wpAny_pure (wpAny_pure ?_))
  refine ⟨Code.quiet_builtin _ (by decide +kernel), codeAny_builtin F.excBase_ValueError.initEntry ?_⟩
  rw [Around.under_plainId F.excBase_ValueError.init.plain _]
  wp_walk
  refine hq _ h.objs.size (fun b o hb ho => ?_) ?_
  · rw [Heap.get?_update_other _ _ (Ne.symm hb)]
    exact Heap.get?_push_of_some _ ho
  · rw [Heap.get?_update_self _ (Heap.get?_push_of_some _ he) rfl]
    rfl
end

/-- what the written part says of such an __init__: at f, of the class at C -/
structure SupF (P : Program) (K : PySem.W.Frag) (mg : Str → Option Value) (C f : Addr) (F : NF) : Prop where
  own : OexC K C
  fn : ∃ (oc : Value) (od : Option Addr) (doc pm ct : Value) (osl : Array (Option Value)), K.lookup f = some ⟨oc, od, .func (F.fd doc pm ct), osl⟩
  code : PySem.W.codeIn K (.ref F.c) F.qual = true
  file : ∃ (ccl : Value) (cdd : Option Addr) (vs : Array Value) (ccs : Array (Option Value)) (file : Str) (tf : Tok), K.lookup F.c = some ⟨ccl, cdd, .fields vs, ccs⟩ ∧ vs[2]? = some (.str file tf) ∧ ((P.main.file : Str) == file) = true
  cell : ∃ (cc : Addr) (cl : Value) (cld : Option Addr) (csl : Array (Option Value)), F.cl = [(("__class__" : Str), cc)] ∧ K.lookup cc = some ⟨cl, cld, .cell (some (.ref C)), csl⟩
  sub : PySem.W.subIn K (.ref C) (.ref C) = some true
  nxt : PySem.W.ks_superIn K C C "__init__" = some (some (.builtin "ValueError.__init__"))
  ve : PySem.W.subIn K (.ref C) (.type "ValueError") = some true
  opq : PySem.W.nsIn K PySem.cStatics "thirdparty.any" = some none
  sup : mg "super" = none
  top : (P.main.scope.names.lookup ("super" : Str)).isSome = false
  self : ∃ ar : Arg, (F.params.posonlyargs ++ F.params.args).head? = some ar ∧ ar.arg = "self"
  hks : F.scope.names.lookup ("super" : Str) = some .globalImplicit

section
variable {P : Program} {w : World} {K : PySem.W.Frag} {mg : Str → Option Value} {base : Heap} {CX : CXT}
/-- the promise of __init__: behind super().__init__ the rest does t -/
def spInit (C : Addr) (N ps : List Str) (t : TS) : Sp := fun vs H Q _ => vs.length = ps.length + 1 ∧ ∃ a us, vs = .ref a :: us ∧ H a = some (exo a C none) ∧ t { nx := fun _ H' => Q .non H', rt := fun _ _ => False } (startF N vs [none]) H
theorem sup_init {C f : Addr} {F : NF} {N ps : List Str} {k : Nat} {t : TS} {m : Str} {j : Nat} {rest : List Stmt} {p0 p1 p2 p3 p4 p5 : Pos} (T : SupF P K mg C f F) (S : NScope N ("self" :: ps) ["__class__"] F.scope)
    (hb : F.body = .Expr (.Call (.Attribute (.Call (.Name "super" p0) [] [] p1) "__init__" p2) [.Constant (.str m) j p3] [] p4) p5 :: rest)
    {pl : Sem Bool} (hev : ∀ L, eval (.Call (.Attribute (.Call (.Name "super" p0) [] [] p1) "__init__" p2) [.Constant (.str m) j p3] [] p4) (envF F f L) = (do
      let ov ← attributeBase (.Call (.Name "super" p0) [] [] p1) "__init__" (envF F f L) (eval (.Call (.Name "super" p0) [] [] p1) (envF F f L))
      standAt p2.atName
      let (g, first) ← holding [ov] (getMethod ov "__init__" pl)
      callWith p4 g first (backTo p4 (starEach [.Constant (.str m) j p3] (envF F f L))) []))
    (hsw : ∀ L, swapsWith (.Call (.Attribute (.Call (.Name "super" p0) [] [] p1) "__init__" p2) [.Constant (.str m) j p3] [] p4) none p5.line (envF F f L) = pure false)
    (hrest : ∀ (A : Around) (outer : List PySem.Env) (s : Shared) (H : Hp) (E : XK), PSs (ncx CX P w K mg base N F f A outer s H E) rest t) :
    ∃ fd, FnOk P w K mg base CX (k + 1) f fd ("self" :: ps) (spInit C N ps t) ∧ ∃ (oc : Value) (od : Option Addr) (doc pm ct : Value) (osl : Array (Option Value)), fd = F.fd doc pm ct ∧ K.lookup f = some ⟨oc, od, .func (F.fd doc pm ct), osl⟩ := by
  obtain ⟨oc, od, doc, pm, ct, osl, lk⟩ := T.fn
  refine ⟨_, ⟨fun vs H Q E h => h.1, fun A outer s H args us vs Q E hr e0 bd rv hsp => ?_⟩, oc, od, doc, pm, ct, osl, rfl, lk⟩
  obtain ⟨hl, a, us', rfl, ha, q⟩ := hsp
  have KX : K.In s.heap := e0.mod.kin.keeps fun b o z => (e0.bs b o z).1
  have lim : s.heap.NoLimit := e0.mod.nolimit.keeps fun b o e => (e0.bs b o e).1
  obtain ⟨cc, cl, cld, csl, ecl, lkc⟩ := T.cell
  refine codeAny_call_function hr.depth (KX _ _ lk) rfl S.co S.gen rfl (PySem.W.codeRec_of KX T.code) (bd _ _ _ _ ?_)
  refine wpAny_newFunctionEnv S.nocell (fun ⟨n, _⟩ hy => S.par n (List.of_mem_zip hy).1) (fun h₁ hns hsb => ⟨lim.fresh _ hsb, ?_⟩) S.kind
  show codeAny _ _ (.func F.body (envF F f s.heap.objs.size)) _ _
  have kp : ∀ b o, s.heap.get? b = some o → h₁.get? b = some o := fun b o e => hsb.extBut b o (Nat.ne_of_lt (Heap.lt_size e)) (Heap.get?_push_of_some _ e)
  have cells : CellsAt F.cl ["__class__"] [none] s.heap H := by
    have one : ∀ {y : Str} {c : Addr}, F.cl.lookup y = some c → y = "__class__" ∧ c = cc := fun {y c} e => by
      rw [ecl, List.lookup_cons] at e
      by_cases z : (y == ("__class__" : Str)) = true
      · rw [z] at e; cases e; exact ⟨by simpa using z, rfl⟩
      · rw [Bool.eq_false_iff.mpr z] at e; cases e
    have frK : H cc = none := by
      cases z : base.get? cc with
      | some o => exact (e0.bs _ _ z).2
      | none => rw [e0.mod.kin _ _ lkc] at z; cases z
    refine ⟨rfl, fun y c e => ?_, fun x y c e1 e2 => ?_, fun i y e => ?_⟩
    · obtain ⟨_, rfl⟩ := one e
      exact ⟨frK, _, _, KX _ _ lkc, rfl⟩
    · rw [(one e1).1, (one e2).1]
    · cases i with
      | zero =>
        cases e
        refine ⟨cc, by rw [ecl]; rfl, fun v z => ?_⟩
        cases z
      | succ i => cases e
  have I : L2.Inv (ncx CX P w K mg base N F f A outer s H E) [] (startF N (.ref a :: us') [none]) H { s with heap := h₁, toks := s.toks + ((("self" : Str) :: ps).zip us).length } := inv_startN S hr.hd e0 hl rv cells hns kp
  refine PySem.ks_codeAny_funcAt ?_
  refine PySem.ks_wpAt_mono (Q := SP (ncx CX P w K mg base N F f A outer s H E) [] { nx := fun _ H' => Q .non H', rt := fun _ _ => False }) (E := (ncx CX P w K mg base N F f A outer s H E).xe) ?_ (fun fl s' hs => ?_) fun e s' hs => hs
  · rw [hb]
    refine PySem.ks_wpAt_execs_cons ?_
    refine PySem.ks_wpAt_mono (Q := fun fl s' => fl = .next ∧ True ∧ L2.Inv (ncx CX P w K mg base N F f A outer s H E) [] (startF N (.ref a :: us') [none]) H s') (E := fun _ _ => False) ?_ (fun fl s' hs => ?_) fun e s' hs => hs.elim
    · obtain ⟨ar, hp, har⟩ := T.self
      obtain ⟨ccl, cdd, cvs, ccs, file, tf, lkd, hvs, hfile⟩ := T.file
      obtain ⟨nm, qq, NN, bs, bm, sn, sub, ab, col, dd, k0, k1, k2, k3, k5, hC, hbm⟩ := T.own.cls
      have K1 : K.In h₁ := KX.keeps kp
      have frk : F.scope.names.lookup ("__class__" : Str) = some .free := S.frk "__class__" (List.mem_singleton.mpr rfl)
      obtain ⟨t1, hea⟩ := exo_at I.hok ha
      have hea : h₁.get? a = some (HandSPX.excO C t1) := hea
      have hxC : a ≠ C := fun z => by
        have y := K1 _ _ hC
        rw [← z, hea] at y
        cases y
      refine PySem.ks_wpAt_Expr_any (PySem.ks_wpAt_MethodCall (PySem.ks_wpAt_super_base T.hks frk (by decide) rfl (K1 _ _ lk) rfl hp rfl (K1 _ _ lkd) rfl hvs hfile T.top ?_) (hev _)) (I.quiet) (hsw _)
      obtain ⟨mb, b1, b2⟩ := I.mod.blt
      refine PySem.W.ks_loadName_global S.kind T.hks (Calls.loadGlobal_builtin (I.mod.glob.keeps I.bk) T.sup (b1.keeps I.bk) ((b2 "super" (by decide)).trans (by decide +kernel : bootBuiltins "super" = some (.type "super"))) ⟨rfl, ?_⟩)
      refine wpAny_loadName_free S.kind frk (by show F.cl.lookup _ = _; rw [ecl]; rfl) ⟨_, K1 _ _ lkc, rfl⟩ ?_
      rw [har]
      have hself : (((("self" : Str) :: ps).zip us).reverse).lookup ("self" : Str) = some (Value.ref a) := by
        cases rv with
        | cons ru _ =>
          cases ru
          have ndP : (("self" : Str) :: ps).Nodup := by
            have q := S.nd.sublist (List.take_sublist ((("self" : Str) :: ps).length + ([("__class__" : Str)]).length) N)
            rw [S.pre] at q
            exact (List.nodup_append.mp q).1
          exact zip_look (i := 0) (ps := ("self" : Str) :: ps) ndP rfl (by rfl)
      refine wpAny_loadName_local S.kind (S.par "self" List.mem_cons_self) hns hself ?_
      refine PySem.ks_wpAny_isType_cls (K1 _ _ hC) rfl ⟨rfl, ?_⟩
      refine PySem.ks_wpAny_call_super (K1 _ _ hC) rfl hea rfl (fun c e => nomatch e) (PySem.W.looks_subIn K1 T.sub) (fun h2 e2 k2 => ?_)
      have I2 := I.kept (t' := s.toks + ((("self" : Str) :: ps).zip us).length) k2
      have K2 : K.In h2 := K1.keeps k2
      have hea2 := k2 _ _ hea
      have hcl : PySem.W.clsIn K C = some { name := nm, bases := bs, mro := .ref C :: bm, ns := NN, qualname := qq, hasDict := true, slotNames := sn, subclasses := sub, abstract := ab, collection := col, hasDel := false } := by unfold PySem.W.clsIn; rw [hC] <;> rfl
      have hal := T.nxt
      unfold PySem.W.ks_superIn at hal
      rw [hcl] at hal
      have LI : PySem.W.Looks (model P w) h2 (isInstance (.ref a) (.type "ValueError")) true :=
        PySem.W.Looks.andThen (fun A Q E s k q => wpAny_typeOf_ref (k _ _ hea2) q) (PySem.W.looks_subIn K2 T.ve)
      refine PySem.W.kxs_getMethod PySem.W.kxs_ValueError e2 (PySem.W.looks_opaque K2 T.opq) (l₀ := .ref C :: bm) ?_ rfl K2 hal LI hxC (by decide) ?_
      · exact fun A Q E s k q => wpAny_bind ((PySem.W.looks_clsIn K2 hcl) A _ E s k (wpAny_pure q))
      have I3 := I2.kept (t' := s.toks + ((("self" : Str) :: ps).zip us).length + 1) (h' := h2.push (PySem.W.kxs_mw "ValueError.__init__" a)) fun b o e => Heap.get?_push_of_some _ e
      have hu : (h2.push (PySem.W.kxs_mw "ValueError.__init__" a)).get? h2.objs.size = some (PySem.W.kxs_mw "ValueError.__init__" a) := Heap.get?_push_size _ rfl
      refine PySem.W.kxs_callWith (i := "ValueError.__init__") (x := a) (by rfl) ?_
      refine PySem.Calls.evalArgs_plain ?_
      have nu : H h2.objs.size = none := I2.hok.fresh (Nat.le_refl _)
      have I3p : L2.Inv (ncx CX P w K mg base N F f A outer s H E) [(h2.objs.size, PySem.W.kxs_mw "ValueError.__init__" a)] (startF N (.ref a :: us') [none]) H { s with heap := h2.push (PySem.W.kxs_mw "ValueError.__init__" a), toks := s.toks + ((("self" : Str) :: ps).zip us).length + 1 } := I3.pins_of fun p hp => by
        obtain rfl := List.mem_singleton.mp hp
        refine ⟨hu, nu, fun z => ?_, I2.nofs (Nat.le_refl _), fun v z => nomatch z⟩
        have y := I2.lt
        rw [← z] at y
        exact absurd y (Nat.lt_irrefl _)
      have hargs : PA (ncx CX P w K mg base N F f A outer s H E).nox [.Constant (.str m) j p3] (tCons (tC (.str m)) tNil) := pa_cons pe_str pa_nil
      refine wpAny_mono (hargs.run p4 [(h2.objs.size, PySem.W.kxs_mw "ValueError.__init__" a)] _ _ H (fun vs H1 => vs = [V.str m] ∧ H = H1) (I3p.wish _) ⟨rfl, rfl⟩) (fun us3 s4 hs4 => ?_) fun e s' z => z.elim
      obtain ⟨vs, H1, I4, r4, ev, eH⟩ := hs4
      subst ev
      subst eH
      have I4 : L2.Inv (ncx CX P w K mg base N F f A outer s H E) [(h2.objs.size, PySem.W.kxs_mw "ValueError.__init__" a)] (startF N (.ref a :: us') [none]) H s4 := I4.unwish
      have hu4 : s4.heap.get? h2.objs.size = some (PySem.W.kxs_mw "ValueError.__init__" a) := (I4.pin _ (List.mem_append_right _ (List.mem_singleton.mpr rfl))).1
      refine ⟨hu4, ?_⟩
      obtain ⟨t4, he4⟩ := exo_at I4.hok ha
      have l4 : us3.length ≤ sizeLine := by
        rw [← r4.length, sizeLine_eq]
        exact (by decide : 1 ≤ 16777216)
      obtain ⟨h4, g4, d4, tk4, os4⟩ := s4
      refine call_mw (I4.kIn _ _ hC) he4 hu4 l4 fun h' t2 k hx => ⟨rfl, trivial, ?_⟩
      have J := I4.write (t' := tk4) (x := a) (e := a) (o := exo a C none) (by rw [ha]; exact True.intro) (.inl rfl) k ⟨_, hx⟩ (exo_ok hx)
      have eu : upd H a (exo a C none) = H := by
        funext b
        by_cases hb : b = a
        · rw [hb, upd_same, ha]
        · rw [upd_ne hb]
      rw [eu] at J
      exact J.pins_of fun p hp => J.pin p (by simp at hp)
    · obtain ⟨rfl, _, J⟩ := hs
      exact wpAt_of_wpAny ((hrest A outer s H E).run [] s' _ H _ J q)
  · cases fl with
    | next =>
      obtain ⟨σ', H', J, q⟩ := hs
      exact ⟨.non, H', J.os, J.bare, J.base, J.hok, rfl, q⟩
    | ret u =>
      obtain ⟨v, σ', H', J, rv, q⟩ := hs
      exact q.elim
    | brk =>
      obtain ⟨_, _, _, q⟩ := hs
      exact False.elim q
    | cont =>
      obtain ⟨_, _, _, q⟩ := hs
      exact False.elim q
end
end VL
end

section
set_option Elab.async false
set_option linter.all false
set_option maxRecDepth 100000
set_option maxHeartbeats 4000000
/-! VLF: raise X(..) of an own exception. -/
namespace VL
open PySem L2 NdefX
variable [LamN]
/-- self.f = the parameter in slot i, for each of them -/
def tFs (K : PySem.W.Frag) : List (Str × Nat) → TS
  | [] => tNext
  | (f, i) :: r => tSeq (tOst K f (tVar 0) (tVar i)) (tFs K r)
def fldR (σ : St) : List (Str × Nat) → List (Str × V) → Option (List (Str × V))
  | [], acc => some acc
  | (f, i) :: r, acc => match σ[i]? with
    | some (some v) => fldR σ r ((f, v) :: acc)
    | _ => none
theorem tFs_old {K : PySem.W.Frag} {C a dx : Addr} {σ : St} {D : Ends} (T : OexC K C) (hd : dx ≠ a) (h0 : σ[(0 : Nat)]? = some (some (.ref a))) : ∀ (l : List (Str × Nat)) (acc fs : List (Str × V)) (H : Hp), (∀ p ∈ l, PySem.W.findIn K (.ref C) p.1 = some none) → fldR σ l acc = some fs → acc.length + l.length ≤ 900 →
    H a = some (exo a C (some dx)) → H dx = some (exd dx acc) → D.nx σ (upd H dx (exd dx fs)) → tFs K l D σ H
  | [], acc, fs, H, _, e, _, h1, h2, q => by
    cases e
    have z : upd H dx (exd dx acc) = H := by
      funext b
      by_cases e : b = dx
      · subst e; rw [upd_same, h2]
      · rw [upd_ne e]
    rw [z] at q
    exact q
  | (f, i) :: r, acc, fs, H, hn, e, hl, h1, h2, q => by
    unfold fldR at e
    split at e
    · rename_i v ev
      refine ⟨v, ev, .ref a, h0, a, C, rfl, T, hn (f, i) List.mem_cons_self, .inr ⟨dx, acc, h1, h2, by simp at hl; omega, ?_⟩⟩
      refine tFs_old T hd h0 r ((f, v) :: acc) fs _ (fun p hp => hn p (List.mem_cons_of_mem _ hp)) e (by simp at hl ⊢; omega) (by rw [upd_ne (Ne.symm hd)]; exact h1) upd_same ?_
      have z : upd (upd H dx (exd dx ((f, v) :: acc))) dx (exd dx fs) = upd H dx (exd dx fs) := by
        funext b
        by_cases e : b = dx
        · subst e; rw [upd_same, upd_same]
        · rw [upd_ne e, upd_ne e, upd_ne e]
      rw [z]
      exact q
    · cases e
/-- a class of own exceptions: X(..) keeps its arguments as the fields fds -/
def XcB (P : Program) (w : World) (K : PySem.W.Frag) (mg : Str → Option Value) (base : Heap) (k : Nat) (x : Str) (fds : List (Str × Nat)) : Prop :=
  fds ≠ [] ∧ fds.length ≤ 100 ∧ ∃ (C fI : Addr) (fd : FuncData) (N ps : List Str), FnOk P w K mg base (L2.CX P w) k fI fd ("self" :: ps) (spInit C N ps (tFs K fds)) ∧ OexC K C ∧ PySem.W.findIn K (.ref C) "__init__" = some (some (.ref fI)) ∧ PySem.W.typeIn K (.ref fI) = some (.type "function") ∧
    Binds K fd ("self" :: ps) [] ∧ mg x = some (.ref C) ∧ (∀ p ∈ fds, PySem.W.findIn K (.ref C) p.1 = some none) ∧ ps.length = fds.length
def getF (ds : List D) : List (Str × Nat) → List (Str × D) → Option (List (Str × D))
  | [], acc => some acc
  | (f, i) :: r, acc => match ds[i - 1]? with
    | some d => if i = 0 then none else getF ds r ((f, d) :: acc)
    | none => none
theorem getF_rep {K : PySem.W.Frag} {mg : Str → Option Value} {F : Hp} {vs : List V} {ds : List D} {N : List Str} {a : Addr} {ws : List (Option V)} (r : RepL K mg F vs ds) : ∀ (l : List (Str × Nat)) (acc : List (Str × V)) (ad fs : List (Str × D)), RepF K mg F acc ad → getF ds l ad = some fs →
    ∃ gs, fldR (startF N (.ref a :: vs) ws) l acc = some gs ∧ RepF K mg F gs fs
  | [], acc, ad, fs, ra, e => by cases e; exact ⟨acc, rfl, ra⟩
  | (f, i) :: l, acc, ad, fs, ra, e => by
    unfold getF at e
    split at e
    · rename_i d ed
      split at e
      · cases e
      · rename_i hi
        obtain ⟨v, ev, rv⟩ := r.get ed
        obtain ⟨j, rfl⟩ : ∃ j, i = j + 1 := ⟨i - 1, by omega⟩
        have e2 : (startF N (.ref a :: vs) ws)[j + 1]? = some (some v) := by
          unfold startF
          have hl := (List.getElem?_eq_some_iff.mp ev).1
          simp only [Nat.add_sub_cancel] at ev hl
          rw [List.getElem?_append_left (by simp; omega), List.getElem?_map]
          rw [List.getElem?_cons_succ, ev]
          rfl
        unfold fldR
        rw [e2]
        exact getF_rep r l _ _ fs (.cons rv ra) e
    · cases e
def sRaise (x : Str) (fds : List (Str × Nat)) (fs : Env → Option (Out (List D))) : SF := sE fs fun ds ε => if ds.length = fds.length then (getF ds fds []).map fun gs => .ex ⟨x, gs⟩ ε else none
section
variable {X : Cx} {B : Bs} {e : Expr} {es : List Expr} {ts : TA} {fs : Env → Option (Out (List D))} {p pos pos' : Pos}
theorem mk_exc {C a : Addr} {fds : List (Str × Nat)} {K : PySem.W.Frag} {σ : St} {H : Hp} {Q : XK} {gs : List (Str × V)} (T : OexC K C) (hne : fds ≠ []) (hl : fds.length ≤ 100) (hn : ∀ p ∈ fds, PySem.W.findIn K (.ref C) p.1 = some none) (h0 : σ[(0 : Nat)]? = some (some (.ref a)))
    (hg : fldR σ fds [] = some gs) (ha : H a = none) (q : ∀ d, H d = none → Q (.ref C) (some d) (upd H d (.xd gs))) :
    tFs K fds { nx := fun _ H' => (fun v H2 => v = V.non ∧ ∃ (d : Addr) (fs : List (Str × V)), H2 a = some (exo a C (some d)) ∧ H2 d = some (exd d fs) ∧ H d = none ∧ Q (.ref C) (some d) (upd (del H2 a) d (.xd fs))) .non H', rt := fun _ _ => False } σ (upd H a (exo a C none)) := by
  cases fds with
  | nil => exact absurd rfl hne
  | cons pf r =>
    obtain ⟨f, i⟩ := pf
    unfold fldR at hg
    split at hg
    · rename_i v ev
      refine ⟨v, ev, .ref a, h0, a, C, rfl, T, hn (f, i) List.mem_cons_self, .inl ⟨upd_same, fun dx hd hda => ?_⟩⟩
      have hd0 : H dx = none := by rw [upd_ne hda] at hd; exact hd
      have k1 : (upd (upd (upd H a (exo a C none)) dx (exd dx [(f, v)])) a (exo a C (some dx))) dx = some (exd dx [(f, v)]) := by rw [upd_ne hda, upd_same]
      refine tFs_old T hda h0 r [(f, v)] gs _ (fun p hp => hn p (List.mem_cons_of_mem _ hp)) hg (by simp at hl ⊢; omega) upd_same k1 ?_
      refine ⟨rfl, dx, gs, by rw [upd_ne (Ne.symm hda), upd_same], upd_same, hd0, ?_⟩
      have z : upd (del (upd (upd (upd (upd H a (exo a C none)) dx (exd dx [(f, v)])) a (exo a C (some dx))) dx (exd dx gs)) a) dx (.xd gs) = upd H dx (.xd gs) := by
        funext b
        by_cases e : b = dx
        · subst e; rw [upd_same, upd_same]
        · rw [upd_ne e, upd_ne e]
          by_cases e2 : b = a
          · subst e2; rw [del_same, ha]
          · rw [del_ne e2, upd_ne e, upd_ne e2, upd_ne e, upd_ne e2]
      rw [z]
      exact q dx hd0
    · cases hg
theorem vs_raise {x : Str} {k : Nat} {fds : List (Str × Nat)} (G : XcB X.prog X.w X.K X.mg X.base k x fds) (hc : X.calm = true) (tk : Tk X B) (hr : Room (k + 1) X.A) (hg : Gl X x) (ha : VA X B (e :: es) ts fs) (hdb : (x == ("__debug__" : Str)) = false := by decide)
    (he : starEach (e :: es) X.env = (false, eval e X.env) :: starEach es X.env := by rfl) (hpl : (backTo pos (starEach es X.env)).any (·.1) = false := by rfl) :
    ∃ t, VS X B (.Raise (some (.Call (.Name x p) (e :: es) [] pos)) none pos') t (sRaise x fds fs) := by
  obtain ⟨hne, hl, C, fI, fd, N, ps, F1, T, iC, tI, hb, hm, hn, hps⟩ := G
  refine ⟨_, ps_raise hc tk (pmk_oex T iC tI F1 hr hb .nil passL hg hm ha.pa hdb he hpl), fun ε σ F H D r ok e p => ?_⟩
  rcases sE_some e with ⟨y, ε', e1, rfl⟩ | ⟨ds, ε1, e1, e⟩
  · exact ha.den ε σ F H _ _ ok e1 p
  refine ha.den ε σ F H _ _ ok e1 fun vs F1 H1 ok1 s1 r1 => ?_
  split at e
  · rename_i hlen
    obtain ⟨gs, eg, rfl⟩ := Option.map_eq_some_iff.mp e
    have hv : vs.length = fds.length := r1.length.trans hlen
    refine ⟨by omega, fun a ha => ?_⟩
    rw [List.append_nil]
    refine ⟨by simp [hv, hps], a, vs, rfl, upd_same, ?_⟩
    obtain ⟨us, eu, ru⟩ := getF_rep (N := N) (a := a) (ws := [none]) r1 fds [] [] gs .nil eg
    refine mk_exc T hne hl hn rfl eu ha fun d hd => ?_
    exact p σ _ _ C d us (ok1.laid hd _) (s1.trans (same_laid ok1 hd _)) hm upd_same (ru.mono (same_laid ok1 hd _))
  · cases e
theorem vs_raise1 {x : Str} {k : Nat} {fds : List (Str × Nat)} (G : XcB X.prog X.w X.K X.mg X.base k x fds) (hc : X.calm = true) (tk : Tk X B) (hr : Room (k + 1) X.A) (hg : Gl X x) (ha : VA X B (e :: es) ts fs) (hdb : (x == ("__debug__" : Str)) = false := by decide)
    (he : starEach (e :: es) X.env = (false, eval e X.env) :: starEach es X.env := by rfl) (hpl : (backTo pos (starEach es X.env)).any (·.1) = false := by rfl) :
    VS X B (.Raise (some (.Call (.Name x p) (e :: es) [] pos)) none pos') (vs_raise (p := p) (pos' := pos') G hc tk hr hg ha hdb he hpl).choose (sRaise x fds fs) := (vs_raise G hc tk hr hg ha hdb he hpl).choose_spec
end
end VL
end

section
set_option Elab.async false
set_option linter.all false
set_option maxRecDepth 100000
set_option maxHeartbeats 4000000
/-! VLT: try: .. except C as n: m = n, the exception kept as a value. -/
namespace VL
open PySem PySem.Spec PyProof.Rows L2
variable [LamN]

section
variable {X : Cx} {pins : List (Addr × Obj)} {σ : L2.St} {H : Hp} {s : Shared}
/-- an object that is new since the entry is known from now on -/
theorem Inv.track {a : Addr} {o : HO} {oe : Obj} (I : L2.Inv X pins σ H s) (ha : s.heap.get? a = some oe) (na : H a = none) (n0 : X.s_0.heap.get? a = none) (nL : a ≠ X.env.locals) (nc : ∀ v, oe.data ≠ .cell v) (np : ∀ p ∈ X.pn ++ pins, p.1 ≠ a)
    (new : ObjOk X.prog X.w (upd H a o) s.heap a o) : L2.Inv X pins σ (upd H a o) s := by
  have ne0 : ∀ b u, X.s_0.heap.get? b = some u → b ≠ a := fun b u e z => by rw [z, n0] at e; cases e
  have neH : ∀ b u, H b = some u → b ≠ a := fun b u e z => by rw [z, na] at e; cases e
  have neC : ∀ x c, X.env.cells.lookup x = some c → c ≠ a := fun x c e z => by
    obtain ⟨v, oc, h1, h2⟩ := I.cell x c e
    rw [z, ha] at h1
    cases h1
    exact nc v h2
  refine ⟨I.ok, I.os, I.bare, ⟨I.base.keep, I.base.slot, fun b u e n hx => ?_, I.base.there, fun b xs e => ?_, fun b u xs e => ?_, fun b ps e => ?_⟩, I.loc, I.cell, ?_, fun x c e => ?_, fun p hp => ?_, fun b u e => ?_, I.len⟩
  · rw [upd_ne (ne0 b u e)]; exact I.base.free b u e n hx
  · have q := I.base.tups b xs e
    rw [upd_ne (neH b _ q)]; exact q
  · have q := I.base.frzs b u xs e
    rw [upd_ne (neH b _ q)]; exact q
  · obtain ⟨m, q⟩ := I.base.tbls b ps e
    exact ⟨m, by rw [upd_ne (neH b _ q)]; exact q⟩
  · rw [upd_ne (Ne.symm nL)]; exact I.free
  · rw [upd_ne (neC x c e)]; exact I.freeC x c e
  · obtain ⟨e, n, r⟩ := I.pin p hp
    exact ⟨e, by rw [upd_ne (np p hp)]; exact n, r⟩
  · by_cases hb : b = a
    · subst hb
      rw [upd_same] at e
      cases e
      exact new
    · rw [upd_ne hb] at e
      exact (I.hok b u e).stay (fun c v _ q => q) (fun c q => by rw [upd_ne (neH c _ q)]; exact q) fun c xs q => by rw [upd_ne (neH c _ q)]; exact q
end
theorem exV_ok {P : Program} {w : World} {H : Hp} {h : Heap} {a C dd : Addr} {oe : Obj} {vs : Array Value} (e : h.get? a = some oe) (c : oe.cls = .ref C) (d : oe.dict = some dd) (f : oe.data = .fields vs) : ObjOk P w H h a (exV a C dd) :=
  ⟨⟨oe, vs, e, c, d, f⟩, ⟨oe, e⟩, fun _ _ ⟨o, v, q, r⟩ k => ⟨o, v, k o q, r⟩⟩

/-- what the clause 'except c as n: m = n' wishes: slot i is n's, slot j is m's -/
def wVal (K : PySem.W.Frag) (c : Value) (i j : Nat) (Wout : WX) (D : Ends) : WX := fun cls d σ H =>
  ∃ b, PySem.W.exmOne K cls c = some b ∧ (b = true → ∃ C dd, cls = .ref C ∧ d = some dd ∧ ∀ a, H a = none → D.nx (((σ.set i (some (.ref a))).set j (some (.ref a))).set i none) (upd H a (exV a C dd))) ∧ (b = false → Wout cls d σ H)
section
variable {X : Cx} {x n m : Str} {c : Value} {i j : Nat} {body : List Stmt} {np p1 p2 p3 pos pos' : Pos} {tb : WX → TS} {Wout : WX}
theorem ps_try_val (hs : X.stack = X.env :: X.outer) (hf : X.env.frame = some X.env.locals) (hex : X.ex = []) (hN : X.N.Nodup) (hi : X.N[i]? = some n) (hln : X.env.kindOf n = some .local) (hj : X.N[j]? = some m) (hlm : X.env.kindOf m = some .local) (hc : Names X x c) (tk : Takes X Wout)
    (hb : ∀ (W : WX) (pn : List (Addr × Obj)) (xe : Value → Shared → Prop), Takes (X.tr pn xe) W → PassesOwn (model X.prog X.w) X.A X.env xe → PSs (X.tr pn xe) body (tb W))
    (hnd : (n == ("__debug__" : Str)) = false := by decide) (hncd : (n == ("__classdict__" : Str)) = false := by decide) (hsw : swapsWith (.Name n p2) (some (.Name m p1)) p3.line X.env = pure false := by rfl) :
    PS X (.Try body [.ExceptHandler (some (.Name x np)) (some n) [.Assign [.Name m p1] (.Name n p2) p3] pos'] [] [] pos) (fun D σ H => tb (wVal X.K c i j Wout D) D σ H) := by
  refine ⟨fun pins s σ H D I h => ?_⟩
  have ok := I.ok
  have hfr : X.A.frames = some (X.env :: X.outer) := by rw [ok.frames, hs]
  have hloc : Loc X.env.scope n := .inl hln
  refine wpAny_Try_except ?_
  have bodyRun := (hb (wVal X.K c i j Wout D) (X.pn ++ pins) (fun e s₁ => wpAny (model X.prog X.w) X.A (noteFrame e X.env) (fun _ s₂ => wpAny (model X.prog X.w) X.A (setFlight e none) (fun _ s₃ =>
    wpAny (model X.prog X.w) X.A (handleBy e X.env [.ExceptHandler (some (.Name x np)) (some n) [.Assign [.Name m p1] (.Name n p2) p3] pos']) (SP X pins D) X.xe s₃) X.xe s₂) X.xe s₁) ?_ PassesOwn.looking).run [] s σ H D (I.toTry _) h
  · refine wpAny_mono bodyRun (fun f s1 hsp => ?_) (fun e s1 he => he)
    cases f with
    | next =>
      obtain ⟨σ', H', J', q⟩ := hsp
      exact wpAny_execs_nil ⟨σ', H', J'.ofTry ok, q⟩
    | brk => exact let ⟨σ', H', J', q⟩ := hsp; ⟨σ', H', J'.ofTry ok, q⟩
    | cont => exact let ⟨σ', H', J', q⟩ := hsp; ⟨σ', H', J'.ofTry ok, q⟩
    | ret u => exact let ⟨v, σ', H', J', r, q⟩ := hsp; ⟨v, σ', H', J'.ofTry ok, r, q⟩
  · rintro u s' ⟨a, B, sI, pins', σ', H', cls, d, rfl, J', nb, up, sky, na, os, ag, b, hb1, hyes, hno⟩
    have J : L2.Inv X pins σ' H' sI := J'.ofTry ok
    have sky' : Sky B (X.env :: X.outer) a (Zc cls d) X.env.locals s'.heap := by rw [← hs]; exact sky
    show wpAny (model X.prog X.w) X.A (noteFrame (.ref a) X.env) _ _ _
    refine Sky.land Zc.steady hfr hf sky' fun h3 fl3 up3 => ?_
    have J3 : L2.Inv X pins σ' H' { s' with heap := h3 } := J.landed nb fl3.1 (up.trans up3) os ag
    obtain ⟨oe3, vs3, he3, hz3, hd3⟩ := fl3.there
    have nfr : a ∉ frs (X.env :: X.outer) := fun hm => by
      obtain ⟨_, o', e', hnf⟩ := fl3.2.2.1.mem hm
      rw [he3] at e'; cases e'
      exact hnf _ hd3
    have nL : a ≠ X.env.locals := fun z => nfr (List.mem_filterMap.mpr ⟨X.env, List.mem_cons_self, by rw [hf, z]⟩)
    have nF : a ∉ X.fs := fun hm => by
      obtain ⟨e, he, q⟩ := List.mem_filterMap.mp hm
      exact nfr (List.mem_filterMap.mpr ⟨e, List.mem_cons_of_mem _ he, q⟩)
    have n1 : sI.heap.get? a = none := by
      cases z : sI.heap.get? a with
      | none => rfl
      | some o =>
        have y := nb a o z (by rw [hs]; exact nfr)
        rw [fl3.2.1] at y; cases y
    have n0 : X.s_0.heap.get? a = none := by
      cases z : X.s_0.heap.get? a with
      | none => rfl
      | some o =>
        obtain ⟨o', e'⟩ := J.base.there a o z (by rw [hex]; exact fun z => nomatch z)
        rw [n1] at e'; cases e'
    have S3 := J3.suite he3 hd3 na nL nF
    refine wpAny_handleBy_cons (codeAny_handlers_test ?_) (by intro q; cases q)
    have LT : PySem.W.Looks (model X.prog X.w) h3 (typeOf (.ref a)) cls := fun A Q E s k q => wpAny_typeOf_ref (k _ _ he3) (by rw [hz3.1]; exact q)
    have LM := PySem.W.exm_one (M := model X.prog X.w) (J3.kIn) LT hb1
    have test : ∀ {Q : Value → Shared → Prop} {E : Value → Shared → Prop}, Q c { s' with heap := h3 } → wpAny (model X.prog X.w) (X.A.mark (some (.ref a))) (eval (.Name x np) X.env) Q E { s' with heap := h3 } := fun {Q E} q => by
      obtain ⟨hg, hdbg, hm | ⟨hm, hv, hnn⟩⟩ := hc
      · exact ld_glob (X := X.suite a ((a, oe3) :: (X.pn ++ pins))) S3 hg hm q hdbg
      · exact ld_blt (X := X.suite a ((a, oe3) :: (X.pn ++ pins))) S3 hg hm hv q hnn hdbg
    refine test (LM.here ?_)
    cases b with
    | true =>
      obtain ⟨C, dd, rfl, rfl, hq⟩ := hyes rfl
      refine codeAny_handlers_suite_as ?_
      refine HandSPX.lands_againZ fl3 fun h4 fl4 up4 => ?_
      have J4 : L2.Inv X pins σ' H' { s' with heap := h4 } := J.landed nb fl4.1 ((up.trans up3).trans up4) os ag
      obtain ⟨oe4, vs4, he4, hz4, hd4⟩ := fl4.there
      have S4 := J4.suite he4 hd4 na nL nF
      refine store_ok (X := X.suite a ((a, oe4) :: (X.pn ++ pins))) (v := .ref a) S4 hN hi hloc rfl (fun s5 S5 => ?_) (.inr hln)
      have suite : PSs (X.suite a ((a, oe4) :: (X.pn ++ pins))) [.Assign [.Name m p1] (.Name n p2) p3] (tAsg (tVar i) (gName j)) :=
        pss_one (ps_set (X := X.suite a ((a, oe4) :: (X.pn ++ pins))) hN hj (.inl hlm) (pe_var hi (.inl hln) hnd hncd) hsw (.inr hlm))
      have hil : i < σ'.length := by rw [J.len]; exact (List.getElem?_eq_some_iff.mp hi).1
      refine wpAny_mono (suite.run [] s5 _ H' { nx := fun σ6 H6 => σ6 = (σ'.set i (some (.ref a))).set j (some (.ref a)) ∧ H6 = H', rt := fun _ _ => False } S5 ⟨.ref a, List.getElem?_set_self hil, rfl, rfl⟩) (fun f s6 hsp => ?_) (fun _ _ z => False.elim z)
      cases f with
      | next =>
        obtain ⟨σ6, H6, S6, rfl, rfl⟩ := hsp
        have U : L2.Inv X ((a, oe4) :: pins) ((σ'.set i (some (.ref a))).set j (some (.ref a))) H6 s6 :=
          (S6.unsuite ok).pins_of fun p hp => S6.pin p (by
            rcases List.mem_cons.mp hp with rfl | hp
            · exact List.mem_append_left _ List.mem_cons_self
            · exact List.mem_append_left _ (List.mem_cons_of_mem _ (List.mem_append_right _ hp)))
        refine gone_ok U hN hi hln fun s7 J7 => ⟨_, _, ?_, hq a na⟩
        have pa := J7.pin (a, oe4) (List.mem_append_right _ List.mem_cons_self)
        refine Inv.track (J7.pins_of fun p hp => J7.pin p (List.mem_append_right _ (List.mem_cons_of_mem _ hp))) pa.1 pa.2.1 n0 nL pa.2.2.2.2 (fun p hp z => ?_) (exV_ok pa.1 hz4.1 hz4.2 hd4)
        have y := (J.pin p hp).1
        rw [z, n1] at y; cases y
      | brk => exact let ⟨_, _, _, q⟩ := hsp; q.elim
      | cont => exact let ⟨_, _, _, q⟩ := hsp; q.elim
      | ret u => exact let ⟨_, _, _, _, _, q⟩ := hsp; q.elim
    | false =>
      show wpAny _ X.A (handleBy (.ref a) X.env []) _ _ _
      refine wpAny_handleBy_nil ?_
      obtain ⟨k1, k2, k3, oe, vs, T, oT, ts', he, hz, hd, h1, hr⟩ := id fl3
      unfold PySem.passOn
      refine wpAny_bind (wpAny_field he hd h1 ?_)
      rw [if_neg (show ¬ ((Value.ref T == Value.none) = true) from by simp)]
      have fin : wpAny (model X.prog X.w) X.A (setFlight (.ref a) X.env.frame) (fun _ s4 => wpAny (model X.prog X.w) X.A (throw (.ref a) : Sem Flow) (SP X pins D) X.xe s4) X.xe { s' with heap := h3 } := by
        rw [hf]
        refine HandSPX.setFlight_upZ fl3 fun h4 hh4 up4 => wpAny_throw (tk _ _ ?_)
        exact ⟨a, B, sI, pins, σ', H', cls, d, rfl, J, nb, (up.trans up3).trans up4, .inr (.inr (by rw [hs]; exact hh4)), na, os, ag, hno rfl⟩
      first
        | exact wpAny_bind (wpAny_pure (wpAny_bind fin))
        | exact wpAny_bind fin
end
end VL
end

section
set_option Elab.async false
set_option linter.all false
set_option maxRecDepth 100000
set_option maxHeartbeats 4000000
/-! VLC: caught exceptions as values: isinstance, fields; the try statement. -/
namespace PySem.W
open PySem PySem.Spec PySem.Calls PyProof.Rows
section
variable {prog : Program} {w : World} {A : Around} {E : Value → Shared → Prop} {s : Shared} {K : Frag} {x D : Addr} {ox : Obj} {ody : Option Obj}
theorem vl_dataD {C : Addr} {name : Str} {a g : Value} (hc : (clsIn K C).isSome = true) (ha : findIn K (.ref C) name = some (some a)) (hg : specialIn K a "__get__" = some (some g)) (ht : takesIn K a = some true) : findObj K C ody name = some (.bind g a) := by
  obtain ⟨cd, hc⟩ := Option.isSome_iff_exists.mp hc
  unfold findObj
  rw [hc, Option.bind_some, ha, Option.bind_some]
  simp [hg, ht]
theorem vl_class {Q : Option Value → Shared → Prop} (X : K.In s.heap) (C : L2.ExcC K D) (I : InstAt s.heap x ox D ody) (h : Q (some (.ref D)) { s with toks := s.toks + 1 }) : wpAny (model prog w) A (getAttr? (.ref x) "__class__") Q E s := by
  have hf : findObj K D ody "__class__" = some (.bind (.builtin "getset_descriptor.__get__") (.builtin "object.__class__")) := vl_dataD (by obtain ⟨cd, hc, _⟩ := any_some C.hd; rw [hc]; rfl) C.ha C.hn C.ht
  obtain ⟨hp, g, d, t, os⟩ := s
  have L0 := I.type (M := model prog w)
  have L1 := looks_findIn (M := model prog w) X C.hg
  have L2 := looks_findIn (M := model prog w) X C.hk
  have L3 := looks_find (M := model prog w) X I hf
  have sub : Looks (model prog w) hp (isInstance (.ref x) (.type "BaseException")) true := L0.andThen (looks_subIn X C.hs)
  have e2 : (Value.builtin "BaseException.__getattribute__" == Value.builtin "object.__getattribute__") = false := by decide +kernel
  have e1 : (onTheHeap (Value.ref D) && Value.builtin "BaseException.__getattribute__" == Value.builtin "object.__getattribute__") = false := by rw [e2]; rfl
  unfold getAttr? getAttrBy? getAttrBy
  refine wpAny_bind (wpAny_mkText (wpAny_bind (wpAny_attempt (wpAny_holding (wpAny_bind (L0.at (wpAny_bind (L1.at ?_))))))))
  show wpAny _ _ (if (onTheHeap (Value.ref D) && Value.builtin "BaseException.__getattribute__" == Value.builtin "object.__getattribute__") = true then _ else _) _ _ _
  rw [e1, if_neg Bool.false_ne_true]
  unfold getAttrByItsOwn hookBefore
  refine wpAny_bind ?_
  rw [if_pos (show onTheHeap (Value.ref D) = true from rfl)]
  refine L2.at ?_
  refine wpAny_bind (wpAny_attempt (wpAny_holding ?_))
  unfold callGetattribute
  rw [show (false && onTheHeap (Value.builtin "BaseException.__getattribute__")) = false from rfl, if_neg Bool.false_ne_true]
  unfold boundAndCalled
  rw [PySem.F.excAttr_ValueError.ga.bind (.ref x)]
  refine wpAny_bind (wpAny_pure ?_)
  show wpAny _ _ (call (.builtin "BaseException.__getattribute__") [.ref x, .str "__class__" t]) _ _ _
  refine wpAny_call (codeAny_call_builtin PySem.F.excAttr_ValueError.ga.plain PySem.F.entry_bexc_ga ?_)
  refine @check_slot (model prog w) _ _ ⟨hp, g, d, t + 1, os⟩ "BaseException.__getattribute__" "BaseException" "__getattribute__" (.ref x) [.str "__class__" t] [] _ (by decide +kernel) (by decide +kernel) sub (PySem.F.args_bexc_ga (.ref x) (.str "__class__" t)) ?_
  unfold Builtin.«object.__getattribute__»
  refine wpAny_bind (wpAny_of_eq (a := ((Value.ref x : Value), [Value.str "__class__" t])) (by first | rfl | (simp only [slotArgs]; rfl)) ?_)
  refine wpAny_bind (wpAny_pure (wpAny_bind (L0.at (wpAny_bind (L3.at ?_)))))
  show wpAny _ _ (holding [Value.builtin "object.__class__"] (call (.builtin "getset_descriptor.__get__") [.builtin "object.__class__", .ref x, .ref D]) >>= ret) _ _ _
  refine wpAny_bind (wpAny_holding (wpAny_call (class_get (s := ⟨hp, g, d, t + 1, os⟩) (ox := ox) (od := ody) X I C.hm ?_)))
  refine wpAny_pure ?_
  show wpAny _ _ (handedOut (.ref D)) _ _ _
  rw [handedOut_of (v := .ref D) rfl]
  first
    | exact wpAny_pure (wpAny_pure h)
    | exact wpAny_pure h
    | exact wpAny_pure (wpAny_bind (wpAny_pure (wpAny_pure h)))
theorem vl_kitx (C : L2.ExcC K D) : KitX K (.ref x) (.ref D) (fun h => InstAt h x ox D ody) where
  ty := fun _ _ _ I => I.type
  it := fun _ _ X _ => by
    obtain ⟨cdD, hcD, _⟩ := any_some C.hd
    unfold clsIn at hcD
    split at hcD
    · rename_i c' d' cd' sl' ho
      intro A' Q' E' s' k q
      unfold isType loadHead
      exact wpAny_bind (wpAny_loadPart (k _ _ (X _ _ ho)) (wpAny_pure q))
    · cases hcD
  ne := fun h tp dd its n sl X htp => by
    obtain ⟨cdD, hcD, _⟩ := any_some C.hd
    refine Bool.eq_false_iff.mpr fun q => ?_
    have e : D = tp := Value.ref.inj (beq_iff_eq.mp q)
    subst e
    unfold clsIn at hcD
    split at hcD
    · rename_i c' d' cd' sl' ho
      have z := (X _ _ ho).symm.trans htp
      cases z
    · cases hcD
  ca := fun X I k => vl_class X C I k
end
end PySem.W
namespace VL
open PySem PySem.Spec PyProof.Rows L2
variable [LamN]
theorem exV_at {P : Program} {w : World} {H : Hp} {h : Heap} {a C dd : Addr} {fs : List (Str × V)} (hok : HOk P w H h) (e : H a = some (exV a C dd)) (ed : H dd = some (.xd fs)) :
    ∃ (oe : Obj) (od : Obj) (mA : Str → Option Value), PySem.W.InstAt h a oe C (some od) ∧ (∀ f, RelO (fs.lookup f) (mA f)) ∧ (∀ f, PySem.W.lookIn f od = some (mA f)) := by
  obtain ⟨⟨oe, vs, h1, h2, h3, h4⟩, _, _⟩ := hok a _ e
  have hx : ObjOk P w H h dd (.xd fs) := hok dd _ ed
  obtain ⟨mA, hns, hr⟩ := hx
  obtain ⟨od, ho, hl⟩ := lookIn_ns hns
  exact ⟨oe, od, mA, ⟨h1, h2, by unfold PySem.W.notCls; rw [h4] <;> rfl, by rw [h3]; exact ho⟩, hr, hl⟩
/-- isinstance(x, c), x a kept exception -/
def rIsV (K : PySem.W.Frag) : List V → Hp → VK → Prop := fun xs H Q => ∃ (a D : Addr) (c : V) (cv : Value) (b : Bool), xs = [.ref a, c] ∧ ((∃ (dd : Addr) (fs : List (Str × V)), H a = some (exV a D dd) ∧ H dd = some (.xd fs)) ∨ H a = some (L2.exo a D none)) ∧ ExcC K D ∧ ClsV c cv ∧ PySem.W.kitOne K (.ref D) cv = some b ∧ Q (.bl b) H
theorem call_isV {X : Cx} : CallR X (.builtin "isinstance") (rIsV X.K) := by
  intro pins s σ H xs us Q I r h
  obtain ⟨a, D, c, cv, b, rfl, ho, C, k, e, q⟩ := h
  obtain ⟨u1, u2, rfl, r1, r2⟩ := vals2 r
  have e2 := k.eq r2
  subst e2
  cases (show u1 = Value.ref a from r1)
  obtain ⟨oe, od, J⟩ : ∃ oe od, PySem.W.InstAt s.heap a oe D od := by
    rcases ho with ⟨dd, fs, ha, hd⟩ | ha
    · obtain ⟨oe, od, mA, J, _, _⟩ := exV_at I.hok ha hd
      exact ⟨oe, _, J⟩
    · obtain ⟨t1, he⟩ := exo_at I.hok ha
      exact ⟨_, none, ⟨he, rfl, by unfold PySem.W.notCls; rfl, True.intro⟩⟩
  exact PySem.W.kia_one (PySem.W.vl_kitx C) I.kIn J e (fun z => nomatch z) fun tk => ⟨.bl b, H, I.kept (t' := tk) fun _ _ z => z, rfl, q⟩
/-- of which own classes the exceptions are: tab n x, of the class n whether it is an x -/
structure IsX (K : PySem.W.Frag) (mg : Str → Option Value) (tab : Str → Str → Option Bool) (xs : List Str) : Prop where
  exn : ∀ n x b, tab n x = some b → ∃ D C, mg n = some (.ref D) ∧ mg x = some (.ref C) ∧ ExcC K D ∧ PySem.W.kitOne K (.ref D) (.ref C) = some b
  non : ∀ x ∈ xs, ∃ C, mg x = some (.ref C) ∧ PySem.W.kitOne K (.type "NoneType") (.ref C) = some false
def bIsX (tab : Str → Str → Option Bool) (xs : List Str) : List D → Option D
  | [.exn n _, .cls x] => (tab n x).map .bl
  | [.non, .cls x] => if x ∈ xs then some (.bl false) else none
  | _ => none
theorem rep_exn {K : PySem.W.Frag} {mg : Str → Option Value} {H : Hp} {v : V} {n : Str} {fs : List (Str × D)} {D0 : Addr} (r : Rep K mg H v (.exn n fs)) (h : mg n = some (.ref D0)) :
    ∃ a, v = .ref a ∧ ((∃ (dd : Addr) (gs : List (Str × V)), H a = some (exV a D0 dd) ∧ H dd = some (.xd gs)) ∨ H a = some (L2.exo a D0 none)) := by
  cases r with
  | exn c ha hd _ =>
    rw [h] at c; cases c
    exact ⟨_, rfl, .inl ⟨_, _, ha, hd⟩⟩
  | exo c ha =>
    rw [h] at c; cases c
    exact ⟨_, rfl, .inr ha⟩
theorem cd_isX {K : PySem.W.Frag} {mg : Str → Option Value} {tab : Str → Str → Option Bool} {xs : List Str} (T : IsX K mg tab xs) : CallH K mg (fun ys H Q => rIsV K ys H Q ∨ rIsi K ys H Q) (bIsX tab xs) := fun H vs ds d Q r e q => by
  unfold bIsX at e
  split at e
  · rename_i n fs x
    obtain ⟨v, u, rfl, r1, r2⟩ := r.two
    obtain ⟨b, eb, rfl⟩ := Option.map_eq_some_iff.mp e
    obtain ⟨D, C, h1, h2, h3, h4⟩ := T.exn _ _ _ eb
    obtain ⟨a, rfl, ho⟩ := rep_exn r1 h1
    cases r2 with | cls c2 =>
    rw [h2] at c2; cases c2
    exact .inl ⟨_, _, _, _, b, rfl, ho, h3, .own _, h4, q _ fun _ => .bl _⟩
  · rename_i x
    split at e
    · rename_i hx
      cases e
      obtain ⟨v, u, rfl, r1, r2⟩ := r.two
      obtain ⟨C, h1, h2⟩ := T.non x hx
      cases r1
      cases r2 with | cls c2 =>
      rw [h1] at c2; cases c2
      exact .inr ⟨_, _, _, _, _, rfl, .own _, .base .non, h2, q _ fun _ => .bl _⟩
    · cases e
  · cases e
/-- an own class as a value -/
theorem ve_clsN {X : Cx} {B : Bs} {x : Str} {p : Pos} (hg : Gl X x) (hm : ∃ C, X.mg x = some (.ref C)) (hd : (x == ("__debug__" : Str)) = false := by decide) : ∃ t, VE X B (.Name x p) t (eK (.cls x)) := by
  obtain ⟨C, hm⟩ := hm
  exact ⟨_, ve_glob (v := .ref C) hg hm rfl (fun _ => .cls hm) hd⟩
section
variable {X : Cx} {B : Bs} {e : Expr} {te : TE} {fe : Env → Option (Out D)} {pos : Pos}
/-- e.f, e a kept exception of one of the classes ns -/
def tXat (K : PySem.W.Frag) (f : Str) (te : TE) : TE := fun σ H Q => te σ H fun x H1 => ∃ (a C dd : Addr) (fs : List (Str × V)) (v : V), x = .ref a ∧ H1 a = some (exV a C dd) ∧ H1 dd = some (.xd fs) ∧ XfC K C ∧ PySem.W.findIn K (.ref C) f = some none ∧ fs.lookup f = some v ∧ Q v H1
theorem pe_xat {n : Str} (he : PE X e te) (hb : attributeBase e n X.env (eval e X.env) = eval e X.env := by rfl) : PE X (.Attribute e n pos) (tXat X.K n te) := by
  refine ⟨fun pins s σ H Q I h => ?_⟩
  refine attr_of hb (wpAny_mono (he.run pins s σ H _ I h) (fun u s1 hh => ?_) fun _ _ z => z)
  obtain ⟨x, H1, I1, rx, a, C, dd, fs, v, ex, ha, hd, T, hno, l, q⟩ := hh
  subst ex
  obtain rfl : u = Value.ref a := rx
  obtain ⟨oe, od, mA, J, hr, hl⟩ := exV_at I1.hok ha hd
  obtain ⟨u, hu, ru⟩ := RelO.some_of (v := v) (o := mA n) (by rw [← l]; exact hr n)
  exact HandSPX.exc_get I1.kIn J T.ga T.gg T.exC (PySem.W.findObj_own T.hdC hno rfl (by rw [hl, hu])) (handed_of ru) ⟨v, H1, I1.tok _, ru, q⟩
structure AtX (K : PySem.W.Frag) (mg : Str → Option Value) (ns : List Str) (f : Str) : Prop where
  at_ : ∀ n ∈ ns, ∃ D, mg n = some (.ref D) ∧ XfC K D ∧ PySem.W.findIn K (.ref D) f = some none
def bXat (ns : List Str) (f : Str) : D → Option D
  | .exn n fs => if n ∈ ns then fs.lookup f else none
  | _ => none
theorem RepF.lookup_some' {K : PySem.W.Frag} {mg : Str → Option Value} {F : Hp} : ∀ {vs : List (Str × V)} {ds : List (Str × D)} {f : Str} {d : D}, RepF K mg F vs ds → ds.lookup f = some d → ∃ v, vs.lookup f = some v ∧ Rep K mg F v d
  | _, _, _, _, .nil, h => by cases h
  | _, _, f, d, .cons (k := k) r t, h => by
    rw [List.lookup_cons] at h
    by_cases e : (f == k) = true
    · rw [e] at h; cases h
      exact ⟨_, by rw [List.lookup_cons, e], r⟩
    · rw [Bool.eq_false_iff.mpr e] at h
      obtain ⟨v, a, b⟩ := RepF.lookup_some' t h
      exact ⟨v, by rw [List.lookup_cons, Bool.eq_false_iff.mpr e]; exact a, b⟩
def eXat (ns : List Str) (f : Str) (fe : Env → Option (Out D)) : Env → Option (Out D) := bnd fe fun d => lift (bXat ns f d)
theorem ve_xat {n : Str} {ns : List Str} (T : AtX X.K X.mg ns n) (he : VE X B e te fe) (hb : attributeBase e n X.env (eval e X.env) = eval e X.env := by rfl) : VE X B (.Attribute e n pos) (tXat X.K n te) (eXat ns n fe) := ⟨pe_xat he.pe hb, fun ε σ F H Q r ok e p => by
  rcases bnd_some e with ⟨x, ε', e1, rfl⟩ | ⟨d, ε1, e1, e⟩
  · exact he.den ε σ F H _ _ ok e1 p
  refine he.den ε σ F H _ _ ok e1 fun v F1 H1 ok1 s1 r1 => ?_
  obtain ⟨d', ed, rfl⟩ := lift_some e
  unfold bXat at ed
  split at ed
  · rename_i m fs
    split at ed
    · rename_i hm
      obtain ⟨D, h1, h2, h3⟩ := T.at_ m hm
      cases r1 with
      | exo c ha => cases ed
      | exn c ha hd rf =>
      rw [h1] at c; cases c
      obtain ⟨u, lu, ru⟩ := RepF.lookup_some' rf ed
      exact ⟨_, _, _, _, u, rfl, ok1.sub _ _ ha, ok1.sub _ _ hd, h2, h3, lu, p u F1 H1 ok1 s1 ru⟩
    · cases ed
  · cases ed⟩
end
/-! ### try -/
theorem OkV.withE {K : PySem.W.Frag} {mg : Str → Option Value} {B : Bs} {ε : Env} {σ : L2.St} {F H : Hp} (ok : OkV K mg B ε σ F H) (E : L2.St → XK) : OkV K mg { B with E := E } ε σ F H :=
  ⟨ok.sub, ok.grow, ok.frame, ok.keep, ok.there, ok.len, ok.slot, ok.apart, ok.tab, ok.notb⟩
theorem OkV.offE {K : PySem.W.Frag} {mg : Str → Option Value} {B : Bs} {ε : Env} {σ : L2.St} {F H : Hp} {E : L2.St → XK} (ok : OkV K mg { B with E := E } ε σ F H) : OkV K mg B ε σ F H :=
  ⟨ok.sub, ok.grow, ok.frame, ok.keep, ok.there, ok.len, ok.slot, ok.apart, ok.tab, ok.notb⟩
/-- which exceptions the clause takes -/
def CatC (K : PySem.W.Frag) (mg : Str → Option Value) (c : Value) (tab : Str → Option Bool) : Prop := ∀ n b, tab n = some b → ∃ C, mg n = some (.ref C) ∧ PySem.W.exmOne K (.ref C) c = some b
def sTry (i j : Nat) (tab : Str → Option Bool) (g : SF) : SF := fun ε => match g ε with
  | some (.ex x ε') => match tab x.n with
    | some true => some (.nx (((ε'.set i none).set j (some (.fr (.exn x.n x.fs)))).set i none))
    | some false => some (.ex x ε')
    | none => none
  | r => r
theorem OkV.setU {K : PySem.W.Frag} {mg : Str → Option Value} {B : Bs} {ε : Env} {σ : L2.St} {F H : Hp} (ok : OkV K mg B ε σ F H) (i : Nat) (x : Option V) : OkV K mg B (ε.set i none) (σ.set i x) F H := by
  refine ⟨ok.sub, ok.grow, ok.frame, ok.keep, ok.there, by simp [ok.len], fun j s e => ?_, fun j k l m ds es u hjk e1 e2 e3 e4 => ?_, ok.tab, ok.notb⟩
  · rcases set_get e with ⟨_, z, _⟩ | ⟨n, e⟩
    · cases z
    · obtain ⟨u, a, b⟩ := ok.slot j s e
      exact ⟨u, by rw [List.getElem?_set_ne (Ne.symm n)]; exact a, b⟩
  · rcases set_get e1 with ⟨_, z, _⟩ | ⟨n1, e1⟩
    · cases z
    rcases set_get e2 with ⟨_, z, _⟩ | ⟨n2, e2⟩
    · cases z
    rw [List.getElem?_set_ne (Ne.symm n1)] at e3
    rw [List.getElem?_set_ne (Ne.symm n2)] at e4
    exact ok.apart j k l m ds es u hjk e1 e2 e3 e4
/-- what a body does, told by its data function -/
def tSemS (K : PySem.W.Frag) (mg : Str → Option Value) (g : SF) (B : Bs) : TS := fun D σ H => ∃ ε F r, OkV K mg B ε σ F H ∧ g ε = some r ∧ PostS K mg B F D r
theorem VSs.sem {X : Cx} {B : Bs} {body : List Stmt} {g : SF} (h : ∃ t, VSs X B body t g) : PSs X body (tSemS X.K X.mg g B) := by
  obtain ⟨t, v⟩ := h
  exact ⟨fun pins s σ H D I ⟨ε, F, r, ok, e, p⟩ => v.ps.run pins s σ H D I (v.den ε σ F H D r ok e p)⟩
section
variable {X : Cx} {B : Bs} {x n m : Str} {c : Value} {i j : Nat} {body : List Stmt} {np p1 p2 p3 pos pos' : Pos} {g : SF} {tab : Str → Option Bool}
abbrev withW (B : Bs) (W : WX) : Bs := { B with E := fun σ c d H => W c d σ H }
theorem vs_try (i j : Nat) (hs : X.stack = X.env :: X.outer) (hf : X.env.frame = some X.env.locals) (hex : X.ex = []) (hN : X.N.Nodup) (hi : X.N[i]? = some n) (hln : X.env.kindOf n = some .local) (hj : X.N[j]? = some m) (hlm : X.env.kindOf m = some .local) (hc : Names X x c) (tk : Tk X B)
    (T : CatC X.K X.mg c tab)
    (hb : ∀ (W : WX) (pn : List (Addr × Obj)) (xe : Value → Shared → Prop), Takes (X.tr pn xe) W → ∃ t, VSs (X.tr pn xe) (withW B W) body t g)
    (hnd : (n == ("__debug__" : Str)) = false := by decide) (hncd : (n == ("__classdict__" : Str)) = false := by decide) (hsw : swapsWith (.Name n p2) (some (.Name m p1)) p3.line X.env = pure false := by rfl) :
    VS X B (.Try body [.ExceptHandler (some (.Name x np)) (some n) [.Assign [.Name m p1] (.Name n p2) p3] pos'] [] [] pos) (fun D σ H => tSemS X.K X.mg g (withW B (wVal X.K c i j (fun c d σ H => B.E σ c d H) D)) D σ H) (sTry i j tab g) := by
  refine ⟨ps_try_val (tb := fun W => tSemS X.K X.mg g (withW B W)) hs hf hex hN hi hln hj hlm hc tk (fun W pn xe t _ => VSs.sem (hb W pn xe t)) hnd hncd hsw, fun ε σ F H D r ok e p => ?_⟩
  unfold sTry at e
  split at e
  · rename_i y ε' eg
    refine ⟨ε, F, _, ok.withE _, eg, ?_⟩
    intro σ' F' H' C dd fs ok' s' hm hd rf
    have ok' := ok'.offE
    split at e
    · rename_i et
      cases e
      obtain ⟨C', h1, h2⟩ := T _ _ et
      rw [hm] at h1; cases h1
      refine ⟨true, h2, fun _ => ⟨C, dd, rfl, rfl, fun a ha => ?_⟩, fun z => nomatch z⟩
      have okL := ok'.laid ha (exV a C dd)
      have sL := same_laid ok' ha (exV a C dd)
      have rx : Rep X.K X.mg (upd F' a (exV a C dd)) (.ref a) (.exn y.n y.fs) := .exn hm upd_same (sL _ _ hd) (rf.mono sL)
      exact p _ _ _ (((okL.setU i _).setF rx j).setU i _) (s'.trans sL)
    · rename_i et
      cases e
      obtain ⟨C', h1, h2⟩ := T _ _ et
      rw [hm] at h1; cases h1
      exact ⟨false, h2, fun z => (nomatch z), fun _ => p σ' F' H' C dd fs ok' s' hm hd rf⟩
    · cases e
  · rename_i r' hne
    refine ⟨ε, F, r, ok.withE _, e, ?_⟩
    cases r with
    | nx ε2 => exact fun σ' F' H' o s => p σ' F' H' o.offE s
    | bk ε2 => exact fun σ' F' H' o s => p σ' F' H' o.offE s
    | ct ε2 => exact fun σ' F' H' o s => p σ' F' H' o.offE s
    | rt d ε2 => exact fun v σ' F' H' o s => p v σ' F' H' o.offE s
    | ex y ε2 => exact absurd e (hne y ε2)
end
end VL
end

section
set_option Elab.async false
set_option linter.all false
set_option maxRecDepth 100000
set_option maxHeartbeats 4000000
/-! VLL: h(lambda: e), h a def that calls what it gets. -/
namespace VL
open PySem PySem.Spec PyProof.Rows L2 LamX
variable [LamN]
section
variable {X : Cx} {pins : List (Addr × Obj)} {σ : L2.St} {H : Hp} {s : Shared}
/-- the lambda is made: its code object is new, or found in the table -/
theorem lam_new {c P : Addr} {params : Arguments} {body : Expr} {scope : Scope} {pos : Pos} {E : Value → Shared → Prop} {Q : Value → Shared → Prop} (I : L2.Inv X pins σ H s) (TB : TabB X.base X.mg c P) (hcode : X.env.code = .ref c)
    (hn : LamN.tq pos.line pos.col = X.env.qual ++ "<lambda>") (hT : NdefX.TabN H P LamN.tq) (hdef : defaultsOf params X.env = ([], [])) (hfree : ∀ y ∈ scope.names, y.2 = .free → ∃ c, X.env.cells.lookup y.1 = some c)
    (h : ∀ (f c' : Addr) (pm ctv : Value) (H1 : Hp) (s' : Shared), L2.Inv X pins σ H1 s' → ExtN H H1 → TbK H H1 → (∀ b, H b ≠ none → H1 b ≠ none) →
      s'.heap.get? f = some (PySem.W.kla_obj "<lambda>" (X.env.qual ++ "<lambda>") params body scope (cloFrom X.env.cells scope.names []) pm c' ctv) → H1 f = none → f ∉ frs X.stack → H1 c' = some (CodeO c' (X.env.qual ++ "<lambda>")) → Q (.ref f) s') :
    wpAny (model X.prog X.w) X.A (eval (.Lambda params body scope pos) X.env) Q E s := by
  obtain ⟨ps, hP, ht, ha⟩ := id hT
  refine PySem.W.kla_eval hdef ?_
  have bP : s.heap.BuiltinsAt X.mg P := TB.bm.keeps I.bk
  have hP' : s.heap.get? P = some { cls := .none, data := .fields ps } := I.hok P _ hP
  have nofr : ∀ f, s.heap.objs.size ≤ f → f ∉ frs X.stack := fun f hf z => by
    rcases List.mem_cons.mp (I.stkSub _ z) with e | e
    · have h1 := I.lt
      rw [← e] at h1
      exact Nat.lt_irrefl _ (Nat.lt_of_lt_of_le h1 hf)
    · exact I.nofs hf e
  cases hc : codeAmong pos ps.toList with
  | none =>
    refine PySem.W.kla_makeFunction (mg := X.mg) (c := c) (P := P) (ps := ps) (closure_ok hfree) I.ok.glob (I.mod.glob.keeps I.bk) hcode (TB.code.keeps I.bk) hP' ht hc TB.gP bP fun c' ctv h' tk hx hge hlt hrec htb => ?_
    obtain ⟨c2, oc, vs, t, e2, hoc, hd, hv⟩ := hrec
    cases e2
    have hsz : s.heap.objs.size ≤ h'.objs.size := Nat.le_trans hge (Nat.le_of_lt hlt)
    have nC : H c' = none := I.hok.fresh hge
    have I1 := inv_table (t' := tk) (more := #[rawInt pos.line, rawInt pos.col, .ref c']) (h' := h'.push (PySem.W.kla_obj "<lambda>" (X.env.qual ++ "<lambda>") params body scope (cloFrom X.env.cells scope.names []) ((X.mg "__name__").getD .none) c' ctv)) I hP
      (fun b o hb e => Heap.get?_push_of_some _ (hx b o hb e)) (Heap.get?_push_of_some _ htb) hge ⟨oc, vs, t, Heap.get?_push_of_some _ hoc, hd, hv⟩
    have hE : ExtN H (upd (upd H P (.tbl (ps ++ #[rawInt pos.line, rawInt pos.col, .ref c']))) c' (CodeO c' (X.env.qual ++ "<lambda>"))) := fun b o e n => by
      rw [upd_ne (ne_of_none e nC), upd_ne (fun z => n ps (Option.some.inj (e.symm.trans (by rw [z]; exact hP))))]
      exact e
    have eL : (ps ++ #[rawInt pos.line, rawInt pos.col, .ref c']).toList = ps.toList ++ [rawInt pos.line, rawInt pos.col, .ref c'] := by simp
    refine h h'.objs.size c' ((X.mg "__name__").getD .none) ctv _ _ I1 hE (fun P' t' => ?_) (fun b hb => ?_) (Heap.get?_push_size _ rfl) ?_ (nofr _ hsz) upd_same
    · by_cases hb : P' = P
      · subst hb
        refine ⟨_, by rw [upd_ne (ne_of_none hP nC), upd_same], by rw [eL]; exact PySem.TriplesOk_snoc _ _ _ _ ht, fun p' cv hcv => ?_⟩
        rw [eL] at hcv
        rcases NdefX.among_app2 _ ht hcv with z | ⟨z, z1, z2⟩
        · obtain ⟨c0, e1, e2⟩ := ha p' cv z
          exact ⟨c0, e1, hE _ _ e2 codeO_ne⟩
        · refine ⟨c', z, ?_⟩
          rw [← z1, ← z2, hn]
          exact upd_same
      · obtain ⟨ps', a1, a2, a3⟩ := t'
        refine ⟨ps', by rw [upd_ne (ne_of_none a1 nC), upd_ne hb]; exact a1, a2, fun p' cv hcv => ?_⟩
        obtain ⟨c0, e1, e2⟩ := a3 p' cv hcv
        exact ⟨c0, e1, hE _ _ e2 codeO_ne⟩
    · by_cases e1 : b = c'
      · subst e1; rw [upd_same]; exact fun z => nomatch z
      · rw [upd_ne e1]
        by_cases e2 : b = P
        · subst e2; rw [upd_same]; exact fun z => nomatch z
        · rw [upd_ne e2]; exact hb
    · have n1 : h'.objs.size ≠ c' := Nat.ne_of_gt hlt
      have n2 : h'.objs.size ≠ P := Nat.ne_of_gt (Nat.lt_of_lt_of_le (Heap.lt_size hP') hsz)
      rw [upd_ne n1, upd_ne n2]
      exact I.hok.fresh hsz
  | some cv =>
    obtain ⟨c', e, hco⟩ := ha pos cv hc
    rw [hn] at hco
    subst e
    refine PySem.W.kla_makeFunctionHit (mg := X.mg) (c := c) (P := P) (ps := ps) (closure_ok hfree) I.ok.glob (I.mod.glob.keeps I.bk) hcode (TB.code.keeps I.bk) hP' ht hc bP fun ctv h' tk hx hsz => ?_
    have I1 : L2.Inv X pins σ H { s with heap := h'.push (PySem.W.kla_obj "<lambda>" (X.env.qual ++ "<lambda>") params body scope (cloFrom X.env.cells scope.names []) ((X.mg "__name__").getD .none) c' ctv), toks := tk } := I.kept fun b o e => Heap.get?_push_of_some _ (hx b o e)
    exact h h'.objs.size c' ((X.mg "__name__").getD .none) ctv H _ I1 (ExtN.refl H) (TbK.refl H) (fun _ h => h) (Heap.get?_push_size _ rfl) (I.hok.fresh hsz) (nofr _ hsz) hco
/-- x(), in the def that got the lambda: Z is that def's context, entered at s -/
theorem pe_act2 {CXg : CXT} {Eg : XK} {Ng : List Str} {qg : Str} {sg : Scope} {g f c' : Addr} {cdg pm ctv : Value} {params : Arguments} {body : Expr} {scope : Scope} {k i : Nat} {a : Str} {pn : List (Addr × Obj)} {xe : Value → Shared → Prop} {W : WX} {tb : XK → TE} {p1 p2 : Pos}
    (I : L2.Inv X pins σ H s) (L : LamS X.env.scope scope) (hf : s.heap.get? f = some (PySem.W.kla_obj "<lambda>" (X.env.qual ++ "<lambda>") params body scope (cloFrom X.env.cells scope.names []) pm c' ctv)) (hfn : H f = none) (hfr : f ∉ frs X.stack) (gd : X.A.guards = some [])
    (hbind : bindArgs (PySem.W.kla_fn "<lambda>" (X.env.qual ++ "<lambda>") params body scope (cloFrom X.env.cells scope.names []) pm (.ref c') ctv) ⟨[], []⟩ = pure [])
    (tk : Takes ((cxOf CXg X.prog X.w X.K X.mg X.base Ng qg sg g cdg X.A X.stack s H Eg).tr pn xe) W) (hr : Room (k + 1) (X.A.deeper (envOfC qg sg s.heap.objs.size g cdg)))
    (hbody : ∀ (A : Around) (outer : List PySem.Env) (s : Shared) (H : Hp) (E : XK), Room k (A.deeper (lamEnv X scope s.heap.objs.size f c')) → A.guards = some [] → PE (lamCx X A outer s H E scope f c') body (tb E))
    (hN : Ng[i]? = some a) (hv : Vis sg a) (hd : (a == ("__debug__" : Str)) = false := by decide) (hcd : (a == ("__classdict__" : Str)) = false := by decide) :
    PE ((cxOf CXg X.prog X.w X.K X.mg X.base Ng qg sg g cdg X.A X.stack s H Eg).tr pn xe) (.Call (.Name a p1) [] [] p2)
      (fun σZ HZ Q => σZ[i]? = some (some (.ref f)) ∧ HZ c' = some (CodeO c' (X.env.qual ++ "<lambda>")) ∧ tb (fun c d H => W c d σZ H) σ HZ Q) := by
  refine ⟨fun pinsZ sZ σZ HZ Q IZ h => ?_⟩
  obtain ⟨hs, hc, ht⟩ := h
  refine wpAny_Call_Name_kw (wpAny_mono ((pe_var (pos := p1) (i := i) hN hv hd hcd).run pinsZ sZ σZ HZ (fun v H1 => v = .ref f ∧ H1 = HZ) IZ ⟨.ref f, hs, rfl, rfl⟩) (fun u s1 ⟨v, H1, I1, r1, q1⟩ => ?_) fun _ _ z => z)
  obtain ⟨ev, eH⟩ := q1
  subst ev
  rw [eH] at I1
  obtain rfl : u = Value.ref f := r1
  have of1 : s1.heap.get? f = some (PySem.W.kla_obj "<lambda>" (X.env.qual ++ "<lambda>") params body scope (cloFrom X.env.cells scope.names []) pm c' ctv) := I1.base.keep f _ hf hfn hfr (fun z => nomatch (show f ∈ ([] : List Addr) from z))
  refine PySem.W.callWith_F0 ⟨_, _, _, _, of1⟩ ?_
  have un : Un (frs X.stack) [] H HZ s.heap s1.heap := I1.base
  obtain ⟨⟨oc, vs, t, hoc, hdc, hvc⟩, _, _⟩ := I1.hok c' _ hc
  have rc : codeAny (model X.prog X.w) (X.A.deeper (envOfC qg sg s.heap.objs.size g cdg)) (.call (.ref f) ⟨[], []⟩) (CR (L2.CX X.prog X.w) (envOfC qg sg s.heap.objs.size g cdg :: X.stack) X.prog X.w HZ s1 Q (fun c d H => W c d σZ H)) s1 := by
    refine PySem.W.kla_callFunE hr.depth of1 rfl L.co L.gen rfl ⟨c', oc, vs, t, rfl, hoc, hdc, hvc⟩ ?_
    rw [hbind]
    refine wpAny_pure (wpAny_newFunctionEnv (fun y hy => (L.own y hy).2) (fun y hy => absurd hy (by simp)) (fun h₁ hns hsb => ⟨I1.nolimit.fresh _ hsb, ?_⟩) L.kind)
    show codeAny _ _ (.expr body (lamEnv X scope s1.heap.objs.size f c')) _ _
    have kp : ∀ b o, s1.heap.get? b = some o → h₁.get? b = some o := fun b o e => hsb.extBut b o (Nat.ne_of_lt (Heap.lt_size e)) (Heap.get?_push_of_some _ e)
    have J : L2.Inv (lamCx X (X.A.deeper (envOfC qg sg s.heap.objs.size g cdg)) (envOfC qg sg s.heap.objs.size g cdg :: X.stack) s1 HZ (fun c d H => W c d σZ H) scope f c') [] σ HZ { s1 with heap := h₁, toks := s1.toks + ([] : List (Str × Value)).length } :=
      lam_start2 I L I1.env0 hr.hd un hns kp
    refine PySem.W.kla_codeExpr (wpAny_mono ((hbody _ _ s1 HZ _ (hr.deeper _) gd).run [] _ _ HZ Q J ht) (fun v s' hq => ?_) fun e s' hq => hq)
    obtain ⟨w', H', J', rv, q⟩ := hq
    exact ⟨w', H', J'.os, J'.bare, J'.base, J'.hok, rv, q⟩
  have hx := passAt tk σZ
  refine wpAny_call (codeAny_mono rc fun r s' hq => ?_)
  cases r with
  | error e => exact hx pinsZ HZ s1 e s' I1 hq
  | ok fl =>
    cases fl with
    | ret u => exact I1.after hq
    | next => exact False.elim hq
    | brk => exact False.elim hq
    | cont => exact False.elim hq
end
/-- what a call may be told of: the frozen part F grows to F2 -/
structure Go (K : PySem.W.Frag) (F H F2 H2 : Hp) : Prop where
  grow : Same F F2
  sub : Same F2 H2
  fr : ∀ a, H a ≠ none → F a = none → F2 a = none
  not : NoT F2
  kp : Kp K H H2
theorem OkV.go {K : PySem.W.Frag} {mg : Str → Option Value} {B : Bs} {ε : Env} {σ : L2.St} {F H F2 H2 : Hp} (ok : OkV K mg B ε σ F H) (g : Go K F H F2 H2) : OkV K mg B ε σ F2 H2 := ok.callA g.grow g.sub g.fr g.not g.kp
/-- how a call ends: r -/
def PostG (K : PySem.W.Frag) (mg : Str → Option Value) (F H : Hp) (Q : VK) (E : XK) : Rs → Prop
  | .ok d => ∀ v F2 H2, Go K F H F2 H2 → Rep K mg F2 v d → Q v H2
  | .error x => ∀ C dd fs F2 H2, Go K F H F2 H2 → mg x.n = some (.ref C) → F2 dd = some (.xd fs) → RepF K mg F2 fs x.fs → E (.ref C) (some dd) H2
/-- x(ask) calls ask once, of whose end r it makes hd r -/
structure HeardB (P : Program) (w : World) (K : PySem.W.Frag) (mg : Str → Option Value) (base : Heap) (k : Nat) (x : Str) (hd : Rs → Option D) : Prop where
  ex : ∃ (g : Addr) (a : Str) (st : Stmt) (oc : Value) (od : Option Addr) (dV kV doc pm : Value) (an : Option Addr) (cdv ct : Value) (osl : Array (Option Value)) (Ng : List Str),
    mg x = some (.ref g) ∧ PySem.W.keepIn K (.ref g) = true ∧ K.lookup g = some ⟨oc, od, .func (PySem.W.fnOf x x (defArgs st) (defBody st) (defScope st) dV kV doc pm an cdv ct), osl⟩ ∧ PySem.W.codeIn K cdv x = true ∧
    L2.Binds K (PySem.W.fnOf x x (defArgs st) (defBody st) (defScope st) dV kV doc pm an cdv ct) [a] [] ∧ FnScope Ng [a] (defScope st) ∧ Ng[0]? = some a ∧ Vis (defScope st) a ∧ (a == ("__debug__" : Str)) = false ∧ (a == ("__classdict__" : Str)) = false ∧
    ∀ (A : Around) (outer : List PySem.Env) (s : Shared) (H F : Hp) (f c' : Addr) (q : Str) (tl : XK → Hp → VK → Prop) (r : Rs) (dr : D) (Q : VK), Room k (A.deeper (envOfC x (defScope st) s.heap.objs.size g cdv)) → A.guards = some [] → hd r = some dr →
      Same F H → NoT F → Tbs K H → H c' = some (CodeO c' q) → (∀ E F1 H1 Q', Go K F H F1 H1 → PostG K mg F1 H1 Q' E r → tl E H1 Q') → (∀ v F2 H2, Go K F H F2 H2 → Rep K mg F2 v dr → Q v H2) →
      (∀ (W : WX) (pn : List (Addr × Obj)) (xe : Value → Shared → Prop) (p1 p2 : Pos), Takes ((cxOf (L2.CX P w) P w K mg base Ng x (defScope st) g cdv A outer s H (fun _ _ _ => False)).tr pn xe) W →
        PE ((cxOf (L2.CX P w) P w K mg base Ng x (defScope st) g cdv A outer s H (fun _ _ _ => False)).tr pn xe) (.Call (.Name a p1) [] [] p2) (fun σZ HZ Q => σZ[(0 : Nat)]? = some (some (.ref f)) ∧ HZ c' = some (CodeO c' q) ∧ tl (fun c d H => W c d σZ H) HZ Q)) →
      ∃ t, PSs (cxOf (L2.CX P w) P w K mg base Ng x (defScope st) g cdv A outer s H (fun _ _ _ => False)) (defBody st) t ∧ t { nx := fun _ H' => Q .non H', rt := Q } (L2.start Ng [.ref f]) H
def frE (ε : Env) : Env := ε.map fun s => match s with
  | some (.fr d) => some (.fr d)
  | _ => none
theorem frE_get {ε : Env} {i : Nat} {s : Slot} (h : (frE ε)[i]? = some (some s)) : ∃ d, s = .fr d ∧ ε[i]? = some (some (.fr d)) := by
  unfold frE at h
  rw [List.getElem?_map] at h
  cases e : ε[i]? with
  | none => rw [e] at h; cases h
  | some o =>
    rw [e] at h
    cases o with
    | none => cases h
    | some s' =>
      cases s' with
      | fr d => cases h; exact ⟨d, rfl, rfl⟩
      | ow l ds => cases h
abbrev bG (F H : Hp) : Bs := ⟨H, F, fun _ => False, fun _ _ _ _ => False, fun _ h => h.elim⟩
theorem OkV.frE {K : PySem.W.Frag} {mg : Str → Option Value} {B : Bs} {ε : Env} {σ : L2.St} {F H : Hp} (ok : OkV K mg B ε σ F H) (E : L2.St → XK) : OkV K mg { bG F H with E := E } (frE ε) σ F H := by
  refine ⟨ok.sub, Same.refl _, fun a _ h => h, fun a o h _ _ => h, fun a h => h, by unfold VL.frE; rw [List.length_map]; exact ok.len, fun i s e => ?_, fun i j l m ds es v hij e1 => ?_, ok.tab, ok.notb⟩
  · obtain ⟨d, rfl, e'⟩ := frE_get e
    exact ok.slot i _ e'
  · obtain ⟨d, z, _⟩ := frE_get e1
    cases z
theorem OkV.toGo {K : PySem.W.Frag} {mg : Str → Option Value} {E : L2.St → XK} {ε : Env} {σ : L2.St} {F H F2 H2 : Hp} (ok : OkV K mg { bG F H with E := E } ε σ F2 H2) : Go K F H F2 H2 :=
  ⟨ok.grow, ok.sub, ok.frame, ok.notb, ⟨fun a o h n => ok.keep a o h (fun z => z) n, ok.tab, ok.there⟩⟩
theorem Go.trans {K : PySem.W.Frag} {F H F1 H1 F2 H2 : Hp} (a : Go K F H F1 H1) (b : Go K F1 H1 F2 H2) : Go K F H F2 H2 :=
  ⟨a.grow.trans b.grow, b.sub, fun x h1 h2 => b.fr x (a.kp.there x h1) (a.fr x h1 h2), b.not, ⟨fun x o h n => b.kp.keep x o (a.kp.keep x o h n) n, b.kp.tab, fun x h => b.kp.there x (a.kp.there x h)⟩⟩
def eHeard (hd : Rs → Option D) (fe : Env → Option (Out D)) : Env → Option (Out D) := fun ε => match fe (frE ε) with
  | some (.ok d _) => (hd (.ok d)).map fun r => .ok r ε
  | some (.ex x _) => (hd (.error x)).map fun r => .ok r ε
  | none => none
def tHeard (K : PySem.W.Frag) (mg : Str → Option Value) (B : Bs) (hd : Rs → Option D) (fe : Env → Option (Out D)) : TE := fun σ H Q => ∃ ε F d, OkV K mg B ε σ F H ∧ eHeard hd fe ε = some (.ok d ε) ∧ ∀ v F2 H2, OkV K mg B ε σ F2 H2 → Same F F2 → Rep K mg F2 v d → Q v H2
section
variable {X : Cx} {B : Bs}
theorem lam_go {K : PySem.W.Frag} {F H H1 : Hp} (sub : Same F H) (nt : NoT F) (tb : Tbs K H) (e : ExtN H H1) (t : TbK H H1) (th : ∀ b, H b ≠ none → H1 b ≠ none) : Go K F H F H1 :=
  ⟨Same.refl _, fun a o h => e a o (sub a o h) fun ps z => nt a ps (by rw [h, z]), fun _ _ h => h, nt, ⟨fun a o h n => e a o h n, tb.trans t, th⟩⟩
theorem ve_heard {x : Str} {c P : Addr} {params : Arguments} {body : Expr} {scope : Scope} {p lpos pos : Pos} {hd : Rs → Option D} {fe : Env → Option (Out D)} {k j : Nat} (G : HeardB X.prog X.w X.K X.mg X.base k x hd) (hg : Gl X x) (TB : TabB X.base X.mg c P) (hcode : X.env.code = .ref c)
    (hn : LamN.tq lpos.line lpos.col = X.env.qual ++ "<lambda>") (hP : LamN.tb X.K P) (hr : Room (j + 2) X.A) (hk : k ≤ j + 1) (gd : X.A.guards = some []) (L : LamS X.env.scope scope)
    (hbody : ∀ (A : Around) (outer : List PySem.Env) (s : Shared) (H : Hp) (E : XK) (f c' : Addr) (B0 : Bs), Room j (A.deeper (lamEnv X scope s.heap.objs.size f c')) → A.guards = some [] → Tk (lamCx X A outer s H E scope f c') { B0 with E := fun _ => E } → ∃ t, VE (lamCx X A outer s H E scope f c') { B0 with E := fun _ => E } body t fe)
    (hbind : ∀ (q : Str) (cl : List (Str × Addr)) (pm cv ctv : Value), bindArgs (PySem.W.kla_fn "<lambda>" q params body scope cl pm cv ctv) ⟨[], []⟩ = pure [] := by intros; rfl) (hdef : defaultsOf params X.env = ([], []) := by rfl)
    (hdb : (x == ("__debug__" : Str)) = false := by decide) : VE X B (.Call (.Name x p) [.Lambda params body scope lpos] [] pos) (tHeard X.K X.mg B hd fe) (eHeard hd fe) := by
  refine ⟨⟨fun pins s σ H Q I h => ?_⟩, fun ε σ F H Q r ok e p => ?_⟩
  · obtain ⟨ε, F, dr, ok, ee, fin⟩ := h
    obtain ⟨g, a, st, oc, od, dV, kV, doc, pm, an, cdv, ct, osl, Ng, hm, hkp, lk, hcg, hb, Sg, hNg, hva, had, hac, core⟩ := G.ex
    refine wpAny_Call_Name_kw (ld_glob I hg hm ?_ hdb)
    refine PySem.W.callWith_K (h₀ := X.base) I.ok.mod.kin hkp ?_ (by rfl) (by rfl)
    show wpAny _ _ (spliced ((false, eval (.Lambda params body scope lpos) X.env) :: backTo pos (starEach [] X.env))) _ _ s
    refine Calls.spliced_cons (lam_new I TB hcode hn (ok.tab P hP) hdef (L.has I.ok) fun f c' pm' ctv H1 s' I1 eN tN th hf hfn hfr hco => ?_)
    refine Calls.spliced_nil ⟨I1.kIn, ?_⟩
    have g1 : Go X.K F H F H1 := lam_go ok.sub ok.notb ok.tab eN tN th
    have ok1 := ok.go g1
    obtain ⟨out, rr, ho, hrr, hdr⟩ : ∃ (out : Out D) (rr : Rs), fe (frE ε) = some out ∧ (match out with | .ok d _ => rr = .ok d | .ex x _ => rr = .error x) ∧ hd rr = some dr := by
      unfold eHeard at ee
      cases z : fe (frE ε) with
      | none => rw [z] at ee; cases ee
      | some out =>
        rw [z] at ee
        cases out with
        | ok d ε' =>
          obtain ⟨y, hy, e2⟩ := Option.map_eq_some_iff.mp ee
          cases e2
          exact ⟨_, .ok d, rfl, rfl, hy⟩
        | ex x ε' =>
          obtain ⟨y, hy, e2⟩ := Option.map_eq_some_iff.mp ee
          cases e2
          exact ⟨_, .error x, rfl, rfl, hy⟩
    let tb : XK → TE := fun E σ HZ Q' => ∃ (F2 : Hp) (ε2 : Env) (out : Out D), OkV X.K X.mg { bG F2 HZ with E := fun _ => E } ε2 σ F2 HZ ∧ fe ε2 = some out ∧ PostE X.K X.mg { bG F2 HZ with E := fun _ => E } σ F2 Q' out
    have body' : ∀ (A : Around) (outer : List PySem.Env) (s : Shared) (H : Hp) (E : XK), Room j (A.deeper (lamEnv X scope s.heap.objs.size f c')) → A.guards = some [] → PE (lamCx X A outer s H E scope f c') body (tb E) := fun A outer s H E hr2 gd2 => by
      refine ⟨fun pins2 s2 σ2 H2 Q2 I2 h2 => ?_⟩
      obtain ⟨F2, ε2, out2, ok2, e2, p2⟩ := h2
      obtain ⟨t, v⟩ := hbody A outer s H E f c' (bG F2 H2) hr2 gd2 (takes_of rfl rfl rfl rfl)
      exact v.pe.run pins2 s2 σ2 H2 Q2 I2 (v.den ε2 σ2 F2 H2 Q2 out2 ok2 e2 p2)
    have rc : codeAny (model X.prog X.w) X.A (.call (.ref g) ⟨[.ref f], []⟩) (CR (L2.CX X.prog X.w) X.stack X.prog X.w H1 s' Q (fun _ _ _ => False)) s' := by
      refine run_ofS (k := j + 1) (N := Ng) (ps := [a]) (us := [.ref f]) (vs := [.ref f]) lk hcg Sg hr I1.env0 (hb s' [.ref f] I1.kIn rfl) (.cons rfl .nil) rfl fun hr' => ?_
      refine core X.A X.stack s' H1 F f c' _ (fun E HZ Q' => tb E σ HZ Q') rr dr Q (hr'.mono hk) gd hdr g1.sub g1.not g1.kp.tab hco (fun E F2 H2 Q' g2 q2 => ?_) (fun v F2 H2 g2 rv => fin v F2 H2 (ok1.go g2) g2.grow rv)
        fun W pn xe p1 p2 tk => pe_act2 (i := 0) I1 L hf hfn hfr gd (hbind _ _ _ _ _) tk hr' (fun A outer s H E hr2 gd2 => body' A outer s H E hr2 gd2) hNg hva had hac
      refine ⟨F2, frE ε, out, (ok1.go g2).frE _, ho, ?_⟩
      cases out with
      | ok d ε' =>
        subst hrr
        exact fun v F3 H3 o s r => q2 v F3 H3 o.toGo r
      | ex x ε' =>
        subst hrr
        exact fun σ' F3 H3 C dd fs o s hm hx rf => q2 C dd fs F3 H3 o.toGo hm hx rf
    refine wpAny_call (codeAny_mono rc fun r s2 hq => ?_)
    cases r with
    | error e => exact (by obtain ⟨_, _, _, _, _, _, _, _, _, _, _, _, z⟩ := hq; exact z.elim)
    | ok fl =>
      cases fl with
      | ret u => exact I1.after hq
      | next => exact False.elim hq
      | brk => exact False.elim hq
      | cont => exact False.elim hq
  · have e0 := e
    unfold eHeard at e
    split at e
    · obtain ⟨y, hy, rfl⟩ := Option.map_eq_some_iff.mp e
      exact ⟨ε, F, y, ok, e0, p⟩
    · obtain ⟨y, hy, rfl⟩ := Option.map_eq_some_iff.mp e
      exact ⟨ε, F, y, ok, e0, p⟩
    · cases e
end
open Classical in
/-- ask(), ask in slot 0: it ends as r tells -/
noncomputable def eAsk (v0 : V) (r : Rs) : Env → Option (Out D) := fun ε => if ε[(0 : Nat)]? = some (some (.fr (.opq v0))) then some (match r with
  | .ok d => .ok d ε
  | .error x => .ex x ε) else none
theorem eAsk_at {v0 : V} {r : Rs} {ε : Env} (h : ε[(0 : Nat)]? = some (some (.fr (.opq v0)))) : eAsk v0 r ε = some (match r with
  | .ok d => .ok d ε
  | .error x => .ex x ε) := if_pos h
def clsAt (mg : Str → Option Value) (x : Str) : V := match mg x with
  | some (.ref C) => .ref C
  | _ => .non
theorem ve_clsM {X : Cx} {B : Bs} {x : Str} {p : Pos} (hg : Gl X x) (hm : ∃ C, X.mg x = some (.ref C)) (hd : (x == ("__debug__" : Str)) = false := by decide) : VE X B (.Name x p) (tC (clsAt X.mg x)) (eK (.cls x)) := by
  obtain ⟨C, hm⟩ := hm
  have e : clsAt X.mg x = .ref C := by unfold clsAt; rw [hm]
  rw [e]
  exact ve_glob (v := .ref C) hg hm rfl (fun _ => .cls hm) hd
section
variable {P : Program} {w : World} {K : PySem.W.Frag} {mg : Str → Option Value} {base : Heap}
theorem heard_of {x a : Str} {st : Stmt} {g : Addr} {fd : FuncData} {Ng : List Str} {k : Nat} {gS : V → Rs → SF} {hd : Rs → Option D} (F : FunV K x x st g fd) (hm : mg x = some (.ref g)) (hkp : PySem.W.keepIn K (.ref g) = true) (hb : L2.Binds K fd [a] []) (S : FnScope Ng [a] (defScope st)) (hNg : Ng[0]? = some a) (hva : Vis (defScope st) a)
    (hh : ∀ r dr, hd r = some dr → ∀ v0, ∃ ε', gS v0 r (some (.fr (.opq v0)) :: List.replicate (Ng.length - 1) none) = some (.rt dr ε'))
    (body : ∀ (cdv : Value) (A : Around) (outer : List PySem.Env) (s : Shared) (H : Hp) (B : Bs) (v0 : V) (r : Rs), Room k (A.deeper (envOfC x (defScope st) s.heap.objs.size g cdv)) → A.guards = some [] → Tk (cxOf (L2.CX P w) P w K mg base Ng x (defScope st) g cdv A outer s H (fun _ _ _ => False)) B →
      (∀ (W : WX) (pn : List (Addr × Obj)) (xe : Value → Shared → Prop) (p1 p2 : Pos), Takes ((cxOf (L2.CX P w) P w K mg base Ng x (defScope st) g cdv A outer s H (fun _ _ _ => False)).tr pn xe) W →
        ∃ t, VE ((cxOf (L2.CX P w) P w K mg base Ng x (defScope st) g cdv A outer s H (fun _ _ _ => False)).tr pn xe) (withW B W) (.Call (.Name a p1) [] [] p2) t (eAsk v0 r)) →
      ∃ t, VSs (cxOf (L2.CX P w) P w K mg base Ng x (defScope st) g cdv A outer s H (fun _ _ _ => False)) B (defBody st) t (gS v0 r))
    (had : (a == ("__debug__" : Str)) = false := by decide) (hac : (a == ("__classdict__" : Str)) = false := by decide) : HeardB P w K mg base k x hd := by
  obtain ⟨oc, od, dV, kV, doc, pm, an, cdv, ct, osl, rfl, lk, hcd⟩ := F.ex
  refine ⟨g, a, st, oc, od, dV, kV, doc, pm, an, cdv, ct, osl, Ng, hm, hkp, lk, hcd, hb, S, hNg, hva, had, hac, fun A outer s H F f c' q tl r dr Q hr gd hdr sub nt tb hco act fin actPE => ?_⟩
  obtain ⟨t, v⟩ := body cdv A outer s H (bG F H) (.ref f) r hr gd (takes_of rfl rfl rfl rfl) fun W pn xe p1 p2 tk => by
    refine ⟨_, actPE W pn xe p1 p2 tk, fun εZ σZ F1 H1 Q' out ok e p => ?_⟩
    unfold eAsk at e
    split at e
    · rename_i e0
      cases e
      obtain ⟨v, sv, so⟩ := ok.slot 0 _ e0
      have so : Rep K mg F1 v (.opq (.ref f)) := so
      cases so
      have g1 : Go K F H F1 H1 := OkV.toGo (E := fun σ c d H => W c d σ H) ok
      refine ⟨sv, g1.kp.keep _ _ hco codeO_ne, act _ F1 H1 Q' g1 ?_⟩
      cases r with
      | ok d => exact fun v F2 H2 g2 rv => p v F2 H2 (ok.go g2) g2.grow rv
      | error x => exact fun C dd fs F2 H2 g2 hm hx rf => p σZ F2 H2 C dd fs (ok.go g2) g2.grow hm hx rf
    · cases e
  refine ⟨t, v.ps, ?_⟩
  obtain ⟨ε', eg⟩ := hh r dr hdr (.ref f)
  have hN : Ng.length ≠ 0 := fun z => by
    rw [List.getElem?_eq_none (by omega)] at hNg
    cases hNg
  have ok : OkV K mg (bG F H) (some (.fr (.opq (.ref f))) :: List.replicate (Ng.length - 1) none) (L2.start Ng [.ref f]) F H := by
    refine ⟨sub, Same.refl _, fun a _ h => h, fun a o h _ _ => h, fun a h => h, ?_, fun i s e => ?_, fun i j l m ds es v hij e1 => ?_, tb, nt⟩
    · unfold L2.start; simp
    · cases i with
      | zero => cases e; exact ⟨.ref f, rfl, .opq _⟩
      | succ i =>
        rw [List.getElem?_cons_succ, List.getElem?_replicate] at e
        split at e <;> cases e
    · cases i with
      | zero => cases e1
      | succ i =>
        rw [List.getElem?_cons_succ, List.getElem?_replicate] at e1
        split at e1 <;> cases e1
  exact v.den _ _ F H _ _ ok eg fun v σ' F' H' o s r => fin v F' H' (OkV.toGo (E := fun _ _ _ _ => False) o) r
end
end VL
end

section
set_option Elab.async false
set_option linter.all false
set_option maxRecDepth 100000
set_option maxHeartbeats 4000000
/-! VLW: the law's end, with tables of code objects. -/
namespace VL
open PySem PySem.Spec PyProof.Rows L2
variable [LamN]
/-- the abstract heap at the law's call: the script (where it is not written), the tables -/
def atLaw (a : Addr) (u : Option HO) (Ps : List Addr) : Hp := fun b => if b ∈ Ps then some (.tbl #[]) else if b = a then u else none
def froLaw (a : Addr) (u : Option HO) : Hp := fun b => if b = a then u else none
theorem g_lawT {P : Program} {w : World} {K : PySem.W.Frag} {mg mb : Str → Option Value} {k : Nat} {fa a : Addr} {fd : FuncData} {x : Str} {sp : Sp} {s₁ : Shared} {vs : List Value} {ns : List Int} {cs : List (Addr × Addr)}
    (KX : K.In s₁.heap) (hns : s₁.heap.Ns mainGlobals mg) (hb : s₁.heap.Ns builtinsNs mb) (hbb : ∀ x : Str, x ≠ "__name__" → mb x = bootBuiltins x) (lim : s₁.heap.NoLimit) (hg : s₁.gens = #[])
    (hT : ∀ p ∈ cs, s₁.heap.get? p.2 = some { cls := .none, data := .fields #[] }) (nT : ∀ p ∈ cs, K.lookup p.2 = none) (C : ∀ p ∈ cs, PySem.W.CodeHd s₁.heap p.1 p.2)
    (hbm : ∃ (bm : Addr) (ob : Obj), mg "__builtins__" = some (.ref bm) ∧ bm ≠ builtinsNs ∧ s₁.heap.get? bm = some ob ∧ ob.cls = .type "module" ∧ ob.dict = some builtinsNs ∧ ob.data = .plain)
    (ha : s₁.heap.get? a = some { cls := .type "list", data := .seq vs.toArray }) (hi : IntsAre vs ns) (hl : ns.length ≤ sizeLine) (hr : Room k callerA)
    (F : ∀ base : Heap, K.In base → base.Ns mainGlobals mg → (∀ p ∈ cs, LamX.TabB base mg p.1 p.2) → FnG P w K mg base (L2.CX P w) k fa fd [x] sp) (hbind : ∀ (s : Shared) (u : Value), BindsTo s fd ⟨[u], []⟩ [(x, u)])
    (hsp : ∀ H F0 : Hp, Same F0 H → NoT F0 → (∀ p ∈ cs, H p.2 = some (.tbl #[])) → SqL K F0 a (ns.map V.int) → sp [.ref a] H (fun v _ => v = .bl true) fun _ _ _ => False) :
    codeAny (model P w) callerA (.call (.ref fa) ⟨[.ref a], []⟩) (fun r s' => r = .ok (.ret (.bool true)) ∧ OldK s₁.heap s'.heap ∧ s'.os = s₁.os ∧ AllBare s'.gens) s₁ := by
  have iv := vals_ints hi
  have tabs : ∀ b ∈ cs.map (·.2), s₁.heap.get? b = some { cls := .none, data := .fields #[] } := fun b hm => by
    obtain ⟨p, hp, rfl⟩ := List.mem_map.mp hm
    exact hT p hp
  have aT : a ∉ cs.map (·.2) := fun z => by
    have q := tabs a z
    rw [ha] at q
    cases (show Data.seq vs.toArray _ = Data.fields #[] from congrArg Obj.data (Option.some.inj q))
  have over : ∀ u : Option HO, (∀ v, u = some v → K.lookup a = none ∧ ∃ ob xs, v = .frz ob (.lst xs)) → SqL K (froLaw a u) a (ns.map V.int) → HOk P w (atLaw a u (cs.map (·.2))) s₁.heap →
      codeAny (model P w) callerA (.call (.ref fa) ⟨[.ref a], []⟩) (fun r s' => r = .ok (.ret (.bool true)) ∧ OldK s₁.heap s'.heap ∧ s'.os = s₁.os ∧ AllBare s'.gens) s₁ := by
    intro u hu sq hok
    generalize eH : atLaw a u (cs.map (·.2)) = H at hok
    have isP : ∀ p ∈ cs, H p.2 = some (.tbl #[]) := fun p hp => by
      rw [← eH]
      exact if_pos (List.mem_map.mpr ⟨p, hp, rfl⟩)
    have only : ∀ b v, H b = some v → (b ∈ cs.map (·.2)) ∨ (b = a ∧ K.lookup a = none ∧ ∃ ob xs, v = .frz ob (.lst xs)) := fun b v z => by
      rw [← eH] at z
      unfold atLaw at z
      split at z
      · exact .inl (by assumption)
      · split at z
        · rename_i e
          exact .inr ⟨e, hu v z⟩
        · cases z
    have sub : Same (froLaw a u) H := fun b v z => by
      rw [← eH]
      unfold froLaw at z
      unfold atLaw
      split at z
      · rename_i e
        rw [if_neg (by rw [e]; exact aT), if_pos e]; exact z
      · cases z
    have nt : NoT (froLaw a u) := fun b ps z => by
      unfold froLaw at z
      split at z
      · obtain ⟨_, ob, xs, e⟩ := hu _ z
        cases e
      · cases z
    have still : ∀ {b : Addr} {o : Obj}, s₁.heap.get? b = some o → (∀ v n, o.data ≠ .seq v n) → o.data ≠ .fields #[] → (hidT s₁.heap H).get? b = some o := fun {b o} e n1 n2 => hidT_get e (by
      cases z : H b with
      | none => rfl
      | some v =>
        rcases only b v z with hm | ⟨rfl, _⟩
        · rw [tabs b hm] at e; cases e; exact (n2 rfl).elim
        · rw [ha] at e; cases e; exact (n1 _ _ rfl).elim)
    have names : ∀ {b : Addr} {m : Str → Option Value}, s₁.heap.Ns b m → (hidT s₁.heap H).Ns b m := fun {b m} hn => by
      obtain ⟨o, es, ep, e, d, rest⟩ := hn
      exact ⟨o, es, ep, still e (fun v n z => by rw [d] at z; cases z) (fun z => by rw [d] at z; cases z), d, rest⟩
    have kin : K.In (hidT s₁.heap H) := fun b o e => hidT_get (KX b o e) (by
      cases z : H b with
      | none => rfl
      | some v =>
        rcases only b v z with hm | ⟨rfl, no, _⟩
        · obtain ⟨p, hp, rfl⟩ := List.mem_map.mp hm
          rw [nT p hp] at e; cases e
        · rw [no] at e; cases e)
    have mod : Mod K mg (hidT s₁.heap H) := by
      obtain ⟨mc, c1, c2⟩ := lim
      exact ⟨kin, names hns, ⟨mb, names hb, hbb⟩, ⟨mc, names c1, c2⟩⟩
    have tb : ∀ p ∈ cs, LamX.TabB (hidT s₁.heap H) mg p.1 p.2 := fun p hp => by
      refine ⟨?_, ?_, fun z => ?_⟩
      · obtain ⟨o, us, file, tf, flags, tg, inF, text, tt, e1, r1, r2, r3, r⟩ := C p hp
        refine ⟨o, us, file, tf, flags, tg, inF, text, tt, still e1 (fun v n z => ?_) (fun z => ?_), r1, r2, r3, r⟩
        · rw [r2] at z; cases z
        · rw [r2] at z; cases z; simp at r3
      · obtain ⟨bm, ob, b1, b2, b3, b4, b5, b6⟩ := hbm
        refine ⟨bm, ob, b1, b2, fun q => ?_, fun q => ?_, still b3 (fun v n z => ?_) (fun z => ?_), b4, b5, b6⟩
        · obtain ⟨o, es, ep, e, hd, _⟩ := hns
          rw [q, e] at b3; cases b3
          rw [hd] at b6; cases b6
        · rw [q, hT p hp] at b3; cases b3; cases b6
        · rw [b6] at z; cases z
        · rw [b6] at z; cases z
      · obtain ⟨o, es, ep, e, hd, _⟩ := hns
        rw [z, hT p hp] at e; cases e; cases hd
    have env : Env0 P w K mg (hidT s₁.heap H) callerA [] s₁ H := ⟨rfl, mod, fun _ _ e => of_hidT e, Nat.le_of_eq (hidT_size _ _), trivial, fun b z => (by cases z), hok, .of_eq hg⟩
    have main := (F _ kin (names hns) tb).go callerA hr rfl [] s₁ H ⟨[.ref a], []⟩ [.ref a] [.ref a] _ _ env (hbind s₁ (.ref a)) (.cons rfl .nil) (hsp H _ sub nt isP sq)
    refine codeAny_mono main fun res s' ends => ?_
    match res, ends with
    | .error e, ends => obtain ⟨_, _, _, _, _, _, _, _, _, _, _, _, z⟩ := ends; exact z.elim
    | .ok .next, ends => exact ends.elim
    | .ok .brk, ends => exact ends.elim
    | .ok .cont, ends => exact ends.elim
    | .ok (.ret r), ends =>
      obtain ⟨v, H', os, bare, un, hok', rv, q⟩ := ends
      have q : v = .bl true := q
      subst q
      obtain rfl : r = Value.bool true := rv
      have other : ∀ b o, b ∉ cs.map (·.2) → s₁.heap.get? b = some o → s'.heap.get? b = some o := fun b o nb e => by
        cases z : H b with
        | none => exact un.keep b o e z (by simp [frs]) (by simp)
        | some v =>
          rcases only b v z with hm | ⟨_, _, ob, xs, rfl⟩
          · exact absurd hm nb
          · have z' := un.frzs b ob _ z
            have e1 := (hok b _ z).1
            have e2 := (hok' b _ z').1
            rw [e] at e1; cases e1
            exact e2
      have table : ∀ p ∈ cs, ∃ more : Array Value, s'.heap.get? p.2 = some { cls := .none, data := .fields more } := fun p hp => by
        obtain ⟨more, z⟩ := un.tbls p.2 #[] (isP p hp)
        exact ⟨_, hok' p.2 _ z⟩
      refine ⟨rfl, ⟨fun b o e => ?_, fun b o e => ?_⟩, os, bare⟩
      · by_cases hb : b ∈ cs.map (·.2)
        · obtain ⟨p, hp, rfl⟩ := List.mem_map.mp hb
          obtain ⟨more, hm⟩ := table p hp
          rw [hT p hp] at e
          cases e
          exact .inr (.inl ⟨((C p hp).tab (hT p hp)).isCodeTable, rfl, #[], more, rfl, by rw [Array.empty_append]; exact hm⟩)
        · exact .inl (other b o hb e)
      · by_cases hb : b ∈ cs.map (·.2)
        · obtain ⟨p, hp, rfl⟩ := List.mem_map.mp hb
          obtain ⟨more, hm⟩ := table p hp
          exact ⟨_, hm⟩
        · exact ⟨o, other b o hb e⟩
  have okP : ∀ (u : Option HO), (∀ v, u = some v → ObjOk P w (atLaw a u (cs.map (·.2))) s₁.heap a v) → HOk P w (atLaw a u (cs.map (·.2))) s₁.heap := fun u h b v z => by
    have z0 := z
    unfold atLaw at z
    split at z
    · rename_i hm
      cases z
      exact tabs b hm
    · split at z
      · rename_i e
        subst e
        exact h v z
      · cases z
  cases hk : K.lookup a with
  | some o =>
    have e := KX a o hk
    rw [ha] at e; cases e
    exact over none (fun v z => nomatch z) (.inr ⟨_, vs.toArray, _, hk, rfl, rfl, rfl, by rw [List.size_toArray, hi.length]; exact hl, by simpa using iv⟩) (okP none fun v z => nomatch z)
  | none =>
    refine over (some (.frz { cls := .type "list", data := .seq vs.toArray } (.lst (ns.map V.int)))) (fun v z => by cases z; exact ⟨hk, _, _, rfl⟩) (.inl (.inr ⟨_, if_pos rfl⟩)) (okP _ fun v z => ?_)
    cases z
    exact ⟨ha, by rw [List.length_map]; exact hl, vs, _, iv, ha⟩
/-- the goal that k_head leaves -/
theorem g_walkT {l : PySem.W.OpenLaw} {k : Nat} {q : Program} {loose : List Str} {XP : (Str → Option Value) → Heap → Prop} {YP : World → Heap → Prop} {d : DefRec} {x : Str}
    (hn : l.most = some 63) (hdf : d.params.defaults = []) (hr : Room k callerA)
    (F : ∀ (w : World) (mg : Str → Option Value) (fa : Addr) (h : Heap), YP w h → h.Ns mainGlobals mg → mg d.name = some (.ref fa) →
      ∃ (K : PySem.W.Frag) (fd : FuncData) (cs : List (Addr × Addr)) (sp : Sp), K.In h ∧ (∀ p ∈ cs, h.get? p.2 = some { cls := .none, data := .fields #[] }) ∧ (∀ p ∈ cs, K.lookup p.2 = none) ∧ (∀ p ∈ cs, PySem.W.CodeHd h p.1 p.2) ∧
        (∀ (s : Shared) (u : Value), BindsTo s fd ⟨[u], []⟩ [(x, u)]) ∧ (∀ base : Heap, K.In base → base.Ns mainGlobals mg → (∀ p ∈ cs, LamX.TabB base mg p.1 p.2) → FnG l.prog w K mg base (L2.CX l.prog w) k fa fd [x] sp) ∧
        ∀ (H F0 : Hp) (a : Addr) (ns : List Int), ns.length ≤ 63 → (∀ z ∈ ns, Builtin.Int.intBits z ≤ 1048576) → Same F0 H → NoT F0 → (∀ p ∈ cs, H p.2 = some (.tbl #[])) → SqL K F0 a (ns.map V.int) → sp [.ref a] H (fun v _ => v = .bl true) fun _ _ _ => False) :
    PySem.W.WalkO q loose XP YP l.row.toRowW d [] (fun f vs => PySem.call f vs) := by
  refine Att.attach_callB hn hdf fun w s₀ s₁ mg mb fa o pm cd doc a vs ns G Y ho hd hcd hmg hobj hints hlen hbits hg => ?_
  obtain ⟨K, fd, cs, sp, KX, hT, nT, C, bd, main, hsp⟩ := F w mg fa _ Y G.T.g hmg
  exact g_lawT KX G.T.g G.T.b G.T.builtins G.T.nolimit hg hT nT C G.T.bmain hobj hints (Nat.le_trans hlen (by rw [sizeLine_eq]; decide)) hr main bd fun H F0 s n t sq => hsp H F0 a ns hlen hbits s n t sq
end VL
end

section
set_option Elab.async false
set_option linter.all false
set_option maxRecDepth 100000
set_option maxHeartbeats 4000000
/-! VLK: calls with keywords and defaults; defs that give a new list. -/
namespace VL
open PySem L2
variable [LamN]
/-- a call of the shape: n values by place, then keywords ks; g puts them, and the defaults, in order -/
def FnC (P : Program) (w : World) (K : PySem.W.Frag) (mg : Str → Option Value) (base : Heap) (k : Nat) (x : Str) (ps : List Str) (sp : Sp) (n : Nat) (ks : List Str) (gD : List D → List D → List D) : Prop :=
  ∃ (f : Addr) (fd : FuncData) (g : List Value → List Value → List Value) (gV : List V → List V → List V), FnG P w K mg base (L2.CX P w) k f fd ps sp ∧ mg x = some (.ref f) ∧ PySem.W.keepIn K (.ref f) = true ∧ KBn K fd ps n ks g gV ∧
    ∀ F vs ds zs es, ds.length = n → es.length = ks.length → RepL K mg F vs ds → RepL K mg F zs es → RepL K mg F (gV vs zs) (gD ds es)
theorem FnC.mono {P : Program} {w : World} {K : PySem.W.Frag} {mg : Str → Option Value} {base : Heap} {j k : Nat} {x : Str} {ps : List Str} {sp : Sp} {n : Nat} {ks : List Str} {gD : List D → List D → List D} (F : FnC P w K mg base j x ps sp n ks gD) (h : j ≤ k) : FnC P w K mg base k x ps sp n ks gD :=
  let ⟨f, fd, g, gV, a, r⟩ := F
  ⟨f, fd, g, gV, a.mono h, r⟩
theorem FnC.noX {P : Program} {w : World} {K : PySem.W.Frag} {mg : Str → Option Value} {base : Heap} {k m : Nat} {x : Str} {ps : List Str} {fn : List D → Option Rs} {n : Nat} {ks : List Str} {gD : List D → List D → List D} (F : FnC P w K mg base k x ps (spX K mg m fn) n ks gD) : FnC P w K mg base k x ps (spV K mg m (VL.noX fn)) n ks gD := by
  obtain ⟨f, fd, g, gV, G, r⟩ := F
  have imp : ∀ vs H Q E, spV K mg m (VL.noX fn) vs H Q E → spX K mg m fn vs H Q E := fun vs H Q E h => by
    obtain ⟨hl, F, ds, d, s, nt, tb, r, e, q⟩ := h
    unfold VL.noX at e
    split at e
    · rename_i d' e'
      cases e
      exact ⟨hl, F, ds, _, s, nt, tb, r, e', fun d z => by cases z; exact q, fun x z => (nomatch z)⟩
    · cases e
  exact ⟨f, fd, g, gV, ⟨fun vs H Q E h => G.len vs H Q E (imp vs H Q E h), fun A hr gd outer s H args us vs Q E e b v q => G.go A hr gd outer s H args us vs Q E e b v (imp vs H Q E q)⟩, r⟩
/-- the written arguments: n by place, then by keyword -/
structure VK2 (X : Cx) (B : Bs) (es : List Expr) (kws : List Keyword) (t tk : TA) (f1 f2 : Env → Option (Out (List D))) : Prop where
  pa : PA X es t
  pk : PK X kws tk
  d1 : DenA X.K X.mg B t f1
  d2 : DenA X.K X.mg B tk f2
section
variable {X : Cx} {B : Bs} {e : Expr} {es : List Expr} {kws : List Keyword} {t tk te : TA} {f1 f2 : Env → Option (Out (List D))} {p pos kpos : Pos} {nm : Option Str}
structure VKw (X : Cx) (B : Bs) (kws : List Keyword) (t : TA) (f : Env → Option (Out (List D))) : Prop where
  pk : PK X kws t
  den : DenA X.K X.mg B t f
theorem vk_nil : VKw X B [] tNil aNil := ⟨pk_nil, va_nil.den⟩
theorem vk_cons {te : TE} {fe : Env → Option (Out D)} (h : VE X B e te fe) (hr : VKw X B kws t f1) : VKw X B (⟨nm, e, kpos⟩ :: kws) (tCons te t) (aCons fe f1) := ⟨pk_cons h.pe hr.pk, fun ε σ F H Q r ok e p => by
  rcases bnd_some e with ⟨x, ε', e1, rfl⟩ | ⟨d, ε1, e1, e⟩
  · exact h.den ε σ F H _ _ ok e1 p
  refine h.den ε σ F H _ _ ok e1 fun v1 F1 H1 ok1 s1 r1 => ?_
  rcases bnd_some e with ⟨x, ε', e2, rfl⟩ | ⟨ds, ε2, e2, e⟩
  · exact hr.den ε1 σ F1 H1 _ _ ok1 e2 (XPost.mono p s1)
  refine hr.den ε1 σ F1 H1 _ _ ok1 e2 fun vs F2 H2 ok2 s2 r2 => ?_
  cases e
  exact p _ F2 H2 ok2 (s1.trans s2) (.cons (r1.mono s2) r2)⟩
def tCallC (n m : Nat) (sp : Sp) (gV : List V → List V → List V) (E : St → XK) (t tk : TA) : TE := fun σ H Q => t σ H fun vs H1 => tk σ H1 fun zs H2 => vs.length = n ∧ zs.length = m ∧ sp (gV vs zs) H2 Q (E σ)
theorem run_fnC {k n : Nat} {f : Addr} {fd : FuncData} {ps ks : List Str} {sp : Sp} {E : St → XK} {g : List Value → List Value → List Value} {gV : List V → List V → List V} {pins : List (Addr × Obj)} {σ : St} {H2 : Hp} {s2 : Shared} {us ws : List Value} {vs zs : List V} {Q : VK}
    (F : FnG X.prog X.w X.K X.mg X.base (L2.CX X.prog X.w) k f fd ps sp) (hr : Room k X.A) (gd : X.A.guards = some []) (hb : KBn X.K fd ps n ks g gV) (hx : PassesAt (L2.CX X.prog X.w) X σ (E σ))
    (I2 : Inv X pins σ H2 s2) (r : Vals vs us) (rz : Vals zs ws) (l1 : vs.length = n) (l2 : zs.length = ks.length) (q : sp (gV vs zs) H2 Q (E σ)) : wpAny (model X.prog X.w) X.A (call (.ref f) us (ks.zip ws)) (EP X pins σ Q) X.xe s2 := by
  have r2 := hb.rel r rz
  refine wpAny_call (codeAny_mono (F.go X.A hr gd X.stack s2 H2 ⟨us, ks.zip ws⟩ (g us ws) (gV vs zs) Q (E σ) I2.env0 (hb.to s2 us ws I2.kIn (r.length.symm.trans l1) (rz.length.symm.trans l2)) r2 q) fun r s' hq => ?_)
  cases r with
  | error e => exact hx pins H2 s2 e s' I2 hq
  | ok fl =>
    cases fl with
    | ret u => exact I2.after hq
    | next => exact False.elim hq
    | brk => exact False.elim hq
    | cont => exact False.elim hq
theorem pg_callC {k n : Nat} {f : Addr} {fd : FuncData} {ps ks : List Str} {sp : Sp} {E : St → XK} {x : Str} {g : List Value → List Value → List Value} {gV : List V → List V → List V}
    (F : FnG X.prog X.w X.K X.mg X.base (L2.CX X.prog X.w) k f fd ps sp) (hr : Room k X.A) (gd : X.A.guards = some []) (hg : Gl X x) (hm : X.mg x = some (.ref f)) (hk : PySem.W.keepIn X.K (.ref f) = true) (hb : KBn X.K fd ps n ks g gV) (hx : ∀ σ, PassesAt (L2.CX X.prog X.w) X σ (E σ))
    (ha : PA X (e :: es) t) (hkw : PK X kws tk) (hall : (backToKw pos (keywordEach kws X.env)).all (·.1.isSome) = true := by rfl) (hks : (backToKw pos (keywordEach kws X.env)).filterMap (·.1) = ks := by rfl)
    (hdb : (x == ("__debug__" : Str)) = false := by decide) (he : starEach (e :: es) X.env = (false, eval e X.env) :: starEach es X.env := by rfl)
    (hpl : ((backTo pos (starEach (e :: es) X.env)).any (·.1) || (backToKw pos (keywordEach kws X.env)).any (·.1.isNone)) = false := by rfl) :
    PE X (.Call (.Name x p) (e :: es) kws pos) (tCallC n ks.length sp gV E t tk) := by
  refine ⟨fun pins s σ H Q I h => ?_⟩
  refine wpAny_Call_Name_kw (ld_glob I hg hm ?_ hdb)
  refine PySem.W.callWith_KW (h₀ := X.base) I.ok.mod.kin hk hall (wpAny_mono (ha.run pos pins s σ H _ I h) (fun us s1 ⟨vs, H1, I1, r, q⟩ => ?_) fun _ _ z => z) hpl he
  refine wpAny_mono (hkw.run pos pins s1 σ H1 _ I1 q) (fun ws s2 ⟨zs, H2, I2, rz, l1, l2, q2⟩ => ⟨I2.kIn, ?_⟩) fun _ _ z => z
  rw [hks]
  exact run_fnC F hr gd hb (hx σ) I2 r rz l1 l2 q2
theorem pg_callC0 {k : Nat} {f : Addr} {fd : FuncData} {ps ks : List Str} {sp : Sp} {E : St → XK} {x : Str} {g : List Value → List Value → List Value} {gV : List V → List V → List V}
    (F : FnG X.prog X.w X.K X.mg X.base (L2.CX X.prog X.w) k f fd ps sp) (hr : Room k X.A) (gd : X.A.guards = some []) (hg : Gl X x) (hm : X.mg x = some (.ref f)) (hk : PySem.W.keepIn X.K (.ref f) = true) (hb : KBn X.K fd ps 0 ks g gV) (hx : ∀ σ, PassesAt (L2.CX X.prog X.w) X σ (E σ))
    (hkw : PK X kws tk) (hall : (backToKw pos (keywordEach kws X.env)).all (·.1.isSome) = true := by rfl) (hks : (backToKw pos (keywordEach kws X.env)).filterMap (·.1) = ks := by rfl)
    (hdb : (x == ("__debug__" : Str)) = false := by decide) (hpl : ((backTo pos (starEach [] X.env)).any (·.1) || (backToKw pos (keywordEach kws X.env)).any (·.1.isNone)) = false := by rfl) :
    PE X (.Call (.Name x p) [] kws pos) (tCallC 0 ks.length sp gV E tNil tk) := by
  refine ⟨fun pins s σ H Q I h => ?_⟩
  refine wpAny_Call_Name_kw (ld_glob I hg hm ?_ hdb)
  refine PySem.W.callWith_KW0 (h₀ := X.base) I.ok.mod.kin hk hall ?_ hpl
  refine wpAny_mono (hkw.run pos pins s σ H _ I h) (fun ws s2 ⟨zs, H2, I2, rz, l1, l2, q2⟩ => ⟨I2.kIn, ?_⟩) fun _ _ z => z
  rw [hks]
  exact run_fnC (us := []) (vs := []) F hr gd hb (hx σ) I2 .nil rz rfl l2 q2
/-- the data side -/
def eCallC (fn : List D → Option D) (n m : Nat) (gD : List D → List D → List D) (f1 f2 : Env → Option (Out (List D))) : Env → Option (Out D) := bnd f1 fun ds => bnd f2 fun zs => lift (if ds.length = n ∧ zs.length = m then fn (gD ds zs) else none)
def eCallCX (fn : List D → Option Rs) (n m : Nat) (gD : List D → List D → List D) (f1 f2 : Env → Option (Out (List D))) : Env → Option (Out D) := bnd f1 fun ds => bnd f2 fun zs ε => if ds.length = n ∧ zs.length = m then (match fn (gD ds zs) with
  | some (.ok d) => some (.ok d ε)
  | some (.error x) => some (.ex x ε)
  | none => none) else none
theorem den_callC {K : PySem.W.Frag} {mg : Str → Option Value} {n m q : Nat} {fn : List D → Option D} {gD : List D → List D → List D} {gV : List V → List V → List V} {E : St → XK} (hl : ∀ ds d, fn ds = some d → ds.length = q) (h1 : DenA K mg B t f1) (h2 : DenA K mg B tk f2)
    (hg : ∀ F vs ds zs es, ds.length = n → es.length = m → RepL K mg F vs ds → RepL K mg F zs es → RepL K mg F (gV vs zs) (gD ds es)) : Den K mg B (tCallC n m (spV K mg q fn) gV E t tk) (eCallC fn n m gD f1 f2) := fun ε σ F H Q r ok e p => by
  rcases bnd_some e with ⟨y, ε', e1, rfl⟩ | ⟨ds, ε1, e1, e⟩
  · exact h1 ε σ F H _ _ ok e1 p
  refine h1 ε σ F H _ _ ok e1 fun vs F1 H1 ok1 s1 r1 => ?_
  rcases bnd_some e with ⟨y, ε', e2, rfl⟩ | ⟨zs, ε2, e2, e⟩
  · exact h2 ε1 σ F1 H1 _ _ ok1 e2 (XPost.mono p s1)
  refine h2 ε1 σ F1 H1 _ _ ok1 e2 fun us F2 H2 ok2 s2 r2 => ?_
  obtain ⟨d, ed, rfl⟩ := lift_some e
  split at ed
  · rename_i hc
    have rr := hg F2 vs ds us zs hc.1 hc.2 (r1.mono s2) r2
    refine ⟨r1.length.trans hc.1, r2.length.trans hc.2, rr.length.trans (hl _ _ ed), F2, _, d, ok2.sub, ok2.notb, ok2.tab, rr, ed, fun v H' F' t1 t2 t3 tn t4 rv => ?_⟩
    exact p v F' H' (ok2.callA t1 t2 t3 tn t4) ((s1.trans s2).trans t1) rv
  · cases ed
theorem den_callCX {K : PySem.W.Frag} {mg : Str → Option Value} {n m q : Nat} {fn : List D → Option Rs} {gD : List D → List D → List D} {gV : List V → List V → List V} (hl : ∀ ds d, fn ds = some d → ds.length = q) (h1 : DenA K mg B t f1) (h2 : DenA K mg B tk f2)
    (hg : ∀ F vs ds zs es, ds.length = n → es.length = m → RepL K mg F vs ds → RepL K mg F zs es → RepL K mg F (gV vs zs) (gD ds es)) : Den K mg B (tCallC n m (spX K mg q fn) gV B.E t tk) (eCallCX fn n m gD f1 f2) := fun ε σ F H Q r ok e p => by
  rcases bnd_some e with ⟨y, ε', e1, rfl⟩ | ⟨ds, ε1, e1, e⟩
  · exact h1 ε σ F H _ _ ok e1 p
  refine h1 ε σ F H _ _ ok e1 fun vs F1 H1 ok1 s1 r1 => ?_
  rcases bnd_some e with ⟨y, ε', e2, rfl⟩ | ⟨zs, ε2, e2, e⟩
  · exact h2 ε1 σ F1 H1 _ _ ok1 e2 (XPost.mono p s1)
  refine h2 ε1 σ F1 H1 _ _ ok1 e2 fun us F2 H2 ok2 s2 r2 => ?_
  split at e
  · rename_i hc
    have rr := hg F2 vs ds us zs hc.1 hc.2 (r1.mono s2) r2
    split at e
    · rename_i d ed
      cases e
      refine ⟨r1.length.trans hc.1, r2.length.trans hc.2, rr.length.trans (hl _ _ ed), F2, _, _, ok2.sub, ok2.notb, ok2.tab, rr, ed, fun d' z v H' F' t1 t2 t3 tn t4 rv => ?_, fun x z => (nomatch z)⟩
      cases z
      exact p v F' H' (ok2.callA t1 t2 t3 tn t4) ((s1.trans s2).trans t1) rv
    · rename_i x ed
      cases e
      refine ⟨r1.length.trans hc.1, r2.length.trans hc.2, rr.length.trans (hl _ _ ed), F2, _, _, ok2.sub, ok2.notb, ok2.tab, rr, ed, fun d' z => (nomatch z), fun x' z C dd fs H' F' t1 t2 t3 tn t4 hm hx rf => ?_⟩
      cases z
      exact p σ F' H' C dd fs (ok2.callA t1 t2 t3 tn t4) ((s1.trans s2).trans t1) hm hx rf
    · cases e
  · cases e
theorem ve_callC {x : Str} {k n m q : Nat} {ps ks : List Str} {fn : List D → Option D} {gD : List D → List D → List D} (G : FnC X.prog X.w X.K X.mg X.base k x ps (spV X.K X.mg q fn) n ks gD) (hl : ∀ ds d, fn ds = some d → ds.length = q) (hr : Room k X.A) (gd : X.A.guards = some []) (hg : Gl X x) (ha : VA X B (e :: es) t f1) (hkw : VKw X B kws tk f2) (hm2 : ks.length = m := by rfl)
    (hall : (backToKw pos (keywordEach kws X.env)).all (·.1.isSome) = true := by rfl) (hks : (backToKw pos (keywordEach kws X.env)).filterMap (·.1) = ks := by rfl)
    (hdb : (x == ("__debug__" : Str)) = false := by decide) (he : starEach (e :: es) X.env = (false, eval e X.env) :: starEach es X.env := by rfl)
    (hpl : ((backTo pos (starEach (e :: es) X.env)).any (·.1) || (backToKw pos (keywordEach kws X.env)).any (·.1.isNone)) = false := by rfl) :
    ∃ tt, VE X B (.Call (.Name x p) (e :: es) kws pos) tt (eCallC fn n m gD f1 f2) := by
  subst hm2
  obtain ⟨f, fd, g, gV, F, hm, hk, hb, hgg⟩ := G
  exact ⟨_, pg_callC (E := fun _ => E0) F hr gd hg hm hk hb (fun σ pins H s e s' I h => pass_no pins σ H s e s' I h) ha.pa hkw.pk hall hks hdb he hpl, den_callC hl ha.den hkw.den hgg⟩
theorem ve_callC0 {x : Str} {k m q : Nat} {ps ks : List Str} {fn : List D → Option D} {gD : List D → List D → List D} (G : FnC X.prog X.w X.K X.mg X.base k x ps (spV X.K X.mg q fn) 0 ks gD) (hl : ∀ ds d, fn ds = some d → ds.length = q) (hr : Room k X.A) (gd : X.A.guards = some []) (hg : Gl X x) (hkw : VKw X B kws tk f2) (hm2 : ks.length = m := by rfl)
    (hall : (backToKw pos (keywordEach kws X.env)).all (·.1.isSome) = true := by rfl) (hks : (backToKw pos (keywordEach kws X.env)).filterMap (·.1) = ks := by rfl)
    (hdb : (x == ("__debug__" : Str)) = false := by decide) (hpl : ((backTo pos (starEach [] X.env)).any (·.1) || (backToKw pos (keywordEach kws X.env)).any (·.1.isNone)) = false := by rfl) :
    ∃ tt, VE X B (.Call (.Name x p) [] kws pos) tt (eCallC fn 0 m gD aNil f2) := by
  subst hm2
  obtain ⟨f, fd, g, gV, F, hm, hk, hb, hgg⟩ := G
  exact ⟨_, pg_callC0 (E := fun _ => E0) F hr gd hg hm hk hb (fun σ pins H s e s' I h => pass_no pins σ H s e s' I h) hkw.pk hall hks hdb hpl, den_callC hl va_nil.den hkw.den hgg⟩
theorem ve_callCX {x : Str} {k n m q : Nat} {ps ks : List Str} {fn : List D → Option Rs} {gD : List D → List D → List D} (G : FnC X.prog X.w X.K X.mg X.base k x ps (spX X.K X.mg q fn) n ks gD) (hl : ∀ ds d, fn ds = some d → ds.length = q) (tk0 : Tk X B) (hr : Room k X.A) (gd : X.A.guards = some []) (hg : Gl X x) (ha : VA X B (e :: es) t f1) (hkw : VKw X B kws tk f2) (hm2 : ks.length = m := by rfl)
    (hall : (backToKw pos (keywordEach kws X.env)).all (·.1.isSome) = true := by rfl) (hks : (backToKw pos (keywordEach kws X.env)).filterMap (·.1) = ks := by rfl)
    (hdb : (x == ("__debug__" : Str)) = false := by decide) (he : starEach (e :: es) X.env = (false, eval e X.env) :: starEach es X.env := by rfl)
    (hpl : ((backTo pos (starEach (e :: es) X.env)).any (·.1) || (backToKw pos (keywordEach kws X.env)).any (·.1.isNone)) = false := by rfl) :
    ∃ tt, VE X B (.Call (.Name x p) (e :: es) kws pos) tt (eCallCX fn n m gD f1 f2) := by
  subst hm2
  obtain ⟨f, fd, g, gV, F, hm, hk, hb, hgg⟩ := G
  exact ⟨_, pg_callC F hr gd hg hm hk hb (fun σ => passAt tk0 σ) ha.pa hkw.pk hall hks hdb he hpl, den_callCX hl ha.den hkw.den hgg⟩
/-- what an expression does, told by its data function -/
def tSemE (K : PySem.W.Frag) (mg : Str → Option Value) (B : Bs) (f : Env → Option (Out D)) : TE := fun σ H Q => ∃ ε F r, OkV K mg B ε σ F H ∧ f ε = some r ∧ PostE K mg B σ F Q r
theorem VE.toSem {X : Cx} {B : Bs} {e : Expr} {f : Env → Option (Out D)} (h : ∃ t, VE X B e t f) : VE X B e (tSemE X.K X.mg B f) f := by
  obtain ⟨t, v⟩ := h
  exact ⟨⟨fun pins s σ H Q I ⟨ε, F, r, ok, e, p⟩ => v.pe.run pins s σ H Q I (v.den ε σ F H Q r ok e p)⟩, fun ε σ F H Q r ok e p => ⟨ε, F, r, ok, e, p⟩⟩
theorem vc_call {x : Str} {k n m q : Nat} {ps ks : List Str} {fn : List D → Option D} {gD : List D → List D → List D} (G : FnC X.prog X.w X.K X.mg X.base k x ps (spV X.K X.mg q fn) n ks gD) (hl : ∀ ds d, fn ds = some d → ds.length = q) (hr : Room k X.A) (gd : X.A.guards = some []) (hg : Gl X x) (ha : VA X B (e :: es) t f1) (hkw : VKw X B kws tk f2) (hm2 : ks.length = m := by rfl)
    (hall : (backToKw pos (keywordEach kws X.env)).all (·.1.isSome) = true := by rfl) (hks : (backToKw pos (keywordEach kws X.env)).filterMap (·.1) = ks := by rfl)
    (hdb : (x == ("__debug__" : Str)) = false := by decide) (he : starEach (e :: es) X.env = (false, eval e X.env) :: starEach es X.env := by rfl)
    (hpl : ((backTo pos (starEach (e :: es) X.env)).any (·.1) || (backToKw pos (keywordEach kws X.env)).any (·.1.isNone)) = false := by rfl) :
    VE X B (.Call (.Name x p) (e :: es) kws pos) (tSemE X.K X.mg B (eCallC fn n m gD f1 f2)) (eCallC fn n m gD f1 f2) := VE.toSem (ve_callC G hl hr gd hg ha hkw hm2 hall hks hdb he hpl)
theorem vc_call0 {x : Str} {k m q : Nat} {ps ks : List Str} {fn : List D → Option D} {gD : List D → List D → List D} (G : FnC X.prog X.w X.K X.mg X.base k x ps (spV X.K X.mg q fn) 0 ks gD) (hl : ∀ ds d, fn ds = some d → ds.length = q) (hr : Room k X.A) (gd : X.A.guards = some []) (hg : Gl X x) (hkw : VKw X B kws tk f2) (hm2 : ks.length = m := by rfl)
    (hall : (backToKw pos (keywordEach kws X.env)).all (·.1.isSome) = true := by rfl) (hks : (backToKw pos (keywordEach kws X.env)).filterMap (·.1) = ks := by rfl)
    (hdb : (x == ("__debug__" : Str)) = false := by decide) (hpl : ((backTo pos (starEach [] X.env)).any (·.1) || (backToKw pos (keywordEach kws X.env)).any (·.1.isNone)) = false := by rfl) :
    VE X B (.Call (.Name x p) [] kws pos) (tSemE X.K X.mg B (eCallC fn 0 m gD aNil f2)) (eCallC fn 0 m gD aNil f2) := VE.toSem (ve_callC0 G hl hr gd hg hkw hm2 hall hks hdb hpl)
theorem vc_callX {x : Str} {k n m q : Nat} {ps ks : List Str} {fn : List D → Option Rs} {gD : List D → List D → List D} (G : FnC X.prog X.w X.K X.mg X.base k x ps (spX X.K X.mg q fn) n ks gD) (hl : ∀ ds d, fn ds = some d → ds.length = q) (tk0 : Tk X B) (hr : Room k X.A) (gd : X.A.guards = some []) (hg : Gl X x) (ha : VA X B (e :: es) t f1) (hkw : VKw X B kws tk f2) (hm2 : ks.length = m := by rfl)
    (hall : (backToKw pos (keywordEach kws X.env)).all (·.1.isSome) = true := by rfl) (hks : (backToKw pos (keywordEach kws X.env)).filterMap (·.1) = ks := by rfl)
    (hdb : (x == ("__debug__" : Str)) = false := by decide) (he : starEach (e :: es) X.env = (false, eval e X.env) :: starEach es X.env := by rfl)
    (hpl : ((backTo pos (starEach (e :: es) X.env)).any (·.1) || (backToKw pos (keywordEach kws X.env)).any (·.1.isNone)) = false := by rfl) :
    VE X B (.Call (.Name x p) (e :: es) kws pos) (tSemE X.K X.mg B (eCallCX fn n m gD f1 f2)) (eCallCX fn n m gD f1 f2) := VE.toSem (ve_callCX G hl tk0 hr gd hg ha hkw hm2 hall hks hdb he hpl)
end

/-! ### a def whose body is one return of a new list -/
def spN (K : PySem.W.Frag) (mg : Str → Option Value) (n : Nat) (fn : List D → Option (List D)) : Sp := fun vs H Q _ => vs.length = n ∧ ∃ F ds xs, Same F H ∧ NoT F ∧ Tbs K H ∧ RepL K mg F vs ds ∧ fn ds = some xs ∧
  ∀ p us H' F', Same F F' → Same F' H' → (∀ a, H a ≠ none → F a = none → F' a = none) → NoT F' → Kp K H H' → H' p = none → RepL K mg F' us xs → Q (.ref p) (upd H' p (.lst us))
def fnN (N n : Nat) (f : Env → Option (Out (List D))) : List D → Option (List D) := fun ds => if ds.length = n then match f (envV N n ds) with
  | some (.ok xs _) => some xs
  | _ => none
  else none
theorem fnN_len {N n : Nat} {f : Env → Option (Out (List D))} : ∀ ds d, fnN N n f ds = some d → ds.length = n := fun ds d h => by
  unfold fnN at h
  split at h
  · assumption
  · cases h
def nCall (fn : List D → Option (List D)) (bs : List Nat) (fs : Env → Option (Out (List D))) : Env → Option (Out (List D)) := bnd fs fun ds ε => (fn ds).bind fun d => if bs.all (isFr ε) = true then some (.ok d ε) else none
section
variable {X : Cx} {B : Bs} {e : Expr} {es : List Expr} {ts : TA} {fs : Env → Option (Out (List D))} {bs : List Nat} {p pos : Pos}
theorem vn_call {x : Str} {k : Nat} {ps : List Str} {n : Nat} {fn : List D → Option (List D)} (G : FnB X.prog X.w X.K X.mg X.base k x ps (spN X.K X.mg n fn)) (hl : ∀ ds d, fn ds = some d → ds.length = n) (hr : Room k X.A) (gd : X.A.guards = some []) (hg : Gl X x) (ha : VB X B (e :: es) bs ts fs) (hdb : (x == ("__debug__" : Str)) = false := by decide)
    (he : starEach (e :: es) X.env = (false, eval e X.env) :: starEach es X.env := by rfl) (hpl : (backTo pos (starEach es X.env)).any (·.1) = false := by rfl) :
    VN X B (.Call (.Name x p) (e :: es) [] pos) (tCall (spN X.K X.mg n fn) [] E0 ts) (nCall fn bs fs) := by
  obtain ⟨f, fd, F, hm, hk, hb⟩ := G
  refine ⟨pg_call F hr gd hg hm hk hb .nil pass_no ha.pa hdb he hpl, fun ε σ F H Q q ok e p => ?_⟩
  rcases bnd_some e with ⟨y, ε', e1, rfl⟩ | ⟨ds, ε1, e1, e⟩
  · exact ha.den ε σ F H _ _ ok e1 p
  refine ha.den ε σ F H _ _ ok e1 fun vs F2 H2 Fc ok2 s2 s3 s4 n r2 r2' => ?_
  obtain ⟨d, ed, e⟩ := Option.bind_eq_some_iff.mp e
  split at e
  · rename_i hfr
    cases e
    rw [List.append_nil]
    exact ⟨r2.length.trans (hl ds d ed), F2, ds, d, ok2.sub, ok2.notb, ok2.tab, r2' hfr, ed, fun q us H' F' t1 t2 t3 tn t4 hq rv => p q us F' H' (ok2.callA t1 t2 t3 tn t4) (s2.trans t1) hq rv⟩
  · cases e
end
section
variable {P : Program} {w : World} {K : PySem.W.Frag} {mg : Str → Option Value} {base : Heap}
theorem fn_new {x qual : Str} {st : Stmt} {f : Addr} {fd : FuncData} {N ps : List Str} {k n : Nat} {g : Env → Option (Out (List D))} (F : FunV K x qual st f fd) (S : FnScope N ps (defScope st)) (hn : ps.length = n) {e : Expr} {rp : Pos} (hb : defBody st = [.Return (some e) rp])
    (body : ∀ (cdv : Value) (A : Around) (outer : List PySem.Env) (s : Shared) (H : Hp) (E : XK) (B : Bs), fd.code = cdv → Room k (A.deeper (PyProof.Rows.envOfC qual (defScope st) s.heap.objs.size f cdv)) → A.guards = some [] →
      ∃ t, VN (cxOf (L2.CX P w) P w K mg base N qual (defScope st) f cdv A outer s H E).nox B e t g) : FnG P w K mg base (L2.CX P w) (k + 1) f fd ps (spN K mg n (fnN N.length n g)) := by
  refine g_def F S (fun vs H Q E h => h.1.trans hn.symm) fun cdv A outer s H vs Q E hcd hr gd h => ?_
  obtain ⟨hl, F0, ds, xs, sub, nt, tb, rl, ed, post⟩ := h
  obtain ⟨t, v⟩ := body cdv A outer s H E (bV F0 H) hcd hr gd
  rw [hb]
  refine ⟨_, (pss_one (ps_ret v.pe)).nox, ?_⟩
  have hd : ds.length = n := by rw [← rl.length]; exact hl
  have ok : OkV K mg (bV F0 H) (envV N.length n ds) (L2.start N vs) F0 H := by
    refine ⟨sub, Same.refl _, fun a _ h => h, fun a o h _ _ => h, fun a h => h, ?_, fun i s e => ?_, fun i j l m ds es v hij e1 => ?_, tb, nt⟩
    · unfold envV L2.start; simp [hd, hl]
    · obtain ⟨d, rfl, e'⟩ := envV_get e
      obtain ⟨u, eu, ru⟩ := rl.get e'
      exact ⟨u, start_get eu, ru⟩
    · obtain ⟨d, z, _⟩ := envV_get e1
      cases z
  unfold fnN at ed
  rw [if_pos hd] at ed
  split at ed
  · rename_i d' ε' eg
    cases ed
    exact v.den _ _ F0 H _ _ ok eg fun q us F' H' o s hq r => post q us H' F' s o.sub o.frame o.notb ⟨fun b u e n => o.keep b u e (fun z => z) n, o.tab, o.there⟩ hq r
  · cases ed
end
end VL
end

section
set_option Elab.async false
set_option linter.all false
set_option maxRecDepth 100000
set_option maxHeartbeats 4000000
/-! VLR: repr. -/
namespace VL
open PySem PySem.Spec PyProof.Rows L2
variable [LamN]
def rRepr (K : PySem.W.Frag) : List V → Hp → VK → Prop := fun xs H Q => ∃ v p, xs = [v] ∧ Dp K H v p ∧ p.showable = true ∧ p.hasDict = false ∧ p.depth ≤ 100 ∧ p.shown.length ≤ sizeLine ∧ Q (.str p.shown) H
theorem call_repr {X : Cx} (gd : X.A.guards = some []) (hu : X.A.units + 200 < cLine) : CallR X (.builtin "repr") (rRepr X.K) := by
  intro pins s σ H xs us Q I r h
  obtain ⟨v, p, rfl, dp, hs, hd, hdep, hl, q⟩ := h
  obtain ⟨u, rfl, ru⟩ := vals1 r
  obtain ⟨as, rd⟩ := Dp.reads I p v u dp ru
  have fin : ∀ (s' : Shared) (t : Tok), Inv X pins σ H s' → EP X pins σ Q (.str p.shown t) s' := fun s' t J => ⟨.str p.shown, H, J, ⟨t, rfl⟩, q⟩
  cases dp with
  | non =>
    cases ru
    rw [show (PyData.none).shown = ("None" : Str) by simp only [PyData.shown]] at fin
    exact PySem.P.repr_of_none (fin _ _ (I.tok _))
  | bl b =>
    cases ru
    rw [show (PyData.bool b).shown = (if b then ("True" : Str) else "False") by simp only [PyData.shown]] at fin
    refine PySem.P.repr_of_bool ?_
    cases b <;> exact fin _ _ (I.tok _)
  | int i =>
    obtain ⟨t, rfl⟩ := ru
    rw [show (PyData.int i).shown = ((toString i : String) : Str) by simp only [PyData.shown]] at fin
    exact PySem.P.repr_of_int (by simpa [PyData.showable] using hs) (fin _ _ (I.tok _))
  | str x =>
    obtain ⟨t, rfl⟩ := ru
    rw [show (PyData.str x).shown = reprText x by simp only [PyData.shown]] at fin hl
    exact PySem.P.repr_of_str (fin _ _ (I.tok _)) hl
  | lst _ _ =>
    cases ru
    exact PySem.repr_of_reads' rd hs (fun z => by rw [hd] at z; cases z) gd (by omega) (fun _ _ e => e) (fun h' t tk k => fin _ _ (I.kept k)) hl
  | tup _ _ =>
    cases ru
    exact PySem.repr_of_reads' rd hs (fun z => by rw [hd] at z; cases z) gd (by omega) (fun _ _ e => e) (fun h' t tk k => fin _ _ (I.kept k)) hl
def bRepr : List D → Option D
  | [d] => match toPy d with
    | some p => if p.showable = true ∧ p.hasDict = false ∧ p.depth ≤ 100 ∧ p.shown.length ≤ sizeLine then some (.str p.shown) else none
    | none => none
  | _ => none
theorem cd_repr {K : PySem.W.Frag} {mg : Str → Option Value} : CallH K mg (rRepr K) bRepr := fun H vs ds d Q r e q => by
  unfold bRepr at e
  split at e
  · rename_i x
    split at e
    · rename_i p ep
      split at e
      · rename_i hc
        cases e
        obtain ⟨v, rfl, r1⟩ : ∃ v, vs = [v] ∧ Rep K mg H v x := by
          cases r with | cons a b => cases b; exact ⟨_, rfl, a⟩
        exact ⟨v, p, rfl, toPy_dp r1 ep, hc.1, hc.2.1, hc.2.2.1, hc.2.2.2, q _ fun _ => .str _⟩
      · cases e
    · cases e
  · cases e
end VL
namespace VL
open PySem L2
variable [LamN]
theorem ve_ask {X : Cx} {B : Bs} {e : Expr} {f : VL.Env → Option (Out D)} (h : ∃ t, VE X B e t f) : VE X B e (tSemE X.K X.mg B f) f := VE.toSem h
theorem units200 {k : Nat} {A : Around} (r : Room k A) : A.units + 200 < cLine := by have := r.un; omega
end VL
namespace VL
open PySem L2
def clsV (mg : Str → Option Value) (x : Str) : Value := match mg x with
  | some v => v
  | none => .none
theorem cls_of {mg : Str → Option Value} {x : Str} (h : ∃ C, mg x = some (.ref C)) : mg x = some (clsV mg x) := by
  obtain ⟨C, h⟩ := h
  unfold clsV
  rw [h]
end VL
namespace VL
open PySem L2
variable [LamN]
section
variable {X : Cx} {B : Bs} {e : Expr} {es : List Expr} {ts : TA} {fs : VL.Env → Option (Out (List D))} {bs : List Nat} {p pos : Pos} {P : Program} {w : World} {K : PySem.W.Frag} {mg : Str → Option Value} {base : Heap}
theorem ve_callB {x : Str} {k : Nat} {ps : List Str} {n : Nat} {fn : List D → Option D} (G : FnB P w K mg base k x ps (spV K mg n fn)) (hl : ∀ ds d, fn ds = some d → ds.length = n) (hr : Room k X.A) (gd : X.A.guards = some []) (hg : Gl X x) (ha : VB X B (e :: es) bs ts fs)
    (hX : X.prog = P ∧ X.w = w ∧ X.K = K ∧ X.mg = mg ∧ X.base = base := by exact ⟨rfl, rfl, rfl, rfl, rfl⟩) (hdb : (x == ("__debug__" : Str)) = false := by decide)
    (he : starEach (e :: es) X.env = (false, eval e X.env) :: starEach es X.env := by rfl) (hpl : (backTo pos (starEach es X.env)).any (·.1) = false := by rfl) :
    VE X B (.Call (.Name x p) (e :: es) [] pos) (tCall (spV K mg n fn) [] E0 ts) (eCall fn bs fs) := by
  obtain ⟨rfl, rfl, rfl, rfl, rfl⟩ := hX
  exact ve_call G hl hr gd hg ha hdb he hpl
theorem ve_callMB {x y : Str} {py : Pos} {k : Nat} {ps : List Str} {n : Nat} {fn : List D → List D → Option (D × List D)} (i : Nat) (G : FnB P w K mg base k x ps (spM K mg n fn)) (hl : ∀ cs ds r, fn cs ds = some r → ds.length = n) (hr : Room k X.A) (gd : X.A.guards = some []) (hg : Gl X x) (ha : VA X B es ts fs)
    (hX : X.prog = P ∧ X.w = w ∧ X.K = K ∧ X.mg = mg ∧ X.base = base := by exact ⟨rfl, rfl, rfl, rfl, rfl⟩)
    (hN : X.N[i]? = some y := by rfl) (hv : Vis X.env.scope y := by first | exact Or.inl rfl | exact Or.inr (Or.inl rfl) | exact Or.inr (Or.inr rfl)) (hd : (y == ("__debug__" : Str)) = false := by decide) (hcd : (y == ("__classdict__" : Str)) = false := by decide)
    (hdb : (x == ("__debug__" : Str)) = false := by decide) (he : starEach (.Name y py :: es) X.env = (false, eval (.Name y py) X.env) :: starEach es X.env := by rfl) (hpl : (backTo pos (starEach es X.env)).any (·.1) = false := by rfl) :
    VE X B (.Call (.Name x p) (.Name y py :: es) [] pos) (tCall (spM K mg n fn) [] E0 (tCons (tVar i) ts)) (eCallM i fn fs) := by
  obtain ⟨rfl, rfl, rfl, rfl, rfl⟩ := hX
  exact ve_callM i G hl hr gd hg ha hN hv hd hcd hdb he hpl
end
end VL
end

section
set_option Elab.async false
set_option linter.all false
set_option maxRecDepth 100000
set_option maxHeartbeats 4000000
/-! VLH: the head's facts for the layer: defs, own exceptions. -/
namespace VL
open PySem PySem.Spec PyProof.Rows L2 NdefX He
/-- an own exception: its class, the def of its __init__ -/
structure ExD where
  x : Str
  st : Stmt
def initAt (K : PySem.W.Frag) (x : Str) : Addr := ma K (ga K x) "__init__"
abbrev InW : Type := Option (Str × Str × Arguments × FuncBody × Scope × Addr × List Str × Addr)
def initW (K : PySem.W.Frag) (x : Str) : InW := match K.lookup (initAt K x) with
  | some ⟨_, _, .func fd, _⟩ => some (fd.name, fd.qualname, fd.params, fd.body, fd.scope, fd.globals, fd.closure.map (·.1), fd.builtins)
  | _ => none
def ExD.val (d : ExD) : InW := some ("__init__", d.x ++ ".__init__", defArgs d.st, .stmts (defBody d.st), defScope d.st, mainGlobals, ["__class__"], builtinsNs)
def initB (file : Str) (K : PySem.W.Frag) (x : Str) : Bool := match K.lookup (initAt K x) with
  | some ⟨_, _, .func fd, _⟩ => (match fd.defaults, fd.kwdefaults, fd.annotations, fd.code, fd.closure with
    | .none, .none, none, .ref c, [(_, cc)] => PySem.W.codeIn K (.ref c) fd.qualname && (match K.lookup cc with
      | some ⟨_, _, .cell (some (.ref C)), _⟩ => C == ga K x
      | _ => false) && (match K.lookup c with
      | some ⟨_, _, .fields vs, _⟩ => (match (vs[2]? : Option Value) with
        | some (.str f _) => file == f
        | _ => false)
      | _ => false)
    | _, _, _, _, _ => false)
  | _ => false
def oexB (K : PySem.W.Frag) (x : Str) : Bool := (match K.lookup (ga K x) with
  | some ⟨.type "type", _, .cls cd, sl⟩ => (match cd.mro, sl.toList with
    | .ref C' :: bm, [_, _, _, _, some (.builtin n), _] => C' == ga K x && n == "ValueError.__new__" && !cd.hasDel && cd.hasDict && PySem.HandSPX.refsVE bm
    | _, _ => false)
  | _ => false) && (eqO (PySem.W.findIn K (.ref (ga K x)) "__setattr__") (some (some (.builtin "object.__setattr__"))) && (decide (PySem.W.subIn K (.ref (ga K x)) (.type "BaseException") = some true) && (decide (PySem.W.typeIn K (.ref (ga K x)) = some (.type "type")) && PySem.W.keepIn K (.ref (ga K x)))))
theorem oex_ok {K : PySem.W.Frag} {x : Str} (h : oexB K x = true) : OexC K (ga K x) := by
  unfold oexB at h
  obtain ⟨h1, h⟩ := ba h
  obtain ⟨h2, h⟩ := ba h
  obtain ⟨h3, h⟩ := ba h
  obtain ⟨h4, h5⟩ := ba h
  refine ⟨?_, eqO_ok h2, of_decide_eq_true h3, of_decide_eq_true h4, h5⟩
  split at h1
  · rename_i dd cd sl ho
    split at h1
    · rename_i C' bm k0 k1 k2 k3 n k5 hm hs
      simp only [Bool.and_eq_true, beq_iff_eq, Bool.not_eq_true'] at h1
      obtain ⟨⟨⟨⟨rfl, rfl⟩, hdel⟩, hdct⟩, ht⟩ := h1
      obtain ⟨nm, bs, mro, ns, qn, hd, sn, sub, ab, col, del⟩ := cd
      dsimp only at hm hdel hdct
      subst hm hdel hdct
      have hsl : sl = #[k0, k1, k2, k3, some (.builtin "ValueError.__new__"), k5] := by
        obtain ⟨l⟩ := sl
        simp only at hs
        rw [hs]
      subst hsl
      exact ⟨nm, qn, ns, bs, bm, sn, sub, ab, col, dd, k0, k1, k2, k3, k5, ho, ht⟩
    · cases h1
  · cases h1
/-- what more the walk asks of an own exception that is made, kept and read -/
def morB (K : PySem.W.Frag) (x : Str) (fs : List Str) : Bool :=
  decide (PySem.W.subIn K (.ref (ga K x)) (.ref (ga K x)) = some true) && (decide (PySem.W.ks_superIn K (ga K x) (ga K x) "__init__" = some (some (.builtin "ValueError.__init__"))) && (decide (PySem.W.subIn K (.ref (ga K x)) (.type "ValueError") = some true) &&
  (eqO (PySem.W.findIn K (.ref (ga K x)) "__init__") (some (some (.ref (initAt K x)))) && (decide (PySem.W.typeIn K (.ref (initAt K x)) = some (.type "function")) && (xfB K (ga K x) &&
  (eqO (PySem.W.findIn K (.ref (ga K x)) "__class__") (some (some (.builtin "object.__class__"))) && (decide (PySem.W.mroIn K (ga K x) (.type "object") = some true) && fs.all fun f => eqO (PySem.W.findIn K (.ref (ga K x)) f) (some none))))))))
/-- what is asked once -/
def oneB (K : PySem.W.Frag) : Bool := eqO (PySem.W.nsIn K PySem.cStatics "thirdparty.any") (some none) && (decide (PySem.W.specialIn K (.builtin "object.__class__") "__get__" = some (some (.builtin "getset_descriptor.__get__"))) && decide (PySem.W.takesIn K (.builtin "object.__class__") = some true))
structure MorX (K : PySem.W.Frag) (x : Str) (fs : List Str) : Prop where
  own : PySem.W.subIn K (.ref (ga K x)) (.ref (ga K x)) = some true
  sup : PySem.W.ks_superIn K (ga K x) (ga K x) "__init__" = some (some (.builtin "ValueError.__init__"))
  ve : PySem.W.subIn K (.ref (ga K x)) (.type "ValueError") = some true
  ini : PySem.W.findIn K (.ref (ga K x)) "__init__" = some (some (.ref (initAt K x)))
  tyI : PySem.W.typeIn K (.ref (initAt K x)) = some (.type "function")
  xf : XfC K (ga K x)
  cls : PySem.W.findIn K (.ref (ga K x)) "__class__" = some (some (.builtin "object.__class__"))
  obj : PySem.W.mroIn K (ga K x) (.type "object") = some true
  no : ∀ f ∈ fs, PySem.W.findIn K (.ref (ga K x)) f = some none
theorem mor_ok {K : PySem.W.Frag} {x : Str} {fs : List Str} (h : morB K x fs = true) : MorX K x fs := by
  unfold morB at h
  obtain ⟨h1, h⟩ := ba h
  obtain ⟨h2, h⟩ := ba h
  obtain ⟨h3, h⟩ := ba h
  obtain ⟨h4, h⟩ := ba h
  obtain ⟨h5, h⟩ := ba h
  obtain ⟨h6, h⟩ := ba h
  obtain ⟨h7, h⟩ := ba h
  obtain ⟨h8, h9⟩ := ba h
  exact ⟨of_decide_eq_true h1, of_decide_eq_true h2, of_decide_eq_true h3, eqO_ok h4, of_decide_eq_true h5, xfB_ok h6, eqO_ok h7, of_decide_eq_true h8, fun f hf => eqO_ok (List.all_eq_true.mp h9 f hf)⟩
theorem MorX.excC {K : PySem.W.Frag} {x : Str} {fs : List Str} (m : MorX K x fs) (o : oneB K = true) : ExcC K (ga K x) := by
  unfold oneB at o
  obtain ⟨_, o⟩ := ba o
  obtain ⟨h1, h2⟩ := ba o
  exact ⟨m.xf.ga, m.xf.gg, m.xf.exC, m.xf.hdC, m.cls, of_decide_eq_true h1, of_decide_eq_true h2, m.obj⟩
def cellAt (K : PySem.W.Frag) (x : Str) : Addr := match K.lookup (initAt K x) with
  | some ⟨_, _, .func fd, _⟩ => (match fd.closure with
    | [(_, cc)] => cc
    | _ => 0)
  | _ => 0
def codeAt (K : PySem.W.Frag) (x : Str) : Addr := match K.lookup (initAt K x) with
  | some ⟨_, _, .func fd, _⟩ => (match fd.code with
    | .ref c => c
    | _ => 0)
  | _ => 0
def ExD.nf (K : PySem.W.Frag) (d : ExD) : NF := ⟨"__init__", d.x ++ ".__init__", defArgs d.st, defBody d.st, defScope d.st, [("__class__", cellAt K d.x)], codeAt K d.x⟩
theorem sup_ok {P : Program} {K : PySem.W.Frag} {mg : Str → Option Value} {file : Str} {d : ExD} {fs : List Str} (e : initW K d.x = d.val) (b : initB file K d.x = true) (o : oexB K d.x = true) (m : morB K d.x fs = true) (one : oneB K = true) (hs : mg "super" = none)
    (top : (P.main.scope.names.lookup ("super" : Str)).isSome = false) (hf : P.main.file = file) (self : ∃ ar : Arg, ((defArgs d.st).posonlyargs ++ (defArgs d.st).args).head? = some ar ∧ ar.arg = "self") (hks : (defScope d.st).names.lookup ("super" : Str) = some .globalImplicit) :
    SupF P K mg (ga K d.x) (initAt K d.x) (d.nf K) := by
  have M := mor_ok m
  have o1 : PySem.W.nsIn K PySem.cStatics "thirdparty.any" = some none := eqO_ok (ba (show (eqO _ _ && _) = true from one)).1
  unfold initB at b
  unfold initW at e
  cases q : K.lookup (initAt K d.x) with
  | none => rw [q] at b; cases b
  | some ob =>
    obtain ⟨oc, od, dt, osl⟩ := ob
    rw [q] at b e
    cases dt with
    | func fd =>
      obtain ⟨n1, n2, n3, n4, n5, n6, n7, n8, n9, n10, n11, n12, n13, n14, n15⟩ := fd
      have e2 : (some (n1, n2, n3, n4, n5, n6, n7.map (·.1), n15) : InW) = d.val := e
      unfold ExD.val at e2
      simp only [Option.some.injEq, Prod.mk.injEq] at e2
      obtain ⟨h1, h2, h3, h4, h5, h6, h7, h8⟩ := e2
      subst h1 h2 h3 h4 h5 h6 h8
      dsimp only at b
      split at b
      · rename_i c cn cc
        simp only [List.map_cons, List.map_nil, List.cons.injEq, and_true] at h7
        subst h7
        have ec : cellAt K d.x = cc := by unfold cellAt; rw [q]
        have ed : codeAt K d.x = c := by unfold codeAt; rw [q]
        obtain ⟨b12, b3⟩ := ba b
        obtain ⟨b1, b2⟩ := ba b12
        refine ⟨oex_ok o, ⟨oc, od, n10, n11, n14, osl, ?_⟩, ?_, ?_, ?_, M.own, M.sup, M.ve, o1, hs, top, self, hks⟩
        · unfold ExD.nf NF.fd PySem.W.fnX
          rw [ec, ed]
          exact q
        · unfold ExD.nf
          rw [ed]
          exact b1
        · unfold ExD.nf
          rw [ed]
          split at b3
          · rename_i hc
            split at b3
            · rename_i hv
              exact ⟨_, _, _, _, _, _, hc, hv, by rw [hf]; exact b3⟩
            · cases b3
          · cases b3
        · unfold ExD.nf
          rw [ec]
          split at b2
          · rename_i hc
            have eC := eq_of_beq b2
            subst eC
            exact ⟨cc, _, _, _, rfl, hc⟩
          · cases b2
      · cases b
    | _ => cases b
variable [LamN]
/-! ### the hook -/
/-- the written part: what the module's names reach, the statics -/
def kv (n : Nat) (g : Addr → Option Obj) : PySem.W.Frag := frT g (PySem.cStatics :: PySem.sysModules :: asD g n)
abbrev AlV : Type := (AlD × Bool) × List InW
def obsV (n : Nat) (fa : List Fa) (fn : List DefD) (tf : List Defn) (ex : PySem.W.Frag → Bool) (ds : List ExD) (g : Addr → Option Obj) : AlV := ((obsD fa fn (kv n g), ex (kv n g) && tabsB g tf (kv n g)), ds.map fun d => initW (kv n g) d.x)
structure SaysV (fa : List Fa) (fn : List DefD) (tf : List Defn) (ex : PySem.W.Frag → Bool) (ds : List ExD) (w : World) (h : Heap) (K : PySem.W.Frag) : Prop where
  d : SaysD fa fn K
  more : ex K = true
  hd : ∀ p ∈ tf, PySem.W.codeHdIn K (cT K p).1 (cT K p).2 = true
  out : ∀ p ∈ tf, K.lookup (cT K p).2 = none
  empty : ∀ p ∈ tf, h.get? (cT K p).2 = some { cls := .none, data := .fields #[] }
  i : (ds.map fun d => initW K d.x) = ds.map ExD.val
theorem saysV_of {n : Nat} {fa : List Fa} {fn : List DefD} {tf : List Defn} {ex : PySem.W.Frag → Bool} {ds : List ExD} {w : World} {h : Heap} (e : obsV n fa fn tf ex ds h.get? = ((valD fn, true), ds.map ExD.val)) : SaysV fa fn tf ex ds w h (kv n h.get?) := by
  have e1 : obsD fa fn (kv n h.get?) = valD fn := congrArg (fun z : AlV => z.1.1) e
  obtain ⟨h1, h2⟩ := ba (show (ex (kv n h.get?) && tabsB h.get? tf (kv n h.get?)) = true from congrArg (fun z : AlV => z.1.2) e)
  have at_ : ∀ p ∈ tf, PySem.W.codeHdIn (kv n h.get?) (cT (kv n h.get?) p).1 (cT (kv n h.get?) p).2 = true ∧ ∃ o, h.get? (cT (kv n h.get?) p).2 = some o ∧ emptyTab o = true := fun p hp => by
    obtain ⟨a, b⟩ := ba (List.all_eq_true.mp h2 p hp)
    refine ⟨a, ?_⟩
    split at b
    · rename_i o q
      exact ⟨o, q, b⟩
    · cases b
  refine ⟨e1, h1, fun p hp => (at_ p hp).1, fun p hp => ?_, fun p hp => ?_, congrArg (fun z : AlV => z.2) e⟩
  · obtain ⟨_, o, q, z⟩ := at_ p hp
    exact frT_none q z
  · obtain ⟨_, o, q, z⟩ := at_ p hp
    rw [q, emptyTab_eq z]
def hookV (n : Nat) (fa : List Fa) (fn : List DefD) (tf : List Defn) (ex : PySem.W.Frag → Bool) (ds : List ExD) : PySem.W.Hook where
  α := AlV
  obs := fun s => obsV n fa fn tf ex ds s.heap.get?
  val := fun w => ((valD fn, true), ds.map ExD.val)
  says := fun w h => ∃ K : PySem.W.Frag, K.In h ∧ SaysV fa fn tf ex ds w h K
  of := fun w s e => ⟨_, frT_in, saysV_of (w := w) e⟩
  keeps := fun _ _ _ ⟨K, hK, c⟩ k => ⟨K, PySem.W.Frag.In.keeps hK k, ⟨c.d, c.more, c.hd, c.out, fun p hp => k _ _ (c.empty p hp), c.i⟩⟩
theorem obsV_eq {n : Nat} {fa : List Fa} {fn : List DefD} {tf : List Defn} {ex : PySem.W.Frag → Bool} {ds : List ExD} {g : Addr → Option Obj} {s : Shared} (h : ∀ a, g a = s.heap.get? a) : obsV n fa fn tf ex ds g = (hookV n fa fn tf ex ds).obs s := by
  have e : g = s.heap.get? := funext h
  rw [e] <;> rfl
theorem SaysV.init {fa : List Fa} {fn : List DefD} {tf : List Defn} {ex : PySem.W.Frag → Bool} {ds : List ExD} {w : World} {h : Heap} {K : PySem.W.Frag} (c : SaysV fa fn tf ex ds w h K) (i : Nat) {d : ExD} (e : ds[i]? = some d := by rfl) : initW K d.x = d.val := by
  have q := congrArg (fun l : List InW => l[i]?) c.i
  simp only [List.getElem?_map, e, Option.map_some, Option.some.injEq] at q
  exact q
/-! ### from FunD -/
section
variable {K : PySem.W.Frag} {x qual : Str} {st : Stmt} {dvs : List V} {kws : List (Str × V)} {f : Addr} {fd : FuncData} {ps : List Str}
theorem funV_of (F : FunD K x qual (defArgs st) (defBody st) (defScope st) dvs kws f fd) : FunV K x qual st f fd := by
  obtain ⟨oc, od, dV, kV, doc, pm, an, cdv, ct, osl, e, lk, hcd, _, _⟩ := F.ex
  exact ⟨oc, od, dV, kV, doc, pm, an, cdv, ct, osl, e, lk, hcd⟩
theorem code_of {d : Defn} (F : FunD K x qual (defArgs st) (defBody st) (defScope st) dvs kws (fAd K d) fd) : fd.code = .ref (codeOf K d) := by
  obtain ⟨oc, od, dV, kV, doc, pm, an, cdv, ct, osl, rfl, lk, hcd, _, _⟩ := F.ex
  obtain ⟨c, rfl⟩ := codeIn_ref hcd
  rw [codeOf_eq lk rfl]
theorem kbn_of {n : Nat} {ks : List Str} (g : {α : Type} → List α → List α → List α) (F : FunD K x qual (defArgs st) (defBody st) (defScope st) [] kws f fd)
    (h : ∀ (kV doc pm : Value) (an : Option Addr) (cdv ct : Value) (us ws : List Value), us.length = n → ws.length = ks.length → bindArgs (PySem.W.fnOf x qual (defArgs st) (defBody st) (defScope st) .none kV doc pm an cdv ct) ⟨us, ks.zip ws⟩ = pure (ps.zip (g us ws)))
    (hrel : ∀ {vs zs : List V} {us ws : List Value}, Vals vs us → Vals zs ws → Vals (g vs zs) (g us ws)) : KBn K fd ps n ks (fun us ws => g us ws) (fun vs zs => g vs zs) := by
  obtain ⟨oc, od, dV, kV, doc, pm, an, cdv, ct, osl, rfl, lk, hcd, hD, hK⟩ := F.ex
  rcases hD with ⟨_, rfl⟩ | ⟨e, _⟩
  · exact ⟨fun s us ws X l1 l2 => .of_eq (h kV doc pm an cdv ct us ws l1 l2), hrel⟩
  · exact absurd rfl e
theorem kbn_dfl {n : Nat} {ds : List Value} {es : List V} (b : Binds K fd ps ds) (hv : Vals es ds) (hn : n + ds.length = ps.length) : KBn K fd ps n [] (fun us _ => us ++ ds) (fun vs _ => vs ++ es) :=
  ⟨fun s us ws X l1 l2 => b s us X (by rw [List.length_append, l1]; exact hn), fun r _ => r.append hv⟩
end
theorem RepL.ofInts {K : PySem.W.Frag} {mg : Str → Option Value} {F : Hp} : ∀ ns : List Int, RepL K mg F (ns.map V.int) (ns.map D.int)
  | [] => .nil
  | n :: ns => .cons (.int n) (RepL.ofInts ns)
end VL
end

section
set_option Elab.async false
set_option linter.all false
set_option maxRecDepth 100000
set_option maxHeartbeats 4000000
/-! VLN: slices with a step, x op= e, rows of targets with lists that are changed. -/
namespace VL
open PySem PySem.Spec PyProof.Rows L2
/-- the items of xs[::k] -/
def pickL {α : Type} (xs : List α) (k : Int) : List α :=
  (List.range (Builtin.Slice.slicePlaces (if k < 0 then (xs.length : Int) - 1 else 0) (if k < 0 then -1 else (xs.length : Int)) k)).filterMap fun (m : Nat) => xs[((if k < 0 then (xs.length : Int) - 1 else 0) + (m : Int) * k).toNat]?
theorem places_le {n : Nat} {k : Int} (hk : k ≠ 0) : Builtin.Slice.slicePlaces (if k < 0 then (n : Int) - 1 else 0) (if k < 0 then -1 else (n : Int)) k ≤ n := by
  unfold Builtin.Slice.slicePlaces
  by_cases h : k < 0
  · rw [if_pos h, if_pos h, if_neg (by omega)]
    split
    · have h1 : ((n : Int) - 1 - -1 - 1) / (-k) ≤ (n : Int) - 1 - -1 - 1 := Int.ediv_le_self _ (by omega)
      omega
    · exact Nat.zero_le _
  · rw [if_neg h, if_neg h, if_pos (by omega)]
    split
    · have h1 : ((n : Int) - 0 - 1) / k ≤ (n : Int) - 0 - 1 := Int.ediv_le_self _ (by omega)
      omega
    · exact Nat.zero_le _
theorem filterMap_len {α β : Type} (f : α → Option β) : ∀ xs : List α, (xs.filterMap f).length ≤ xs.length
  | [] => by simp
  | x :: xs => by
    have := filterMap_len f xs
    rw [List.filterMap_cons]
    split <;> simp <;> omega
theorem pickL_len {α : Type} (xs : List α) {k : Int} (hk : k ≠ 0) : (pickL xs k).length ≤ xs.length := by
  unfold pickL
  refine Nat.le_trans (filterMap_len _ _) ?_
  rw [List.length_range]
  exact places_le hk
theorem picks_vals {xs : List V} {us : List Value} (r : Vals xs us) (g : Nat → Nat) : ∀ is : List Nat, Vals (is.filterMap fun m => xs[g m]?) (is.filterMap fun m => us[g m]?)
  | [] => .nil
  | i :: is => by
    rw [List.filterMap_cons, List.filterMap_cons]
    cases e : xs[g i]? with
    | none => rw [r.none_of e]; exact picks_vals r g is
    | some x =>
      obtain ⟨u, eu, ru⟩ := r.get e
      rw [eu]
      exact .cons ru (picks_vals r g is)
theorem pick_vals {xs : List V} {us : List Value} (r : Vals xs us) (k : Int) : Vals (pickL xs k) (pickL us k) := by
  unfold pickL
  rw [r.length]
  exact picks_vals r _ _
section
variable {K : PySem.W.Frag} {mg : Str → Option Value} {F : Hp} [LamN]
theorem picks_rep {vs : List V} {ds : List D} (r : RepL K mg F vs ds) (g : Nat → Nat) : ∀ is : List Nat, RepL K mg F (is.filterMap fun m => vs[g m]?) (is.filterMap fun m => ds[g m]?)
  | [] => .nil
  | i :: is => by
    rw [List.filterMap_cons, List.filterMap_cons]
    cases e : ds[g i]? with
    | none =>
      have : vs[g i]? = none := by
        rw [List.getElem?_eq_none_iff] at e ⊢
        rw [r.length]; exact e
      rw [this]; exact picks_rep r g is
    | some x =>
      obtain ⟨u, eu, ru⟩ := r.get e
      rw [eu]
      exact .cons ru (picks_rep r g is)
theorem pick_rep {vs : List V} {ds : List D} (r : RepL K mg F vs ds) (k : Int) : RepL K mg F (pickL vs k) (pickL ds k) := by
  unfold pickL
  rw [r.length]
  exact picks_rep r _ _
end
section
variable {prog : Program} {w : World} {A : Around} {E : Value → Shared → Prop} {s : Shared}
theorem adjust_none (k : Int) (n : Int) : Builtin.Slice.sliceAdjust none none k n = ((if k < 0 then n - 1 else 0), (if k < 0 then -1 else n)) := by
  unfold Builtin.Slice.sliceAdjust
  by_cases h : k < 0 <;> simp [h]
theorem getItem_tuple_step {t sl : Addr} {items : Array Value} {k : Int} {u : Tok} {Q : Value → Shared → Prop} (ht : IsTup s.heap t items) (hs : s.heap.IsSliceOf sl .none .none (.int k u)) (h0 : k ≠ 0) (h1 : k ≠ 1)
    (h : Q (.ref s.heap.objs.size) { s with heap := s.heap.push { cls := .type "tuple", data := .seq (pickL items.toList k).toArray } })
    (hsz : items.size ≤ sizeLine) : wpAny (model prog w) A (getItem (.ref t) (.ref sl)) Q E s := by
  have htake : sizeOk (.seq (pickL items.toList k).toArray) := by
    show (pickL items.toList k).toArray.size ≤ sizeLine
    rw [List.size_toArray]
    exact Nat.le_trans (pickL_len _ h0) (by rw [Array.length_toList]; exact hsz)
  obtain ⟨os, hos, hcs, hds⟩ := id hs
  have hTs : s.TypeIs (.ref sl) "slice" := ⟨os, hos, hcs⟩
  unfold getItem
  try with_reducible refine wpAny_holding ?_
  first | refine wpAny_bind (wpAny_pure ?_) | skip
  refine wpAny_bind (wpAny_sequenceKey ht.typeIs (by decide) ?_)
  refine wpAny_bind (wpAny_callSpecial?_slot (name := Str.ofString "__getitem__") ht.typeIs PyProof.Rows.slot_tuple_getitem
    (wpAny_call_entry PyProof.Rows.slot_tuple_getitem ht.typeIs entry_tuple_getitem ?_ (args_tuple_getitem _ _)))
  show wpAny _ _ (Builtin.Tuple.tupleItemsOf (.ref t) >>= _) _ _ s
  refine wpAny_bind (tupleItemsOf_ ht ?_)
  refine wpAny_bind (wpAny_typeOf hTs ?_)
  rw [if_pos (by decide)]
  have app : ∀ (A : Around) (n : Nat) (Q : Int × Int × Nat → Shared → Prop), Q ((if k < 0 then (n : Int) - 1 else 0), k, Builtin.Slice.slicePlaces (if k < 0 then (n : Int) - 1 else 0) (if k < 0 then -1 else (n : Int)) k) s → wpAny (model prog w) A (Builtin.Slice.sliceApplied (.ref sl) (pure (n : Int))) Q E s := by
    intro A n Q h
    unfold Builtin.Slice.sliceApplied Builtin.Slice.sliceFields
    refine wpAny_bind (wpAny_bind (wpAny_field hos hds (x := .none) rfl (wpAny_bind (wpAny_field hos hds (x := .none) rfl (wpAny_bind (wpAny_field hos hds (x := .int k u) rfl (wpAny_pure ?_)))))))
    refine wpAny_bind (slicePart_int ?_)
    show wpAny _ _ (if (k == 0) = true then _ else _) _ _ s
    rw [if_neg (by simpa using h0)]
    refine wpAny_bind (slicePart_none (wpAny_bind (slicePart_none (wpAny_bind (wpAny_pure ?_)))))
    show wpAny _ _ (match Builtin.Slice.sliceAdjust none none k (n : Int) with | (lo, hi) => pure (lo, k, Builtin.Slice.slicePlaces lo hi k)) _ _ s
    rw [adjust_none]
    exact wpAny_pure h
  refine wpAny_bind (app _ items.size _ ?_)
  have hno : ¬ (((if k < 0 then (items.size : Int) - 1 else 0) == 0 && k == 1 && (Builtin.Slice.slicePlaces (if k < 0 then (items.size : Int) - 1 else 0) (if k < 0 then -1 else (items.size : Int)) k) == items.size) = true) := by
    intro q
    rw [Bool.and_eq_true, Bool.and_eq_true] at q
    exact h1 (eq_of_beq q.1.2)
  show wpAny _ _ (if ((if k < 0 then (items.size : Int) - 1 else 0) == 0 && k == 1 && (Builtin.Slice.slicePlaces (if k < 0 then (items.size : Int) - 1 else 0) (if k < 0 then -1 else (items.size : Int)) k) == items.size) = true then _ else _) _ _ s
  rw [if_neg hno]
  have e : (List.range (Builtin.Slice.slicePlaces (if k < 0 then (items.size : Int) - 1 else 0) (if k < 0 then -1 else (items.size : Int)) k)).filterMap (fun (m : Nat) => items[((if k < 0 then (items.size : Int) - 1 else 0) + (m : Int) * k).toNat]?) = pickL items.toList k := by
    unfold pickL
    simp only [Array.length_toList, Array.getElem?_toList]
  rw [e]
  first
    | exact wpAny_bind (m := Builtin.Tuple.tupleExact _) (wpAny_newObj_type (wpAny_pure ⟨_, rfl, wpAny_pure h⟩) htake)
    | exact wpAny_bind (m := Builtin.Tuple.tupleExact _) (wpAny_newObj_type (wpAny_bind (wpAny_pure (wpAny_pure ⟨_, rfl, wpAny_pure h⟩))) htake)
    | exact wpAny_bind (wpAny_bind (m := Builtin.Tuple.tupleExact _) (wpAny_newObj_type (wpAny_pure (wpAny_pure ⟨_, rfl, wpAny_pure h⟩)) htake))
    | exact wpAny_bind (wpAny_bind (m := Builtin.Tuple.tupleExact _) (wpAny_newObj_type (wpAny_pure ⟨_, rfl, wpAny_pure h⟩) htake))
end

theorem bounds_none (k : Int) (n : Nat) (h0 : k ≠ 0) : sliceBounds none none (some k) n = ((if k < 0 then (n : Int) - 1 else 0), (if k < 0 then -1 else (n : Int)), k) := by
  unfold sliceBounds
  simp only [Option.getD_some]
  by_cases h : k < 0
  · rw [if_neg (by omega), if_neg (by omega), if_pos h, if_pos h]
  · rw [if_pos (by omega), if_pos (by omega), if_neg h, if_neg h]
theorem range_places (n : Nat) (k : Int) (h0 : k ≠ 0) : sliceRange (if k < 0 then (n : Int) - 1 else 0) (if k < 0 then -1 else (n : Int)) k = (List.range (Builtin.Slice.slicePlaces (if k < 0 then (n : Int) - 1 else 0) (if k < 0 then -1 else (n : Int)) k)).map fun (m : Nat) => ((if k < 0 then (n : Int) - 1 else 0) + (m : Int) * k).toNat := by
  unfold sliceRange Builtin.Slice.slicePlaces
  have e : (if k > 0 then (if (if k < 0 then (n : Int) - 1 else 0) < (if k < 0 then -1 else (n : Int)) then ((if k < 0 then -1 else (n : Int)) - (if k < 0 then (n : Int) - 1 else 0) + k - 1) / k else 0)
      else (if (if k < 0 then (n : Int) - 1 else 0) > (if k < 0 then -1 else (n : Int)) then ((if k < 0 then (n : Int) - 1 else 0) - (if k < 0 then -1 else (n : Int)) - k - 1) / (-k) else 0))
      = (if k > 0 then (if (if k < 0 then (n : Int) - 1 else 0) < (if k < 0 then -1 else (n : Int)) then ((if k < 0 then -1 else (n : Int)) - (if k < 0 then (n : Int) - 1 else 0) - 1) / k + 1 else 0)
      else (if (if k < 0 then (n : Int) - 1 else 0) > (if k < 0 then -1 else (n : Int)) then ((if k < 0 then (n : Int) - 1 else 0) - (if k < 0 then -1 else (n : Int)) - 1) / (-k) + 1 else 0)) := by
    generalize (if k < 0 then (n : Int) - 1 else 0) = lo
    generalize (if k < 0 then -1 else (n : Int)) = hi
    by_cases hp : k > 0
    · rw [if_pos hp, if_pos hp]
      split
      · rw [show hi - lo + k - 1 = (hi - lo - 1) + 1 * k by omega, Int.add_mul_ediv_right _ _ (by omega)]
      · rfl
    · rw [if_neg hp, if_neg hp]
      split
      · rw [show lo - hi - k - 1 = (lo - hi - 1) + 1 * (-k) by omega, Int.add_mul_ediv_right _ _ (by omega)]
      · rfl
  dsimp only
  rw [e]
  apply List.map_congr_left
  intro m _
  rw [Int.mul_comm]
theorem pick_slice (items : Array Value) (k : Int) (h0 : k ≠ 0) : slicePick items none none (some k) = (pickL items.toList k).toArray := by
  unfold slicePick pickL
  rw [bounds_none k _ h0]
  dsimp only
  rw [range_places _ _ h0, List.filterMap_map]
  simp only [Array.length_toList, Array.getElem?_toList]
  rfl
/-- what x[::k] is, by values -/
def StR (X : Cx) (r : V → Int → Hp → VK → Prop) : Prop :=
  ∀ (pins : List (Addr × Obj)) (s : Shared) (σ : L2.St) (H : Hp) (x : V) (v : Value) (k : Int) (u : Tok) (sl : Addr) (Q : VK), Inv X pins σ H s → RelV x v → s.heap.IsSliceOf sl .none .none (.int k u) → r x k H Q →
    ∃ T id, typeLookup (.type T) "__getitem__" = pure (some (.builtin id)) ∧ s.TypeIs v T ∧ wpAny (model X.prog X.w) X.A (getItem v (.ref sl)) (EP X pins σ Q) X.xe s
def rStA (K : PySem.W.Frag) : V → Int → Hp → VK → Prop := fun x k H Q => (k ≠ 0 ∧ k ≠ 1) ∧ ∃ a xs, x = .ref a ∧ ((SqT K H a xs ∧ ∀ p, H p = none → Q (.ref p) (upd H p (.tup (pickL xs k)))) ∨ (SqL K H a xs ∧ ∀ p, H p = none → Q (.ref p) (upd H p (.lst (pickL xs k)))))
theorem st_any {X : Cx} : StR X (rStA X.K) := by
  intro pins s σ H x v k u sl Q I rx hs h
  obtain ⟨⟨h0, h1⟩, a, xs, rfl, q | q⟩ := h
  · obtain ⟨hx, q⟩ := q
    cases rx
    obtain ⟨its, r, ht, hz⟩ := I.tuple hx
    have hlen : its.toArray.size = xs.length := by rw [List.size_toArray]; exact r.length.symm
    refine ⟨"tuple", _, PyProof.Rows.slot_tuple_getitem.lookup, ht.typeIs, ?_⟩
    refine getItem_tuple_step ht hs h0 h1 ?_ (by rw [hlen]; exact hz)
    refine ⟨.ref s.heap.objs.size, _, I.laid (t' := s.toks) (o := .tup (pickL xs k)) (fun b ob q => Heap.get?_push_of_some _ q) (Nat.le_refl _) ?_, rfl, q _ (I.hok.fresh (Nat.le_refl _))⟩
    exact ⟨Nat.le_trans (pickL_len xs h0) hz, _, pick_vals r k, IsTup.new _ _⟩
  · obtain ⟨hx, q⟩ := q
    cases rx
    obtain ⟨its, r, ht, hz⟩ := I.list hx
    have hlen := r.length
    refine ⟨"list", _, slot_list_getitem.lookup, ht.isList.typeIs, ?_⟩
    refine wpAny_getItem_list_slice ht.isList hs .none .none (.int k u) (by simpa using h0) ?_ (by rw [List.size_toArray] <;> omega)
    rw [pick_slice _ _ h0]
    refine ⟨.ref s.heap.objs.size, _, I.laid (t' := s.toks) (o := .lst (pickL xs k)) (fun b ob q => Heap.get?_push_of_some _ q) (Nat.le_refl _) ?_, rfl, q _ (I.hok.fresh (Nat.le_refl _))⟩
    exact ⟨Nat.le_trans (pickL_len xs h0) hz, _, 0, pick_vals r k, Heap.get?_push_size _ rfl⟩
def tStep (r : V → Int → Hp → VK → Prop) (te tk : TE) : TE := fun σ H Q => te σ H fun x H1 => tk σ H1 fun y H2 => ∃ k, y = .int k ∧ r x k H2 Q
theorem pe_step {X : Cx} {e st : Expr} {te tk : TE} {p2 pos : Pos} {r : V → Int → Hp → VK → Prop} (hr : StR X r) (he : PE X e te) (hk : PE X st tk) : PE X (.Subscript e (.Slice none none (some st) p2) pos) (tStep r te tk) := by
  refine ⟨fun pins s σ H Q I h => ?_⟩
  refine Subscript_ (thn (he.run pins s σ H _ I h) fun v s1 ⟨x, H1, I1, r1, q1⟩ => ?_)
  refine wpAny_Slice ?_
  rw [evalPart_none]
  refine wpAny_pure ?_
  rw [evalPart_some]
  refine wpAny_pure ?_
  refine thn (hk.run pins s1 σ H1 _ I1 q1) fun vk s3 ⟨y, H3, I3, pk, q3⟩ => ?_
  obtain ⟨k, rfl, q3⟩ := q3
  obtain ⟨u, rfl⟩ := pk
  have I4 : Inv X pins σ H3 { s3 with heap := s3.heap.push { cls := .type "slice", data := .fields #[.none, .none, .int k u] } } := I3.kept (t' := s3.toks) fun b ob q => Heap.get?_push_of_some _ q
  obtain ⟨T, id, hT, ht, hg⟩ := hr pins { s3 with heap := s3.heap.push { cls := .type "slice", data := .fields #[.none, .none, .int k u] } } σ H3 x v k u s3.heap.objs.size Q I4 r1 (Heap.IsSliceOf.new ..) q3
  show wpAny (model X.prog X.w) X.A (subscriptTail e (.Slice none none (some st) p2) v (.ref s3.heap.objs.size)) (EP X pins σ Q) X.xe { s3 with heap := s3.heap.push { cls := .type "slice", data := .fields #[.none, .none, .int k u] } }
  exact tail_any (ops := [v, .ref s3.heap.objs.size]) ht hT hg (by with_unfolding_all rfl)
section
variable [LamN]
/-- x[::k] -/
def stepD (d : D) (k : D) : Option D := match d, k with
  | .tup xs, .int k => if k ≠ 0 ∧ k ≠ 1 then some (.tup (pickL xs k)) else none
  | .lst xs, .int k => if k ≠ 0 ∧ k ≠ 1 then some (.lst (pickL xs k)) else none
  | .frl xs, .int k => if k ≠ 0 ∧ k ≠ 1 then some (.lst (pickL xs k)) else none
  | _, _ => none
def eStep (fe fk : VL.Env → Option (Out D)) : VL.Env → Option (Out D) := e2 stepD fe fk
theorem ve_step {X : Cx} {B : Bs} {e st : Expr} {te tk : TE} {fe fk : VL.Env → Option (Out D)} {p2 pos : Pos} (he : VE X B e te fe) (hk : VE X B st tk fk) : VE X B (.Subscript e (.Slice none none (some st) p2) pos) (tStep (rStA X.K) te tk) (eStep fe fk) := ⟨pe_step st_any he.pe hk.pe, fun ε σ F H Q r ok e p => by
  unfold eStep e2 at e
  rcases bnd_some e with ⟨x, ε', e1, rfl⟩ | ⟨d, ε1, e1, e⟩
  · exact he.den ε σ F H _ _ ok e1 p
  refine he.den ε σ F H _ _ ok e1 fun v1 F1 H1 ok1 s1 r1 => ?_
  rcases bnd_some e with ⟨x, ε', e2, rfl⟩ | ⟨c, ε2, e2, e⟩
  · exact hk.den ε1 σ F1 H1 _ _ ok1 e2 (XPost.mono p s1)
  refine hk.den ε1 σ F1 H1 _ _ ok1 e2 fun v2 F2 H2 ok2 s2 r2 => ?_
  obtain ⟨d', ed, rfl⟩ := lift_some e
  have r3 := r1.mono s2
  unfold stepD at ed
  split at ed
  · split at ed
    · rename_i hk
      cases ed
      cases r2
      cases r3 with | tup h rr =>
      exact ⟨_, rfl, hk, _, _, rfl, .inl ⟨same_sqT ok2.sub h, fun q hq => p _ _ _ (ok2.laid hq _) ((s1.trans s2).trans (same_laid ok2 hq _)) (.tup (SqT.of upd_same) ((pick_rep rr _).mono (same_laid ok2 hq _)))⟩⟩
    · cases ed
  · split at ed
    · rename_i hk
      cases ed
      cases r2
      cases r3 with | lst h rr =>
      exact ⟨_, rfl, hk, _, _, rfl, .inr ⟨SqL.of (ok2.sub _ _ h), fun q hq => p _ _ _ (ok2.laid hq _) ((s1.trans s2).trans (same_laid ok2 hq _)) (.lst upd_same ((pick_rep rr _).mono (same_laid ok2 hq _)))⟩⟩
    · cases ed
  · split at ed
    · rename_i hk
      cases ed
      cases r2
      cases r3 with | frl h rr =>
      exact ⟨_, rfl, hk, _, _, rfl, .inr ⟨ok2.sub.seq h, fun q hq => p _ _ _ (ok2.laid hq _) ((s1.trans s2).trans (same_laid ok2 hq _)) (.lst upd_same ((pick_rep rr _).mono (same_laid ok2 hq _)))⟩⟩
    · cases ed
  · cases ed⟩
/-- x op= e, of ints -/
def sAug (i : Nat) (g : Int → Int → Int) (fe : VL.Env → Option (Out D)) : SF := fun ε => match ε[i]? with
  | some (some (.fr (.int a))) => sE fe (fun d ε1 => match d with
    | .int b => some (.nx (ε1.set i (some (.fr (.int (g a b))))))
    | _ => none) ε
  | _ => none
theorem vs_aug {X : Cx} {B : Bs} {i : Nat} {x : Str} {e : Expr} {te : TE} {fe : VL.Env → Option (Out D)} {op : Operator} {g : Int → Int → Int} {px pos : Pos} (hN : X.N.Nodup) (hi : X.N[i]? = some x) (hx : Loc X.env.scope x) (he : VE X B e te fe) (ho : PIp X op (ipI g)) (hf : X.fn x = true ∨ X.env.scope.names.lookup x = some .local := by first | exact .inl rfl | exact .inr rfl | assumption) :
    VS X B (.AugAssign (.Name x px) op e pos) (tAug i te (ipI g)) (sAug i g fe) := ⟨ps_aug hN hi hx he.pe ho hf, fun ε σ F H D r ok e p => by
  unfold sAug at e
  split at e
  · rename_i a e0
    obtain ⟨v, sv, rv⟩ := ok.slot i _ e0
    cases rv
    refine ⟨_, sv, ?_⟩
    rcases sE_some e with ⟨x, ε', e1, rfl⟩ | ⟨d, ε1, e1, e⟩
    · exact he.den ε σ F H _ _ ok e1 p
    refine he.den ε σ F H _ _ ok e1 fun v1 F1 H1 ok1 s1 r1 => ?_
    split at e
    · cases e
      cases r1
      exact ⟨_, _, rfl, rfl, p _ F1 H1 (ok1.setF (.int _) i) s1⟩
    · cases e
  · cases e⟩
end
end VL
end

section
set_option Elab.async false
set_option linter.all false
set_option maxRecDepth 100000
set_option maxHeartbeats 4000000
/-! VLD: h(lambda a=5: e): a lambda with one parameter that has a default and is not read. -/
namespace VL
open PySem PySem.Spec PyProof.Rows L2 LamX PySem.Calls
variable [LamN]
/-- the record of such a lambda, its defaults at dt -/
abbrev dFn (qn : Str) (ps : Arguments) (b : Expr) (sc : Scope) (cl : List (Str × Addr)) (pm cv ct : Value) (dt : Addr) : FuncData :=
  { PySem.W.kla_fn "<lambda>" qn ps b sc cl pm cv ct with defaults := .ref dt }
abbrev dOb (qn : Str) (ps : Arguments) (b : Expr) (sc : Scope) (cl : List (Str × Addr)) (pm cv ct : Value) (dt : Addr) : Obj := { cls := .type "function", data := .func (dFn qn ps b sc cl pm cv ct dt) }
section
variable {M : Model} {A : Around} {R : Value → Shared → Prop} {u : Shared} {qn : Str} {ps : Arguments} {b : Expr} {sc : Scope} {ev : PySem.Env} {co tb dt : Addr} {xs : Array Value} {at_ : Pos} {ln : Nat} {gm : Str → Option Value} {cl : List (Str × Addr)} {G : Value → Shared → Prop}
/-- the function object is laid: by a new code object, or by one that the table has -/
theorem tail_dflt (k1 : closureFor sc ev = pure cl) (k2 : ev.globals = mainGlobals) (k3 : u.heap.Ns mainGlobals gm) (k4 : ev.code = .ref co) (k5 : PySem.W.CodeHd u.heap co tb) (k6 : u.heap.get? tb = some (PySem.W.tabObj xs)) (k7 : TriplesOk xs.toList)
    (k8 : mainGlobals ≠ tb) (k9 : u.heap.BuiltinsAt gm tb)
    (miss : codeAmong at_ xs.toList = none → ∀ c2 ct h2 tk, Heap.ExtBut tb u.heap h2 → u.heap.objs.size ≤ c2 → c2 < h2.objs.size → h2.CodeRec (.ref c2) qn → h2.get? tb = some (PySem.W.tabObj (xs ++ #[rawInt at_.line, rawInt at_.col, .ref c2])) →
      G (.ref h2.objs.size) { u with heap := h2.push (dOb qn ps b sc cl ((gm "__name__").getD .none) (.ref c2) ct dt), toks := tk })
    (hit : ∀ cv, codeAmong at_ xs.toList = some cv → ∀ (ct : Value) (h2 : Heap) (tk : Tok), (∀ z o, u.heap.get? z = some o → h2.get? z = some o) → u.heap.objs.size ≤ h2.objs.size →
      G (.ref h2.objs.size) { u with heap := h2.push (dOb qn ps b sc cl ((gm "__name__").getD .none) cv ct dt), toks := tk }) :
    wpAny M A (makeTail "<lambda>" qn ps (.expr b) sc ev (.ref dt) .none none at_ ln) G R u := by
  obtain ⟨mb, oo, z1, z2, _, z4, z5, z6, z7, z8⟩ := k9
  have up : ∀ oT : Obj, ∀ z o, u.heap.get? z = some o → (u.heap.push oT).get? z = some o := fun oT z o e => Heap.get?_push_of_some _ e
  unfold makeTail
  rw [k1, k2]
  refine wpAny_bind (wpAny_pure ?_)
  cases cl with
  | nil =>
    simp only [if_true, List.isEmpty_nil]
    refine wpAny_bind (wpAny_pure ?_)
    cases hm : codeAmong at_ xs.toList with
    | none =>
      refine wpAny_bind (wpAny_functionCodeX k4 (k5.code k6 k7) (k5.tab k6) hm fun c2 h2 tk x1 x2 x3 _ x5 x6 _ => ?_)
      have gx := k3.extBut x1 k8
      refine wpAny_bind (wpAny_builtinsFor gx z1 z2 (x1 _ _ z4 z5) z6 z7 z8 (wpAny_bind (wpAny_nsGet gx ?_)))
      exact wpAny_bind (wpAny_pure (wpAny_newObj_type (miss hm c2 .none h2 tk x1 x2 x3 x5 x6.2) (by size_fits)))
    | some cv =>
      refine wpAny_bind (wpAny_functionCode_hit k4 (k5.code k6 k7) hm (wpAny_bind (wpAny_builtinsFor k3 z1 z2 z5 z6 z7 z8 (wpAny_bind (wpAny_nsGet k3 ?_)))))
      exact wpAny_bind (wpAny_pure (wpAny_newObj_type (hit cv hm .none u.heap u.toks (fun _ _ e => e) (Nat.le_refl _)) (by size_fits)))
  | cons c0 cr =>
    simp only [Bool.false_eq_true, if_false, List.isEmpty_cons]
    refine wpAny_bind (wpAny_newTextTuple ?_)
    cases hm : codeAmong at_ xs.toList with
    | none =>
      refine wpAny_bind (wpAny_functionCodeX k4 ((k5.keeps (up _)).code (up _ _ _ k6) k7) ((k5.keeps (up _)).tab (up _ _ _ k6)) hm fun c2 h2 tk x1 x2 x3 _ x5 x6 _ => ?_)
      have gx := (k3.push _).extBut x1 k8
      have y1 : Heap.ExtBut tb u.heap h2 := fun z o n e => x1 z o n (up _ _ _ e)
      have y2 : u.heap.objs.size ≤ c2 := Nat.le_trans (by rw [Heap.size_push]; omega) x2
      refine wpAny_bind (wpAny_builtinsFor gx z1 z2 (y1 _ _ z4 z5) z6 z7 z8 (wpAny_bind (wpAny_nsGet gx ?_)))
      exact wpAny_bind (wpAny_pure (wpAny_newObj_type (miss hm c2 _ h2 tk y1 y2 x3 x5 x6.2) (by size_fits)))
    | some cv =>
      refine wpAny_bind (wpAny_functionCode_hit k4 ((k5.keeps (up _)).code (up _ _ _ k6) k7) hm (wpAny_bind (wpAny_builtinsFor (k3.push _) z1 z2 (up _ _ _ z5) z6 z7 z8 (wpAny_bind (wpAny_nsGet (k3.push _) ?_)))))
      exact wpAny_bind (wpAny_pure (wpAny_newObj_type (hit cv hm _ _ u.toks (up _) (by rw [Heap.size_push]; omega)) (by size_fits)))
end
section
variable {X : Cx} {pins : List (Addr × Obj)} {σ : L2.St} {H : Hp} {s : Shared}
/-- such a lambda is made -/
theorem lam_newD {c P : Addr} {params : Arguments} {body de : Expr} {scope : Scope} {pos : Pos} {dk : Int} {E : Value → Shared → Prop} {Q : Value → Shared → Prop} (I0 : L2.Inv X pins σ H s) (TB : TabB X.base X.mg c P) (hcode : X.env.code = .ref c)
    (hn : LamN.tq pos.line pos.col = X.env.qual ++ "<lambda>") (hT : NdefX.TabN H P LamN.tq) (hdef : defaultsOf params X.env = ([eval de X.env], [])) (hde : PE X de (tC (.int dk))) (hkw : params.kwonlyargs = []) (hfree : ∀ y ∈ scope.names, y.2 = .free → ∃ c, X.env.cells.lookup y.1 = some c) (hE : ∀ e s', X.xe e s' → E e s')
    (h : ∀ (f c' dt : Addr) (du : Tok) (pm ctv : Value) (H1 : Hp) (s' : Shared), L2.Inv X pins σ H1 s' → ExtN H H1 → TbK H H1 → (∀ b, H b ≠ none → H1 b ≠ none) →
      s'.heap.get? f = some (dOb (X.env.qual ++ "<lambda>") params body scope (cloFrom X.env.cells scope.names []) pm (.ref c') ctv dt) → s'.heap.get? dt = some { cls := .type "tuple", data := .seq #[.int dk du] } → H1 f = none → H1 dt = none → f ∉ frs X.stack → dt ∉ frs X.stack → H1 c' = some (CodeO c' (X.env.qual ++ "<lambda>")) → Q (.ref f) s') :
    wpAny (model X.prog X.w) X.A (eval (.Lambda params body scope pos) X.env) Q E s := by
  rw [arm_eval_Lambda, hdef]
  show wpAny _ _ (do let dv ← evalAll [eval de X.env]; let kdv ← holding dv (evalAllOpt []); makeFunction "<lambda>" (X.env.qual ++ "<lambda>") params (.expr body) scope X.env dv kdv [] pos pos.line) Q E s
  refine wpAny_bind ?_
  show wpAny _ _ (do let v ← eval de X.env; return v :: (← holding [v] (evalAll []))) _ _ _
  refine wpAny_bind (wpAny_mono (hde.run pins s σ H (fun v H' => v = .int dk ∧ H' = H) I0 ⟨rfl, rfl⟩) (fun dv s1 hv => ?_) fun e s' he => hE e s' he)
  obtain ⟨x, H0, I1, rx, ex, eH⟩ := hv
  subst ex
  rw [eH] at I1
  clear eH
  obtain ⟨du, rfl⟩ := rx
  refine wpAny_bind (wpAny_holding (wpAny_pure (wpAny_pure (wpAny_bind (wpAny_holding (wpAny_pure ?_))))))
  rw [makeFunction_eq, hkw]
  simp only [List.zip_nil_left, List.filterMap_nil, List.isEmpty_nil, List.isEmpty_cons, if_true, pure_bind, Bool.false_eq_true, if_false]
  refine wpAny_bind (wpAny_newTextTuple ?_)
  generalize hd : s1.heap.objs.size = dt
  have I : L2.Inv X pins σ H { s1 with heap := s1.heap.push { cls := .type "tuple", data := .seq #[.int dk du] } } := I1.kept (t' := s1.toks) fun b o e => Heap.get?_push_of_some _ e
  have hdt : (s1.heap.push { cls := .type "tuple", data := .seq #[.int dk du] }).get? dt = some { cls := .type "tuple", data := .seq #[.int dk du] } := by rw [← hd]; exact Heap.get?_push_size _ rfl
  have ndt : H dt = none := by rw [← hd]; exact I1.hok.fresh (Nat.le_refl _)
  have fdt : dt ∉ frs X.stack := fun z => by
    rcases List.mem_cons.mp (I1.stkSub _ z) with e | e
    · have h1 := I1.lt
      rw [← e, ← hd] at h1
      exact Nat.lt_irrefl _ h1
    · exact I1.nofs (Nat.le_of_eq hd) e
  clear I1
  generalize ht : ({ s1 with heap := s1.heap.push { cls := .type "tuple", data := .seq #[.int dk du] } } : Shared) = t at *
  have hdt : t.heap.get? dt = some { cls := .type "tuple", data := .seq #[.int dk du] } := by rw [← ht]; exact hdt
  obtain ⟨xs, hP, tri, ha⟩ := id hT
  have bP : t.heap.BuiltinsAt X.mg P := TB.bm.keeps I.bk
  have hP' : t.heap.get? P = some { cls := .none, data := .fields xs } := I.hok P _ hP
  have nofr : ∀ f, t.heap.objs.size ≤ f → f ∉ frs X.stack := fun f hf z => by
    rcases List.mem_cons.mp (I.stkSub _ z) with e | e
    · have h1 := I.lt
      rw [← e] at h1
      exact Nat.lt_irrefl _ (Nat.lt_of_lt_of_le h1 hf)
    · exact I.nofs hf e
  refine tail_dflt (gm := X.mg) (co := c) (tb := P) (xs := xs) (closure_ok hfree) I.ok.glob (I.mod.glob.keeps I.bk) hcode (TB.code.keeps I.bk) hP' tri TB.gP bP (fun hc c' ctv h' tk hx hge hlt hrec htb => ?_) fun cv hc ctv h' tk hx hsz => ?_
  · obtain ⟨c2, oc, vs, t2, e2, hoc, hd2, hv⟩ := hrec
    cases e2
    have hsz : t.heap.objs.size ≤ h'.objs.size := Nat.le_trans hge (Nat.le_of_lt hlt)
    have nC : H c' = none := I.hok.fresh hge
    have I1 := inv_table (t' := tk) (more := #[rawInt pos.line, rawInt pos.col, .ref c']) (h' := h'.push (dOb (X.env.qual ++ "<lambda>") params body scope (cloFrom X.env.cells scope.names []) ((X.mg "__name__").getD .none) (.ref c') ctv dt)) I hP
      (fun b o hb e => Heap.get?_push_of_some _ (hx b o hb e)) (Heap.get?_push_of_some _ htb) hge ⟨oc, vs, t2, Heap.get?_push_of_some _ hoc, hd2, hv⟩
    have nP : dt ≠ P := fun z => by rw [z, hP] at ndt; cases ndt
    have nE : ExtN H (upd (upd H P (.tbl (xs ++ #[rawInt pos.line, rawInt pos.col, .ref c']))) c' (CodeO c' (X.env.qual ++ "<lambda>"))) := fun b o e n => by
      rw [upd_ne (ne_of_none e nC), upd_ne (fun z => n xs (Option.some.inj (e.symm.trans (by rw [z]; exact hP))))]
      exact e
    have eL : (xs ++ #[rawInt pos.line, rawInt pos.col, .ref c']).toList = xs.toList ++ [rawInt pos.line, rawInt pos.col, .ref c'] := by simp
    have nc : dt ≠ c' := fun z => by
      have h1 := Heap.lt_size hdt
      rw [z] at h1
      exact Nat.lt_irrefl _ (Nat.lt_of_lt_of_le h1 hge)
    refine h h'.objs.size c' dt du ((X.mg "__name__").getD .none) ctv _ _ I1 nE (fun P' t' => ?_) (fun b hb => ?_) (Heap.get?_push_size _ rfl) (Heap.get?_push_of_some _ (hx _ _ nP hdt)) ?_ ?_ (nofr _ hsz) fdt upd_same
    · by_cases hb : P' = P
      · subst hb
        refine ⟨_, by rw [upd_ne (ne_of_none hP nC), upd_same], by rw [eL]; exact PySem.TriplesOk_snoc _ _ _ _ tri, fun p' cv hcv => ?_⟩
        rw [eL] at hcv
        rcases NdefX.among_app2 _ tri hcv with z | ⟨z, z1, z2⟩
        · obtain ⟨c0, e1, e2⟩ := ha p' cv z
          exact ⟨c0, e1, nE _ _ e2 codeO_ne⟩
        · refine ⟨c', z, ?_⟩
          rw [← z1, ← z2, hn]
          exact upd_same
      · obtain ⟨ps', a1, a2, a3⟩ := t'
        refine ⟨ps', by rw [upd_ne (ne_of_none a1 nC), upd_ne hb]; exact a1, a2, fun p' cv hcv => ?_⟩
        obtain ⟨c0, e1, e2⟩ := a3 p' cv hcv
        exact ⟨c0, e1, nE _ _ e2 codeO_ne⟩
    · by_cases e1 : b = c'
      · subst e1; rw [upd_same]; exact fun z => nomatch z
      · rw [upd_ne e1]
        by_cases e2 : b = P
        · subst e2; rw [upd_same]; exact fun z => nomatch z
        · rw [upd_ne e2]; exact hb
    · have n1 : h'.objs.size ≠ c' := Nat.ne_of_gt hlt
      have n2 : h'.objs.size ≠ P := Nat.ne_of_gt (Nat.lt_of_lt_of_le (Heap.lt_size hP') hsz)
      rw [upd_ne n1, upd_ne n2]
      exact I.hok.fresh hsz
    · rw [upd_ne nc, upd_ne nP]
      exact ndt
  · obtain ⟨c', e, hco⟩ := ha pos cv hc
    rw [hn] at hco
    subst e
    have I1 : L2.Inv X pins σ H { t with heap := h'.push (dOb (X.env.qual ++ "<lambda>") params body scope (cloFrom X.env.cells scope.names []) ((X.mg "__name__").getD .none) (.ref c') ctv dt), toks := tk } := I.kept fun b o e => Heap.get?_push_of_some _ (hx b o e)
    exact h h'.objs.size c' dt du ((X.mg "__name__").getD .none) ctv H _ I1 (ExtN.refl H) (TbK.refl H) (fun _ h => h) (Heap.get?_push_size _ rfl) (Heap.get?_push_of_some _ (hx _ _ hdt)) (I.hok.fresh hsz) ndt (nofr _ hsz) fdt hco
end

/-- the scope of a lambda with the one own parameter a (none of N) -/
structure LamSD (N : List Str) (a : Str) (sc scope : Scope) : Prop where
  kd : scope.kind = .function
  nco : scope.isCoroutine = false
  ngen : scope.isGenerator = false
  ow : ∀ y ∈ scope.names, y.2 ≠ .cell ∧ (y.2 = .local → y.1 = a)
  nin : a ∉ N
  fr : ∀ y ∈ scope.names, y.2 = .free → sc.names.lookup y.1 = some .cell ∨ sc.names.lookup y.1 = some .free
  lc : scope.names.lookup a = some .local
def lamSDB (N : List Str) (a : Str) (sc scope : Scope) : Bool :=
  decide (scope.kind = .function) && (!scope.isCoroutine && (!scope.isGenerator && (scope.names.all (fun y => !decide (y.2 = .cell) && ((!decide (y.2 = .local) || decide (y.1 = a)) && (!decide (y.2 = .free) || (decide (sc.names.lookup y.1 = some .cell) || decide (sc.names.lookup y.1 = some .free))))) && (!decide (a ∈ N) && decide (scope.names.lookup a = some .local)))))
theorem lamSD_by {N : List Str} {a : Str} {sc scope : Scope} (h : lamSDB N a sc scope = true) : LamSD N a sc scope := by
  unfold lamSDB at h
  simp only [Bool.and_eq_true, Bool.or_eq_true, Bool.not_eq_true', decide_eq_true_eq, decide_eq_false_iff_not, List.all_eq_true] at h
  obtain ⟨h1, h2, h3, h4, h5, h6⟩ := h
  refine ⟨h1, h2, h3, fun y hy => ⟨(h4 y hy).1, fun e => ?_⟩, h5, fun y hy e => ?_, h6⟩
  · rcases (h4 y hy).2.1 with z | z
    · exact absurd e z
    · exact z
  · rcases (h4 y hy).2.2 with z | z
    · exact absurd e z
    · exact z
section
variable {X : Cx} {pins : List (Addr × Obj)} {σ : L2.St} {H HZ : Hp} {s s1 : Shared}
theorem LamSD.cells {N : List Str} {a : Str} {scope : Scope} (L : LamSD N a X.env.scope scope) (ok : X.Ok) : ∀ y ∈ scope.names, y.2 = .free → ∃ c, X.env.cells.lookup y.1 = some c := fun y hy e => by
  rcases L.fr y hy e with k | k
  · exact ok.has _ (.inl k)
  · exact ok.has _ (.inr k)
theorem lam_startD {a : Str} {dv : Value} {A : Around} {outer : List PySem.Env} {E : XK} {scope : Scope} {f c' : Addr} {h₁ : Heap} {tk : Nat} (I : L2.Inv X pins σ H s) (L : LamSD X.N a X.env.scope scope) (z0 : Env0 X.prog X.w X.K X.mg X.base A outer s1 HZ) (hd : A.handled = none)
    (un : Un (frs X.stack) [] H HZ s.heap s1.heap) (hns : h₁.Ns s1.heap.objs.size fun y => ([(a, dv)] : List (Str × Value)).reverse.lookup y) (kp : ∀ b o, s1.heap.get? b = some o → h₁.get? b = some o) :
    L2.Inv (lamCx X A outer s1 HZ E scope f c') [] σ HZ { s1 with heap := h₁, toks := tk } := by
  have fre := L.cells I.ok
  have up : ∀ {y c}, (cloFrom X.env.cells scope.names []).lookup y = some c → X.env.cells.lookup y = some c := fun {y c} q => by
    rcases cloFrom_mem (PySem.mem_of_lookup q) with m | ⟨g1, g2⟩
    · cases m
    · obtain ⟨c1, k⟩ := fre _ g1 rfl
      have k : X.env.cells.lookup y = some c1 := k
      have z : c = c1 := by rw [g2, k] <;> rfl
      rw [z]
      exact k
  have seen : ∀ {y}, scope.names.lookup y = some .free → ∃ c, (cloFrom X.env.cells scope.names []).lookup y = some c := fun {y} q => mem_lookup (cloFrom_has (cells := X.env.cells) (acc := []) (show (y, NameKind.free) ∈ scope.names from PySem.mem_of_lookup q))
  have celled : ∀ {c : Addr} {v : Option Value}, H c = none → s.heap.IsCell c v → h₁.IsCell c v := fun {c v} n ⟨o, q1, q2⟩ => by
    obtain ⟨sl, q⟩ := un.any q1 n (by simp)
    exact ⟨_, kp _ _ q, q2⟩
  have no : ∀ b : Addr, b ∉ (lamCx X A outer s1 HZ E scope f c').ex := fun b z => absurd (show b ∈ ([] : List Addr) from z) (by simp)
  refine ⟨⟨z0.mod, L.kd, rfl, rfl, Nat.le_refl _, fun y z c q1 q2 => I.ok.inj y z c (up q1) (up q2), fun y hy => ?_, fun y c z _ => ?_, fun _ => hd, Around.frames_deeper z0.frames, .inr ⟨rfl, rfl⟩, fun b z => absurd z (no b), z0.bs, z0.bsz, fun b _ _ => no b,
      fun b z => absurd z (no b), z0.funs, z0.frf⟩,
    rfl, z0.bare, Un.kept kp, ⟨_, hns, fun i y v q1 q2 q3 => ?_⟩, fun y c q => ?_, z0.hok.fresh (Nat.le_refl _), fun y c q => ?_, fun q hq => absurd (show q ∈ ([] : List (Addr × Obj)) ++ [] from hq) (by simp), z0.hok.kept kp, I.len⟩
  · have hy : scope.names.lookup y = some .cell ∨ scope.names.lookup y = some .free := hy
    rcases hy with hy | hy
    · exact absurd rfl (L.ow _ (PySem.mem_of_lookup hy)).1
    · exact seen hy
  · cases (show false = true from z)
  · have q3 : Vis scope y := q3
    rcases q3 with k | k | k
    · have ya : y = a := (L.ow _ (PySem.mem_of_lookup k)).2 rfl
      exact absurd (ya ▸ List.mem_of_getElem? (show X.N[i]? = some y from q1)) L.nin
    · exact absurd rfl (L.ow _ (PySem.mem_of_lookup k)).1
    · obtain ⟨m, g1, g2⟩ := I.loc
      have vis : Vis X.env.scope y := (L.fr _ (PySem.mem_of_lookup k) rfl).elim (fun k => .inr (.inl k)) (fun k => .inr (.inr k))
      obtain ⟨w', r, q⟩ := g2 i y v q1 q2 vis
      obtain ⟨c2, h2⟩ := seen k
      refine ⟨w', r, .inr ⟨.inr k, c2, h2, ?_⟩⟩
      have c1 := up h2
      rcases q with ⟨k', _⟩ | ⟨_, c3, e', z⟩
      · have k' : X.env.scope.names.lookup y = some .local := k'
        rcases L.fr _ (PySem.mem_of_lookup k) rfl with k2 | k2
        · rw [show X.env.scope.names.lookup y = _ from k2] at k'; cases k'
        · rw [show X.env.scope.names.lookup y = _ from k2] at k'; cases k'
      · rw [c1] at e'
        cases e'
        exact celled (I.freeC y _ c1) z
  · obtain ⟨w', z⟩ := I.cell y c (up q)
    exact ⟨w', celled (I.freeC y c (up q)) z⟩
  · obtain ⟨v, o, g1, g2⟩ := I.cell y c (up q)
    exact un.free c o g1 (I.freeC y c (up q)) (by simp)
/-- x(), x such a lambda -/
theorem pe_actD {CXg : CXT} {Eg : XK} {Ng : List Str} {qg : Str} {sg : Scope} {g f c' dt : Addr} {cdg pm ctv : Value} {params : Arguments} {body : Expr} {scope : Scope} {k i : Nat} {a ap : Str} {dk : Int} {du : Tok} {pn : List (Addr × Obj)} {xe : Value → Shared → Prop} {W : WX} {tb : XK → TE} {p1 p2 : Pos}
    (I : L2.Inv X pins σ H s) (L : LamSD X.N ap X.env.scope scope) (hf : s.heap.get? f = some (dOb (X.env.qual ++ "<lambda>") params body scope (cloFrom X.env.cells scope.names []) pm (.ref c') ctv dt)) (hdt : s.heap.get? dt = some { cls := .type "tuple", data := .seq #[.int dk du] }) (hfn : H f = none) (hdn : H dt = none) (hfr : f ∉ frs X.stack) (hdr : dt ∉ frs X.stack) (gd : X.A.guards = some [])
    (hbind : ∃ k, bindArgs (dFn (X.env.qual ++ "<lambda>") params body scope (cloFrom X.env.cells scope.names []) pm (.ref c') ctv dt) ⟨[], []⟩ = seqItems? (.ref dt) >>= k ∧ k (some #[.int dk du]) = pure [(ap, .int dk du)])
    (tk : Takes ((cxOf CXg X.prog X.w X.K X.mg X.base Ng qg sg g cdg X.A X.stack s H Eg).tr pn xe) W) (hr : Room (k + 1) (X.A.deeper (envOfC qg sg s.heap.objs.size g cdg)))
    (hbody : ∀ (A : Around) (outer : List PySem.Env) (s : Shared) (H : Hp) (E : XK), Room k (A.deeper (lamEnv X scope s.heap.objs.size f c')) → A.guards = some [] → PE (lamCx X A outer s H E scope f c') body (tb E))
    (hN : Ng[i]? = some a) (hv : Vis sg a) (hd : (a == ("__debug__" : Str)) = false := by decide) (hcd : (a == ("__classdict__" : Str)) = false := by decide) :
    PE ((cxOf CXg X.prog X.w X.K X.mg X.base Ng qg sg g cdg X.A X.stack s H Eg).tr pn xe) (.Call (.Name a p1) [] [] p2)
      (fun σZ HZ Q => σZ[i]? = some (some (.ref f)) ∧ HZ c' = some (CodeO c' (X.env.qual ++ "<lambda>")) ∧ tb (fun c d H => W c d σZ H) σ HZ Q) := by
  refine ⟨fun pinsZ sZ σZ HZ Q IZ h => ?_⟩
  obtain ⟨hs, hc, ht⟩ := h
  refine wpAny_Call_Name_kw (wpAny_mono ((pe_var (pos := p1) (i := i) hN hv hd hcd).run pinsZ sZ σZ HZ (fun v H1 => v = .ref f ∧ H1 = HZ) IZ ⟨.ref f, hs, rfl, rfl⟩) (fun u s1 ⟨v, H1, I1, r1, q1⟩ => ?_) fun _ _ z => z)
  obtain ⟨ev, eH⟩ := q1
  subst ev
  rw [eH] at I1
  obtain rfl : u = Value.ref f := r1
  have of1 : s1.heap.get? f = some (dOb (X.env.qual ++ "<lambda>") params body scope (cloFrom X.env.cells scope.names []) pm (.ref c') ctv dt) := I1.base.keep f _ hf hfn hfr (fun z => nomatch (show f ∈ ([] : List Addr) from z))
  have od1 : s1.heap.get? dt = some { cls := .type "tuple", data := .seq #[.int dk du] } := I1.base.keep dt _ hdt hdn hdr (fun z => nomatch (show dt ∈ ([] : List Addr) from z))
  refine PySem.W.callWith_F0 ⟨_, _, _, _, of1⟩ ?_
  have un : Un (frs X.stack) [] H HZ s.heap s1.heap := I1.base
  obtain ⟨⟨oc, vs, t, hoc, hdc, hvc⟩, _, _⟩ := I1.hok c' _ hc
  have rc : codeAny (model X.prog X.w) (X.A.deeper (envOfC qg sg s.heap.objs.size g cdg)) (.call (.ref f) ⟨[], []⟩) (CR (L2.CX X.prog X.w) (envOfC qg sg s.heap.objs.size g cdg :: X.stack) X.prog X.w HZ s1 Q (fun c d H => W c d σZ H)) s1 := by
    refine PySem.W.kla_callFunE hr.depth of1 rfl L.nco L.ngen rfl ⟨c', oc, vs, t, rfl, hoc, hdc, hvc⟩ ?_
    obtain ⟨kk, b1, b2⟩ := hbind
    refine BindsTo.of_defaults (binds := [(ap, .int dk du)]) rfl od1 rfl b1 b2 _ _ _ _ ?_
    refine wpAny_newFunctionEnv (fun y hy => (L.ow y hy).1) (fun y hy => by rw [List.mem_singleton.mp hy]; exact L.lc) (fun h₁ hns hsb => ⟨I1.nolimit.fresh _ hsb, ?_⟩) L.kd
    show codeAny _ _ (.expr body (lamEnv X scope s1.heap.objs.size f c')) _ _
    have kp : ∀ b o, s1.heap.get? b = some o → h₁.get? b = some o := fun b o e => hsb.extBut b o (Nat.ne_of_lt (Heap.lt_size e)) (Heap.get?_push_of_some _ e)
    have J : L2.Inv (lamCx X (X.A.deeper (envOfC qg sg s.heap.objs.size g cdg)) (envOfC qg sg s.heap.objs.size g cdg :: X.stack) s1 HZ (fun c d H => W c d σZ H) scope f c') [] σ HZ { s1 with heap := h₁, toks := s1.toks + ([(ap, Value.int dk du)] : List (Str × Value)).length } :=
      lam_startD I L I1.env0 hr.hd un hns kp
    refine PySem.W.kla_codeExpr (wpAny_mono ((hbody _ _ s1 HZ _ (hr.deeper _) gd).run [] _ _ HZ Q J ht) (fun v s' hq => ?_) fun e s' hq => hq)
    obtain ⟨w', H', J', rv, q⟩ := hq
    exact ⟨w', H', J'.os, J'.bare, J'.base, J'.hok, rv, q⟩
  have hx := passAt tk σZ
  refine wpAny_call (codeAny_mono rc fun r s' hq => ?_)
  cases r with
  | error e => exact hx pinsZ HZ s1 e s' I1 hq
  | ok fl =>
    cases fl with
    | ret u => exact I1.after hq
    | next => exact False.elim hq
    | brk => exact False.elim hq
    | cont => exact False.elim hq
end
section
variable {X : Cx} {B : Bs}
theorem ve_heardD {x ap : Str} {c P : Addr} {params : Arguments} {body de : Expr} {scope : Scope} {p lpos pos : Pos} {dk : Int} {hd : Rs → Option D} {fe : Env → Option (Out D)} {k j : Nat} (G : HeardB X.prog X.w X.K X.mg X.base k x hd) (hg : Gl X x) (TB : TabB X.base X.mg c P) (hcode : X.env.code = .ref c)
    (hn : LamN.tq lpos.line lpos.col = X.env.qual ++ "<lambda>") (hP : LamN.tb X.K P) (hr : Room (j + 2) X.A) (hk : k ≤ j + 1) (gd : X.A.guards = some []) (L : LamSD X.N ap X.env.scope scope)
    (hbody : ∀ (A : Around) (outer : List PySem.Env) (s : Shared) (H : Hp) (E : XK) (f c' : Addr) (B0 : Bs), Room j (A.deeper (lamEnv X scope s.heap.objs.size f c')) → A.guards = some [] → Tk (lamCx X A outer s H E scope f c') { B0 with E := fun _ => E } → ∃ t, VE (lamCx X A outer s H E scope f c') { B0 with E := fun _ => E } body t fe)
    (hde : PE X de (tC (.int dk))) (hkw : params.kwonlyargs = [] := by rfl)
    (hbind : ∀ (q : Str) (cl : List (Str × Addr)) (pm cv ctv : Value) (dt : Addr) (du : Tok), ∃ k, bindArgs (dFn q params body scope cl pm cv ctv dt) ⟨[], []⟩ = seqItems? (.ref dt) >>= k ∧ k (some #[.int dk du]) = pure [(ap, .int dk du)] := by intros; exact ⟨_, rfl, rfl⟩) (hdef : defaultsOf params X.env = ([eval de X.env], []) := by rfl)
    (hdb : (x == ("__debug__" : Str)) = false := by decide) : VE X B (.Call (.Name x p) [.Lambda params body scope lpos] [] pos) (tHeard X.K X.mg B hd fe) (eHeard hd fe) := by
  refine ⟨⟨fun pins s σ H Q I h => ?_⟩, fun ε σ F H Q r ok e p => ?_⟩
  · obtain ⟨ε, F, dr, ok, ee, fin⟩ := h
    obtain ⟨g, a, st, oc, od, dV, kV, doc, pm, an, cdv, ct, osl, Ng, hm, hkp, lk, hcg, hb, Sg, hNg, hva, had, hac, core⟩ := G.ex
    refine wpAny_Call_Name_kw (ld_glob I hg hm ?_ hdb)
    refine PySem.W.callWith_K (h₀ := X.base) I.ok.mod.kin hkp ?_ (by rfl) (by rfl)
    show wpAny _ _ (spliced ((false, eval (.Lambda params body scope lpos) X.env) :: backTo pos (starEach [] X.env))) _ _ s
    refine Calls.spliced_cons (lam_newD I TB hcode hn (ok.tab P hP) hdef hde hkw (L.cells I.ok) (fun _ _ z => z) fun f c' dt du pm' ctv H1 s' I1 eN tN th hf hdt hfn hdn hfr hdr hco => ?_)
    refine Calls.spliced_nil ⟨I1.kIn, ?_⟩
    have g1 : Go X.K F H F H1 := lam_go ok.sub ok.notb ok.tab eN tN th
    have ok1 := ok.go g1
    obtain ⟨out, rr, ho, hrr, hdr2⟩ : ∃ (out : Out D) (rr : Rs), fe (frE ε) = some out ∧ (match out with | .ok d _ => rr = .ok d | .ex x _ => rr = .error x) ∧ hd rr = some dr := by
      unfold eHeard at ee
      cases z : fe (frE ε) with
      | none => rw [z] at ee; cases ee
      | some out =>
        rw [z] at ee
        cases out with
        | ok d ε' =>
          obtain ⟨y, hy, e2⟩ := Option.map_eq_some_iff.mp ee
          cases e2
          exact ⟨_, .ok d, rfl, rfl, hy⟩
        | ex x ε' =>
          obtain ⟨y, hy, e2⟩ := Option.map_eq_some_iff.mp ee
          cases e2
          exact ⟨_, .error x, rfl, rfl, hy⟩
    let tb : XK → TE := fun E σ HZ Q' => ∃ (F2 : Hp) (ε2 : Env) (out : Out D), OkV X.K X.mg { bG F2 HZ with E := fun _ => E } ε2 σ F2 HZ ∧ fe ε2 = some out ∧ PostE X.K X.mg { bG F2 HZ with E := fun _ => E } σ F2 Q' out
    have body' : ∀ (A : Around) (outer : List PySem.Env) (s : Shared) (H : Hp) (E : XK), Room j (A.deeper (lamEnv X scope s.heap.objs.size f c')) → A.guards = some [] → PE (lamCx X A outer s H E scope f c') body (tb E) := fun A outer s H E hr2 gd2 => by
      refine ⟨fun pins2 s2 σ2 H2 Q2 I2 h2 => ?_⟩
      obtain ⟨F2, ε2, out2, ok2, e2, p2⟩ := h2
      obtain ⟨t, v⟩ := hbody A outer s H E f c' (bG F2 H2) hr2 gd2 (takes_of rfl rfl rfl rfl)
      exact v.pe.run pins2 s2 σ2 H2 Q2 I2 (v.den ε2 σ2 F2 H2 Q2 out2 ok2 e2 p2)
    have rc : codeAny (model X.prog X.w) X.A (.call (.ref g) ⟨[.ref f], []⟩) (CR (L2.CX X.prog X.w) X.stack X.prog X.w H1 s' Q (fun _ _ _ => False)) s' := by
      refine run_ofS (k := j + 1) (N := Ng) (ps := [a]) (us := [.ref f]) (vs := [.ref f]) lk hcg Sg hr I1.env0 (hb s' [.ref f] I1.kIn rfl) (.cons rfl .nil) rfl fun hr' => ?_
      refine core X.A X.stack s' H1 F f c' _ (fun E HZ Q' => tb E σ HZ Q') rr dr Q (hr'.mono hk) gd hdr2 g1.sub g1.not g1.kp.tab hco (fun E F2 H2 Q' g2 q2 => ?_) (fun v F2 H2 g2 rv => fin v F2 H2 (ok1.go g2) g2.grow rv)
        fun W pn xe p1 p2 tk => pe_actD (i := 0) I1 L hf hdt hfn hdn hfr hdr gd (hbind _ _ _ _ _ _ _) tk hr' (fun A outer s H E hr2 gd2 => body' A outer s H E hr2 gd2) hNg hva had hac
      refine ⟨F2, frE ε, out, (ok1.go g2).frE _, ho, ?_⟩
      cases out with
      | ok d ε' =>
        subst hrr
        exact fun v F3 H3 o s r => q2 v F3 H3 o.toGo r
      | ex x ε' =>
        subst hrr
        exact fun σ' F3 H3 C dd fs o s hm hx rf => q2 C dd fs F3 H3 o.toGo hm hx rf
    refine wpAny_call (codeAny_mono rc fun r s2 hq => ?_)
    cases r with
    | error e => exact (by obtain ⟨_, _, _, _, _, _, _, _, _, _, _, _, z⟩ := hq; exact z.elim)
    | ok fl =>
      cases fl with
      | ret u => exact I1.after hq
      | next => exact False.elim hq
      | brk => exact False.elim hq
      | cont => exact False.elim hq
  · have e0 := e
    unfold eHeard at e
    split at e
    · obtain ⟨y, hy, rfl⟩ := Option.map_eq_some_iff.mp e
      exact ⟨ε, F, y, ok, e0, p⟩
    · obtain ⟨y, hy, rfl⟩ := Option.map_eq_some_iff.mp e
      exact ⟨ε, F, y, ok, e0, p⟩
    · cases e
end
end VL
end

section
set_option Elab.async false
set_option linter.all false
set_option maxRecDepth 100000
set_option maxHeartbeats 4000000
/-! VLI: enumerate and zip over lists and tuples, in any mix. -/
namespace VL
open PySem PySem.Spec PyProof.Rows L2 PySem.Calls
/-- a list (true) or a tuple (false) -/
def SqK (b : Bool) (K : PySem.W.Frag) (H : Hp) (a : Addr) (xs : List V) : Prop := match b with
  | true => SqL K H a xs
  | false => SqT K H a xs
def itO (b : Bool) (a : Addr) : Obj := match b with
  | true => { cls := .type "list_iterator", data := .fields #[.ref a, .int 0 0] }
  | false => { cls := .type "tuple_iterator", data := .fields #[.ref a, .int 0 0] }
def ItS (b : Bool) (it a : Addr) (us : Array Value) (i : Nat) (h : Heap) : Prop := match b with
  | true => h.IsListIter it a i ∧ h.IsList a us
  | false => h.IsTupleIter it a i ∧ h.IsTuple a us
def IsS (b : Bool) (h : Heap) (a : Addr) (us : Array Value) : Prop := match b with
  | true => h.IsList a us
  | false => h.IsTuple a us
theorem draws_k {prog : Program} {w : World} {A : Around} (hh : A.handled = none) (b : Bool) (it a : Addr) (hne : a ≠ it) (us : Array Value) : Draws prog w A it [it, a] us.size (fun i v => us[i]? = some v) (ItS b it a us) := by
  cases b with
  | true => exact Draws.list hh it a hne us
  | false => exact Draws.tuple hh it a hne us
theorem begins_k (b : Bool) (a : Addr) (us : Array Value) : Begins (.ref a) (itO b a) fun h => IsS b h a us := by
  cases b with
  | true => exact begins_list a us
  | false => exact begins_tuple a us
theorem its_start {b : Bool} {it a : Addr} {us : Array Value} {h : Heap} (e : h.get? it = some (itO b a)) (s : IsS b h a us) : ItS b it a us 0 h := by
  cases b with
  | true => exact ⟨⟨_, e, rfl, rfl⟩, s⟩
  | false => exact ⟨⟨_, e, rfl, rfl⟩, s⟩
theorem isS_keep {b : Bool} {a : Addr} {us : Array Value} {h h' : Heap} (s : IsS b h a us) (k : ∀ c o, h.get? c = some o → h'.get? c = some o) : IsS b h' a us := (begins_k b a us).keeps h h' s k
theorem its_obj {b : Bool} {it a : Addr} {us : Array Value} {i : Nat} {h : Heap} (s : ItS b it a us i h) : ∃ o, h.get? it = some o ∧ ∀ v, o.data ≠ .cell v := by
  cases b with
  | true => obtain ⟨⟨o, h1, _, h3⟩, _⟩ := s; exact ⟨o, h1, fun v q => by rw [h3] at q; cases q⟩
  | false => obtain ⟨⟨o, h1, _, h3⟩, _⟩ := s; exact ⟨o, h1, fun v q => by rw [h3] at q; cases q⟩
/-- the iterator's own part goes on, where the row still stands -/
theorem its_it {b : Bool} {it a : Addr} {us us' : Array Value} {i : Nat} {h h' : Heap} (s : ItS b it a us i h) (k : ∀ o, h.get? it = some o → h'.get? it = some o) (r : IsS b h' a us') : ItS b it a us' i h' := by
  cases b with
  | true => exact ⟨s.1.at k, r⟩
  | false => exact ⟨s.1.at k, r⟩
theorem inv_sqK {X : Cx} {pins : List (Addr × Obj)} {σ : L2.St} {H : Hp} {s : Shared} (I : L2.Inv X pins σ H s) {b : Bool} {a : Addr} {xs : List V} (h : SqK b X.K H a xs) : ∃ its : List Value, Vals xs its ∧ IsS b s.heap a its.toArray ∧ xs.length ≤ sizeLine := by
  cases b with
  | true => obtain ⟨its, r, p, z⟩ := I.list h; exact ⟨its, r, p.isList, z⟩
  | false =>
    obtain ⟨its, r, p, z⟩ := I.tuple h
    exact ⟨its, r, p, z⟩
theorem inv_sqK_inj {X : Cx} {pins : List (Addr × Obj)} {σ : L2.St} {H : Hp} {s : Shared} (I : L2.Inv X pins σ H s) {b : Bool} {a : Addr} {xs ys : List V} (h : SqK b X.K H a xs) (h' : SqK b X.K H a ys) : xs = ys := by
  cases b with
  | true => exact I.list_inj h h'
  | false => exact I.tuple_inj h h'

def ItI (b : Bool) (it a : Addr) (i : Nat) (h : Heap) : Prop := match b with
  | true => h.IsListIter it a i
  | false => h.IsTupleIter it a i
theorem ItI.with {b : Bool} {it a : Addr} {us : Array Value} {i : Nat} {h : Heap} (s : ItI b it a i h) (r : IsS b h a us) : ItS b it a us i h := by
  cases b with
  | true => exact ⟨s, r⟩
  | false => exact ⟨s, r⟩
theorem ItI.of {b : Bool} {it a : Addr} {us : Array Value} {i : Nat} {h : Heap} (s : ItS b it a us i h) : ItI b it a i h := by
  cases b with
  | true => exact s.1
  | false => exact s.1
theorem ItI.at_ {b : Bool} {it a : Addr} {i : Nat} {h h' : Heap} (s : ItI b it a i h) (k : ∀ o, h.get? it = some o → h'.get? it = some o) : ItI b it a i h' := by
  cases b with
  | true => exact Heap.IsListIter.at s k
  | false => exact Heap.IsTupleIter.at s k
theorem ItI.obj {b : Bool} {it a : Addr} {i : Nat} {h : Heap} (s : ItI b it a i h) : ∃ o, h.get? it = some o ∧ ∀ v, o.data ≠ .cell v := by
  cases b with
  | true => obtain ⟨o, h1, _, h3⟩ := s; exact ⟨o, h1, fun v q => by rw [h3] at q; cases q⟩
  | false => obtain ⟨o, h1, _, h3⟩ := s; exact ⟨o, h1, fun v q => by rw [h3] at q; cases q⟩
/-! ### enumerate -/
def IteK (b : Bool) (K : PySem.W.Frag) (a : Addr) : It :=
  ⟨fun i H => ∃ (xs : List V) (x : V), SqK b K H a xs ∧ xs[i]? = some x, fun i H v H' => ∃ T x, v = .ref T ∧ H T = none ∧ H' = upd H T (.tup [.int (i : Nat), x]) ∧ ∀ xs, SqK b K H a xs → xs[i]? = some x, fun i H => ∃ xs : List V, SqK b K H a xs ∧ xs.length = i⟩
theorem turn_enumK {P : Program} {w : World} {K : PySem.W.Frag} {elts : List Expr} {kk : Nat} {tpos : Pos} (b : Bool) (a e it : Addr) :
    Turn P w K (.Tuple elts kk tpos) (IteK b K a) [e, it] e (fun i h => (∃ old, IsEnum h e it ((i : Nat) : Int) old) ∧ ItI b it a i h ∧ e ≠ it ∧ a ≠ it ∧ a ≠ e) where
  mem := by simp
  obj := fun i h st c hc => by
    obtain ⟨⟨old, he⟩, hi, _⟩ := st
    rcases List.mem_cons.mp hc with rfl | hc
    · exact ⟨_, he, fun v q => nomatch q⟩
    · rw [List.mem_singleton.mp hc]; exact hi.obj
  keep := fun i h h' st k => let ⟨⟨old, he⟩, hi, hne⟩ := st; ⟨⟨old, k e (by simp) _ he⟩, hi.at_ fun o q => k it (by simp) o q, hne⟩
  item := by
    intro X hP hw hK hc i pins s σ H E I hf st hg
    subst hP hw hK
    obtain ⟨⟨old, he⟩, hit, hne, hai, hae⟩ := st
    obtain ⟨xs, x, hq, hx⟩ := hg
    obtain ⟨its, rv, p, hz⟩ := inv_sqK I hq
    obtain ⟨u, hu, ru⟩ := rv.get hx
    have hu' : its.toArray[i]? = some u := by simpa using hu
    have hlt : i < its.toArray.size := (Array.getElem?_eq_some_iff.mp hu').1
    have hel : e < s.heap.objs.size := Heap.lt_size he
    have hil : it < s.heap.objs.size := by obtain ⟨_, q, _⟩ := hit.obj; exact Heap.lt_size q
    refine wpAny_pyNext_enum_itemC (draws_k (A := X.A.in1) (show X.A.in1.handled = none from I.ok.hd hc) b it a hai its.toArray) he (hit.with p) hlt hne (by simp [hne]; exact fun z => hae z.symm) fun x' h' tk hpx ho hit' hT hsz hk => ?_
    have ex : x' = u := by
      have hpx : its.toArray[i]? = some x' := hpx
      rw [hu'] at hpx; cases hpx; rfl
    subst ex
    refine ⟨_, rfl, wpAny_letOwnedTupleGo_enum (s := { s with heap := h', toks := tk + 1 }) ho fun h'' he' sb => ?_⟩
    have hT2 : h''.get? s.heap.objs.size = some { cls := .type "tuple", data := .seq #[.int i tk, x'] } := (sb.2 _ (Nat.ne_of_gt hel)).trans hT
    have new : ObjOk X.prog X.w (upd H s.heap.objs.size (.tup [.int (i : Nat), x])) h'' s.heap.objs.size (.tup [.int (i : Nat), x]) :=
      ⟨by show 2 ≤ sizeLine; decide, [.int i tk, x'], .cons ⟨_, rfl⟩ (.cons ru .nil), ⟨_, hT2, rfl, _, rfl⟩⟩
    have I1 : L2.Inv X pins σ (upd H s.heap.objs.size (.tup [.int (i : Nat), x])) { s with heap := h'', toks := tk + 1 } :=
      I.turnedNew (ch := [e, it]) (fun c ob hb q => (sb.2 c (fun z => hb (by simp [z]))).trans (hk c ob (fun z => hb (by simp [z])) (fun z => hb (by simp [z])) q)) hf (Nat.le_refl _) new
    refine ⟨.ref s.heap.objs.size, _, I1, rfl, ⟨_, x, rfl, I.hok.fresh (Nat.le_refl _), rfl, fun ys hy => by rw [inv_sqK_inj I hy hq]; exact hx⟩, ⟨⟨x', ?_⟩, (ItI.of hit').at_ fun o q => (sb.2 it (Ne.symm hne)).trans q, hne, hai, hae⟩, fun c hc => ?_⟩
    · rw [show ((i + 1 : Nat) : Int) = (i : Int) + 1 by omega]; exact he'
    · have hlt' : c < s.heap.objs.size := by
        rcases List.mem_cons.mp hc with rfl | hc
        · exact hel
        · rw [List.mem_singleton.mp hc]; exact hil
      rw [upd_ne (Nat.ne_of_lt hlt')]
      exact (hf c hc).1
  done := by
    intro X hP hw hK hc i pins s σ H E I hf st hg
    subst hP hw hK
    obtain ⟨⟨old, he⟩, hit, hne, hai, hae⟩ := st
    obtain ⟨xs, hq, hx⟩ := hg
    obtain ⟨its, rv, p, hz⟩ := inv_sqK I hq
    obtain ⟨f0, f1, f2, f3, f4, f5⟩ := hf it (by simp)
    have hl : its.toArray.size = i := by rw [List.size_toArray, ← rv.length]; exact hx
    refine wpAny_pyNext_enum_endD (draws_k (A := X.A.in1) (show X.A.in1.handled = none from I.ok.hd hc) b it a hai its.toArray) he (by rw [hl]; exact hit.with p) fun h' eb => ⟨rfl, I.turned (t' := s.toks) (fun c o hb q => eb c o hb q) f0 f1 f3 f4 f5⟩
  self := fun A i s Q E st h => let ⟨⟨_, he⟩, _⟩ := st; wpAny_pyIter_enum he h
set_option maxHeartbeats 2000000 in
theorem meets_enum1 {v : Value} {o : Obj} {H : Heap → Prop} (B : Begins v o H) :
    Meets (Builtin.«enumerate.__new__» ⟨[.type "enumerate", v], []⟩) (fun _ R s => H s.heap ∧ R (.ok (.ret (.ref (s.heap.push o).objs.size))) { s with heap := (s.heap.push o).push { cls := .type "enumerate", data := .fields #[.none, .bool false, .ref s.heap.objs.size, rawInt 0, .none, .none] } }) :=
  .of_wp fun prog w A R s h => by
    obtain ⟨hp, g, d, tk, os⟩ := s
    obtain ⟨h1, h⟩ := h
    have hsub := sub_enumerate
    have bg : ∀ {A' : Around} {E : Value → Shared → Prop} {Q : Value → Shared → Prop}, Q (.ref hp.objs.size) ⟨hp.push o, g, d, tk, os⟩ → wpAny (model prog w) A' (pyIter v) Q E ⟨hp, g, d, tk, os⟩ :=
      fun z => B.iter prog w _ _ ⟨hp, g, d, tk, os⟩ _ h1 z
    wp_walk using bg
    refine wpAny_stack_any fun st => wpAny_pure ?_
    split
    · rename_i c _ _ _ _ _
      cases (c == Value.type "enumerate")
      · wp_walk using bg
        exact ⟨_, rfl, h⟩
      · wp_walk using bg
        exact ⟨_, rfl, h⟩
    · wp_walk using bg
      exact ⟨_, rfl, h⟩
theorem enum_one {prog : Program} {w : World} {A : Around} {E : Value → Shared → Prop} {s : Shared} {v : Value} {o : Obj} {H : Heap → Prop} {Q : Value → Shared → Prop} (B : Begins v o H) (h1 : H s.heap)
    (h : ∀ h', IsEnum h' (s.heap.objs.size + 1) s.heap.objs.size 0 .none → h'.get? s.heap.objs.size = some o → (∀ b o, s.heap.get? b = some o → h'.get? b = some o) → Q (.ref (s.heap.objs.size + 1)) { s with heap := h' }) :
    wpAny (model prog w) A (call (.type "enumerate") [v]) Q E s := by
  refine callType_new F.called_enumerate (by decide) (F.typeCall_enumerate_1 _) (F.newCall_enumerate_1 _) (fun obj => F.args_object_init_2 obj _) F.entry_enumerate_new (meets_enum1 B) ⟨h1, ?_⟩
  have z1 : (s.heap.push o).objs.size = s.heap.objs.size + 1 := Heap.size_push ..
  show _ ∧ _
  rw [z1]
  have g1 : IsEnum ((s.heap.push o).push { cls := .type "enumerate", data := .fields #[.none, .bool false, .ref s.heap.objs.size, rawInt 0, .none, .none] }) (s.heap.objs.size + 1) s.heap.objs.size 0 .none := by
    have q := Heap.get?_push_size (s.heap.push o) (o := { cls := .type "enumerate", data := .fields #[.none, .bool false, .ref s.heap.objs.size, rawInt 0, .none, .none] }) rfl
    rw [z1] at q
    exact q
  exact ⟨⟨_, g1, rfl⟩, h _ g1 (Heap.get?_push_of_some _ (Heap.get?_push_size _ B.free)) fun b o x => Heap.get?_push_of_some _ (Heap.get?_push_of_some _ x)⟩
def iEnumK (K : PySem.W.Frag) (ta : TA) : TI := fun σ H R => ta σ H fun vs H1 => ∃ (b : Bool) (a : Addr) (xs : List V), vs = [.ref a] ∧ SqK b K H1 a xs ∧ R (IteK b K a) H1
theorem pi_enumK {X : Cx} {e : Expr} {ta : TA} {p pos tpos : Pos} {elts : List Expr} {kk : Nat} (hg : Gl X "enumerate") (hm : X.mg "enumerate" = none) (ha : PA X [e] ta) (hs : starEach [e] X.env = [(false, eval e X.env)] := by rfl) :
    PI X (.Tuple elts kk tpos) (.Call (.Name "enumerate" p) [e] [] pos) (iEnumK X.K ta) := by
  refine ⟨fun pins s σ H R I h => ?_⟩
  refine Call_ (ld_blt I hg hm boot_enumerate (PyProof.Rows.callWith_type1 (thn (ha.run pos pins s σ H _ I h) fun us s1 ⟨vs, H1, I1, r1, q1⟩ => ?_) hs rfl))
  obtain ⟨b, a, xs, ex, hq, q⟩ := q1
  subst ex
  cases r1 with
  | cons r rr =>
    cases rr
    cases r
    obtain ⟨its, rv, p', hz⟩ := inv_sqK I1 hq
    refine enum_one (begins_k b a its.toArray) p' fun h' he hit hk => wpAny_pyIter_enum he ?_
    have I2 : L2.Inv X pins σ H1 { s1 with heap := h' } := I1.kept (t' := s1.toks) hk
    have hal : a < s1.heap.objs.size := by
      cases b with
      | true => obtain ⟨o, e, _⟩ := p'; exact Heap.lt_size e
      | false => obtain ⟨o, e, _⟩ := p'; exact Heap.lt_size e
    refine ⟨s1.heap.objs.size + 1, [s1.heap.objs.size + 1, s1.heap.objs.size], _, _, H1, rfl, I2, turn_enumK b a (s1.heap.objs.size + 1) s1.heap.objs.size, ⟨⟨.none, he⟩, ItI.of (its_start hit (isS_keep p' hk)), Nat.succ_ne_self _, Nat.ne_of_lt hal, Nat.ne_of_lt (Nat.lt_succ_of_lt hal)⟩, fun c hc => ?_, q⟩
    have hle : s1.heap.objs.size ≤ c := by
      rcases List.mem_cons.mp hc with rfl | hc
      · exact Nat.le_add_right _ _
      · rw [List.mem_singleton.mp hc]; exact Nat.le_refl _
    exact I1.fpOk hle (I1.hok.fresh hle)
/-! ### the data level -/
variable [LamN]
def numI : Nat → List D → List D
  | _, [] => []
  | k, d :: ds => .tup [.int (k : Nat), d] :: numI (k + 1) ds
theorem numI_get {ds : List D} {k i : Nat} : (numI k ds)[i]? = (ds[i]?).map fun d => D.tup [.int ((k + i : Nat) : Int), d] := by
  induction ds generalizing k i with
  | nil => rfl
  | cons d ds ih =>
    cases i with
    | zero => rfl
    | succ i =>
      show (numI (k + 1) ds)[i]? = _
      rw [ih, show k + 1 + i = k + (i + 1) by omega]
      rfl
theorem numI_len {ds : List D} {k : Nat} : (numI k ds).length = ds.length := by
  induction ds generalizing k with
  | nil => rfl
  | cons d ds ih => show (numI (k + 1) ds).length + 1 = _; rw [ih]; rfl
/-- the items of a list or a tuple -/
def rowD : D → Option (List D)
  | .lst xs => some xs
  | .frl xs => some xs
  | .tup xs => some xs
  | _ => none
def iNum (fs : Env → Option (Out (List D))) : Env → Option (Out (List D)) := bnd fs fun ds => lift (match ds with
  | [d] => (rowD d).map (numI 0)
  | _ => none)
theorem sqK_mono {b : Bool} {K : PySem.W.Frag} {F H : Hp} {a : Addr} {vs : List V} (s : Same F H) (h : SqK b K F a vs) : SqK b K H a vs := by
  cases b with
  | true => exact s.seq h
  | false => exact same_sqT s h
theorem row_rep {K : PySem.W.Frag} {mg : Str → Option Value} {F : Hp} {v : V} {d : D} {ds : List D} (r : Rep K mg F v d) (h : rowD d = some ds) : ∃ b a vs, v = .ref a ∧ SqK b K F a vs ∧ RepL K mg F vs ds := by
  cases r with
  | lst h' r => cases h; exact ⟨true, _, _, rfl, SqL.of h', r⟩
  | frl h' r => cases h; exact ⟨true, _, _, rfl, h', r⟩
  | tup h' r => cases h; exact ⟨false, _, _, rfl, h', r⟩
  | _ => cases h
section
variable {K : PySem.W.Frag} {mg : Str → Option Value}
theorem laidT {B : Bs} {ε : Env} {σ : L2.St} {F2 H : Hp} (ok : OkV K mg B ε σ F2 H) {T : Addr} (hp : H T = none) {vs : List V} {ds : List D} (r : RepL K mg F2 vs ds) :
    OkV K mg B ε σ (upd F2 T (.tup vs)) (upd H T (.tup vs)) ∧ Same F2 (upd F2 T (.tup vs)) ∧ Same H (upd H T (.tup vs)) ∧ (∀ a, H a ≠ none → F2 a = none → upd F2 T (.tup vs) a = none) ∧ Rep K mg (upd F2 T (.tup vs)) (.ref T) (.tup ds) := by
  have s := same_laid ok hp (.tup vs)
  refine ⟨ok.laid hp _, s, upd_same_of hp, fun a h1 h2 => ?_, .tup (SqT.of upd_same) (r.mono s)⟩
  by_cases z : a = T
  · subst z; exact absurd hp h1
  · rw [upd_ne z]; exact h2
theorem walkD_num {F : Hp} {B : Bs} {b : Bool} {a : Addr} {vs : List V} {ds : List D} (h : SqK b K F a vs) (r : RepL K mg F vs ds) : WalkD K mg B (IteK b K a) (numI 0 ds) F := by
  refine ⟨fun i H hi s => ?_, fun H s => ⟨vs, sqK_mono s h, by rw [numI_len, r.length]⟩, fun i d x H H' ε σ F2 ed ok s y => ?_⟩
  · rw [numI_len, ← r.length] at hi
    exact ⟨vs, _, sqK_mono s h, List.getElem?_eq_getElem hi⟩
  · rw [numI_get] at ed
    obtain ⟨d0, e0, rfl⟩ := Option.map_eq_some_iff.mp ed
    obtain ⟨T, u, rfl, hT, rfl, hu⟩ := y
    have e1 := hu _ (sqK_mono ok.sub (sqK_mono s h))
    obtain ⟨u', e2, r2⟩ := r.get e0
    rw [e2] at e1; cases e1
    rw [Nat.zero_add]
    exact ⟨_, laidT ok hT (.cons (.int _) (.cons (r2.mono s) .nil))⟩
end
theorem vg_tupK {X : Cx} {B : Bs} {es : List Expr} {pos : Pos} {k n : Nat} {is : List Nat} {t2 : TGs} {g2 : List D → VL.Env → Option VL.Env} {K : PySem.W.Frag} (hK : X.K = K) (hc : X.calm = true) (h : VGs X B is es t2 g2)
    (hn : (assignEach es X.env).length = n := by rfl) (hst : (assignEach es X.env).findIdx? (·.1) = none := by rfl) : VG X B is (.Tuple es k pos) (gTup K n t2) (gTupD n g2) := hK ▸ vg_tup hc h hn hst
/-! the rules that tell of frozen heaps, their K told first (within a comprehension it cannot be found) -/
def rLenK (K : PySem.W.Frag) : List V → Hp → VK → Prop := fun xs H Q => (∃ p ys, xs = [.ref p] ∧ (SqL K H p ys ∨ SqT K H p ys) ∧ Q (.int ys.length) H) ∨ ∃ z, xs = [.str z] ∧ z.length ≤ sizeLine ∧ Q (.int z.length) H
theorem call_lenK {X : Cx} {K : PySem.W.Frag} (hK : X.K = K) : CallR X (.builtin "len") (rLenK K) := hK ▸ (call_len_seq.or call_len_str)
theorem cd_lenK {K : PySem.W.Frag} {mg : Str → Option Value} : CallH K mg (rLenK K) bLen := cd_len
theorem cr_sumK {X : Cx} {K : PySem.W.Frag} (hK : X.K = K) (hc : X.calm = true) : CallR X (.builtin "sum") (rSum K) := hK ▸ cr_sum hc
theorem cr_allK {X : Cx} {K : PySem.W.Frag} (hK : X.K = K) (hc : X.calm = true) : CallR X (.builtin "all") (rAll K) := hK ▸ cr_all hc
theorem cr_anyK {X : Cx} {K : PySem.W.Frag} (hK : X.K = K) (hc : X.calm = true) : CallR X (.builtin "any") (rAny K) := hK ▸ cr_any hc
section
variable {X : Cx} {B : Bs} {a b e : Expr} {rest : List Expr} {ta tb te : TE} {fa fb fe : VL.Env → Option (Out D)} {pos p : Pos} {K : PySem.W.Frag}
theorem ve_addK (hK : X.K = K) (ha : VE X B a ta fa) (hb : VE X B b tb fb) : VE X B (.BinOp a .Add b pos) (tOp (rAddA K) ta tb) (e2 oAdd fa fb) := hK ▸ ve_add ha hb
theorem ve_ixK (hK : X.K = K) (ha : VE X B a ta fa) (hb : VE X B b tb fb) (hs : PlainIx b := by exact fun _ _ => rfl) : VE X B (.Subscript a b pos) (tOp (rIx K) ta tb) (e2 oIx fa fb) := hK ▸ ve_ix ha hb hs
theorem ve_ixBK {x : Str} {px : Pos} (hK : X.K = K) (i : Nat) (hb : VE X B b tb fb) (hs : PlainIx b := by exact fun _ _ => rfl) (hN : X.N[i]? = some x := by rfl) (hv : Vis X.env.scope x := by first | exact Or.inl rfl | exact Or.inr (Or.inl rfl) | exact Or.inr (Or.inr rfl)) (hd : (x == ("__debug__" : Str)) = false := by decide)
    (hcd : (x == ("__classdict__" : Str)) = false := by decide) : VE X B (.Subscript (.Name x px) b pos) (tOp (rIx K) (tVar i) tb) (eB2 oIx i fb) := hK ▸ ve_ixB i hb hs hN hv hd hcd
theorem ve_stepK {st : Expr} {tk : TE} {fk : VL.Env → Option (Out D)} {p2 : Pos} (hK : X.K = K) (he : VE X B e te fe) (hk : VE X B st tk fk) : VE X B (.Subscript e (.Slice none none (some st) p2) pos) (tStep (rStA K) te tk) (eStep fe fk) := hK ▸ ve_step he hk
theorem ve_orK (hK : X.K = K) (ha : VE X B a ta fa) (hb : VE X B (.BoolOp .Or (b :: rest) pos) tb fb) : VE X B (.BoolOp .Or (a :: b :: rest) pos) (tOrT K ta tb) (eOr fa fb) := hK ▸ ve_or ha hb
theorem ve_andK (hK : X.K = K) (ha : VE X B a ta fa) (hb : VE X B (.BoolOp .And (b :: rest) pos) tb fb) : VE X B (.BoolOp .And (a :: b :: rest) pos) (tAndT K ta tb) (eAnd fa fb) := hK ▸ ve_and ha hb
theorem ve_notK (hK : X.K = K) (ha : VE X B a ta fa) : VE X B (.UnaryOp .Not a pos) (tNotT K ta) (eNot fa) := hK ▸ ve_not ha
theorem ve_tupleK (hK : X.K = K) (hg : Gl X "tuple") (hm : X.mg "tuple" = none) (he : VE X B e te fe) (st : starEach [e] X.env = (false, eval e X.env) :: starEach [] X.env := by rfl) : VE X B (.Call (.Name "tuple" p) [e] [] pos) (tCB (rTup K) (tCons te tNil)) (e1 bTuple fe) := hK ▸ ve_tuple hg hm he st
end
theorem vi_num {X : Cx} {B : Bs} {e : Expr} {ts : TA} {fs : Env → Option (Out (List D))} {p pos tpos : Pos} {elts : List Expr} {kk : Nat} (hg : Gl X "enumerate") (hm : X.mg "enumerate" = none) (ha : VA X B [e] ts fs) (hs : starEach [e] X.env = [(false, eval e X.env)] := by rfl) :
    VI X B (.Tuple elts kk tpos) (.Call (.Name "enumerate" p) [e] [] pos) (iEnumK X.K ts) (iNum fs) := ⟨pi_enumK hg hm ha.pa hs, fun ε σ F H R r ok e p => by
  rcases bnd_some e with ⟨y, ε', e1, rfl⟩ | ⟨ds, ε1, e1, e⟩
  · exact ha.den ε σ F H _ _ ok e1 p
  refine ha.den ε σ F H _ _ ok e1 fun vs F1 H1 ok1 s1 r1 => ?_
  obtain ⟨it, ed, rfl⟩ := lift_some e
  split at ed
  · obtain ⟨xs, ex, rfl⟩ := Option.map_eq_some_iff.mp ed
    cases r1 with | cons q r1 => cases r1 with | nil =>
    obtain ⟨b, a, us, rfl, hq, ru⟩ := row_rep q ex
    exact ⟨b, a, us, rfl, sqK_mono ok1.sub hq, p _ F1 H1 ok1 s1 (walkD_num hq ru)⟩
  · cases ed⟩
end VL
end

section
set_option Elab.async false
set_option linter.all false
set_option maxRecDepth 100000
set_option maxHeartbeats 4000000
/-! VLO: x[k] += e, lists frozen ahead of a lambda, new lists last in a row of targets, range downwards, a dict of one pair. -/
namespace VL
open PySem PySem.Spec PyProof.Rows L2 PySem.Calls
variable [LamN]
section
variable {X : Cx} {B : Bs} {a b c e : Expr} {es : List Expr} {ss : List Stmt} {ta tb tc te tn : TE} {fa fb fc fe fk : VL.Env → Option (Out D)} {fn : VL.Env → Option (Out (List D))} {pos p : Pos} {tss : TS} {g : SF}
/-! ### freezing -/
def sFrz (i : Nat) : SF := fun ε => match ε[i]? with
  | some (some (.ow false ds)) => some (.nx (ε.set i (some (.fr (.lst ds)))))
  | _ => some (.nx ε)
theorem vss_frz (i : Nat) (h : VSs X B ss tss g) : VSs X B ss tss (sSeq (sFrz i) g) := ⟨h.ps, fun ε σ F H E r ok e p => by
  unfold sSeq sFrz at e
  split at e
  · rename_i ε' e1
    split at e1
    · rename_i ds e0
      cases e1
      obtain ⟨v, a, q, vs, ev, f0, hq, rr, h0⟩ := ok.slot i _ e0
      subst ev
      exact h.den _ σ _ H E r (ok.frz e0 a hq) e (p.mono (upd_same_of f0))
    · cases e1
      exact h.den _ σ F H E r ok e p
  · rename_i e2
    split at e2
    · exact absurd rfl (e2 _)
    · exact absurd rfl (e2 _)⟩
/-! ### a new list last in a row of targets -/
def sParO2 (i j : Nat) (fa : VL.Env → Option (Out D)) (fn : VL.Env → Option (Out (List D))) : SF := sE fa fun d ε1 => sE fn (fun ds ε2 => some (.nx ((ε2.set i (some (.fr d))).set j (some (.ow false ds))))) ε1
theorem vs_parO2 {i j : Nat} {x y : Str} {px py pt : Pos} {kt k2 pt2} (hc : X.calm = true) (hN : X.N.Nodup) (hi : X.N[i]? = some x) (hj : X.N[j]? = some y) (hij : i ≠ j)
    (hx : X.env.scope.names.lookup x = some .local) (hy : X.env.scope.names.lookup y = some .local) (ha : VE X B a ta fa) (hb : VN X B b tn fn)
    (hw : swappedStores [.Tuple [.Name x px, .Name y py] kt pt] (.Tuple [a, b] k2 pt2) X.env = pure (some [x, y]))
    (hs1 : starEach [a, b] X.env = (false, eval a X.env) :: starEach [b] X.env := by rfl) (hs2 : starEach [b] X.env = (false, eval b X.env) :: starEach [] X.env := by rfl)
    (hs : swapsWithSole [.Tuple [.Name x px, .Name y py] kt pt] (.Tuple [a, b] k2 pt2) pos.line X.env = pure false := by rfl) :
    VS X B (.Assign [.Tuple [.Name x px, .Name y py] kt pt] (.Tuple [a, b] k2 pt2) pos) (tPar i j (tCons ta (tCons tn tNil))) (sParO2 i j fa fn) := ⟨ps_par hc hN hi hj hij hx hy (pa_cons ha.pe (pa_cons hb.pe pa_nil hs2) hs1) hw hs, fun ε σ F H E r ok e p => by
  rcases sE_some e with ⟨x, ε', e1, rfl⟩ | ⟨d, ε1, e1, e⟩
  · exact ha.den ε σ F H _ _ ok e1 p
  refine ha.den ε σ F H _ _ ok e1 fun v F1 H1 ok1 s1 r1 => ?_
  rcases sE_some e with ⟨x, ε', e2, rfl⟩ | ⟨ds, ε2, e2, e⟩
  · exact hb.den _ σ F1 H1 _ _ ok1 e2 (XPost.mono p s1)
  refine hb.den _ σ F1 H1 _ _ ok1 e2 fun q vs F2 H2 ok2 s2 hq r2 => ?_
  cases e
  exact ⟨_, _, rfl, p _ F2 _ ((ok2.setF (r1.mono s2) i).setO hq r2 j) (s1.trans s2)⟩⟩
def sParO3 (i j l : Nat) (fa fb : VL.Env → Option (Out D)) (fn : VL.Env → Option (Out (List D))) : SF := sE fa fun d ε1 => sE fb (fun d2 ε2 => sE fn (fun ds ε3 => some (.nx (((ε3.set i (some (.fr d))).set j (some (.fr d2))).set l (some (.ow false ds))))) ε2) ε1
theorem vs_parO3 {i j l : Nat} {x y z : Str} {px py pz pt : Pos} {kt k2 pt2} (hc : X.calm = true) (hN : X.N.Nodup) (hi : X.N[i]? = some x) (hj : X.N[j]? = some y) (hl : X.N[l]? = some z) (hij : i ≠ j) (hil : i ≠ l) (hjl : j ≠ l)
    (hx : X.env.scope.names.lookup x = some .local) (hy : X.env.scope.names.lookup y = some .local) (hz : X.env.scope.names.lookup z = some .local) (ha : VE X B a ta fa) (hb : VE X B b tb fb) (hn : VN X B c tn fn)
    (hw : swappedStores [.Tuple [.Name x px, .Name y py, .Name z pz] kt pt] (.Tuple [a, b, c] k2 pt2) X.env = pure (some [x, y, z]))
    (hs1 : starEach [a, b, c] X.env = (false, eval a X.env) :: starEach [b, c] X.env := by rfl) (hs2 : starEach [b, c] X.env = (false, eval b X.env) :: starEach [c] X.env := by rfl) (hs3 : starEach [c] X.env = (false, eval c X.env) :: starEach [] X.env := by rfl)
    (hs : swapsWithSole [.Tuple [.Name x px, .Name y py, .Name z pz] kt pt] (.Tuple [a, b, c] k2 pt2) pos.line X.env = pure false := by rfl) :
    VS X B (.Assign [.Tuple [.Name x px, .Name y py, .Name z pz] kt pt] (.Tuple [a, b, c] k2 pt2) pos) (tPar3 i j l (tCons ta (tCons tb (tCons tn tNil)))) (sParO3 i j l fa fb fn) := ⟨ps_par3 hc hN hi hj hl hij hil hjl hx hy hz (pa_cons ha.pe (pa_cons hb.pe (pa_cons hn.pe pa_nil hs3) hs2) hs1) hw hs, fun ε σ F H E r ok e p => by
  rcases sE_some e with ⟨x, ε', e1, rfl⟩ | ⟨d, ε1, e1, e⟩
  · exact ha.den ε σ F H _ _ ok e1 p
  refine ha.den ε σ F H _ _ ok e1 fun v F1 H1 ok1 s1 r1 => ?_
  rcases sE_some e with ⟨x, ε', e2, rfl⟩ | ⟨d2, ε2, e2, e⟩
  · exact hb.den _ σ F1 H1 _ _ ok1 e2 (XPost.mono p s1)
  refine hb.den _ σ F1 H1 _ _ ok1 e2 fun v2 F2 H2 ok2 s2 r2 => ?_
  rcases sE_some e with ⟨x, ε', e3, rfl⟩ | ⟨ds, ε3, e3, e⟩
  · exact hn.den _ σ F2 H2 _ _ ok2 e3 (XPost.mono p (s1.trans s2))
  refine hn.den _ σ F2 H2 _ _ ok2 e3 fun q vs F3 H3 ok3 s3 hq r3 => ?_
  cases e
  exact ⟨_, _, _, rfl, p _ F3 _ (((ok3.setF (r1.mono (s2.trans s3)) i).setF (r2.mono s3) j).setO hq r3 l) ((s1.trans s2).trans s3)⟩⟩
/-! ### range downwards -/
def downD (hi lo : Int) : List D := (List.range (hi - lo).toNat).map fun i => D.int (hi - (i : Nat))
def iRange3 (fs : VL.Env → Option (Out (List D))) : VL.Env → Option (Out (List D)) := bnd fs fun ds => lift (match ds with
  | [.int i, .int j, .int k] => if k = -1 ∧ -(2 ^ 62) ≤ i ∧ i < 2 ^ 62 ∧ -(2 ^ 62) ≤ j ∧ j < 2 ^ 62 then some (downD i j) else none
  | _ => none)
theorem walkD_down {K : PySem.W.Frag} {mg : Str → Option Value} {F : Hp} {hi lo : Int} : WalkD K mg B (Itc hi (-1) (hi - lo).toNat) (downD hi lo) F := by
  have w := walk_rangeC (lo := hi) (c := -1) (n := (hi - lo).toNat)
  unfold downD
  refine ⟨fun i H h s => w.goes i H (by simpa using h) trivial, fun H s => by rw [List.length_map, List.length_range]; exact w.stops H trivial, fun i d x H H' ε σ F2 ed ok s y => ?_⟩
  rw [List.getElem?_map] at ed
  obtain ⟨c, ec, rfl⟩ := Option.map_eq_some_iff.mp ed
  have h : i < (hi - lo).toNat := by have := (List.getElem?_eq_some_iff.mp ec).1; simpa using this
  have hc : c = i := by
    rw [List.getElem?_range h] at ec
    exact (Option.some.inj ec).symm
  subst hc
  obtain ⟨rfl, rfl⟩ := w.yields _ H x H' h trivial y
  refine ⟨F2, ok, Same.refl _, Same.refl _, fun _ _ h => h, ?_⟩
  have e : hi + (c : Nat) * (-1) = hi - (c : Nat) := by omega
  dsimp only
  rw [e]
  exact .int _
theorem vi_range3 {tg : Expr} {ts : TA} {fs : VL.Env → Option (Out (List D))} (hg : Gl X "range") (hm : X.mg "range" = none) (ha : VA X B [a, b, c] ts fs) (hs : starEach [a, b, c] X.env = (false, eval a X.env) :: starEach [b, c] X.env := by rfl) (hpl : (backTo pos (starEach [b, c] X.env)).any (·.1) = false := by rfl) :
    VI X B tg (.Call (.Name "range" p) [a, b, c] [] pos) (iRng3 ts) (iRange3 fs) := ⟨pi_range3 hg hm ha.pa hs hpl, fun ε σ F H R r ok e p => by
  rcases bnd_some e with ⟨y, ε', e1, rfl⟩ | ⟨ds, ε1, e1, e⟩
  · exact ha.den ε σ F H _ _ ok e1 p
  refine ha.den ε σ F H _ _ ok e1 fun vs F1 H1 ok1 s1 r1 => ?_
  obtain ⟨it, ed, rfl⟩ := lift_some e
  split at ed
  · split at ed
    · rename_i hl
      obtain ⟨rfl, h1, h2, h3, h4⟩ := hl
      cases ed
      cases r1 with | cons q r1 => cases r1 with | cons q' r1 => cases r1 with | cons q'' r1 => cases r1 with | nil => cases q with | int _ => cases q' with | int _ => cases q'' with | int _ =>
      exact ⟨_, _, _, _, rfl, RgC.neg h1 h2 h3 h4, p _ F1 H1 ok1 s1 walkD_down⟩
    · cases ed
  · cases ed⟩
/-! ### a dict of one pair of integers -/
theorem ve_dic1 {i j : Int} {k1 k2} {p1 p2 : Pos} : VE X B (.Dict [some (.Constant (.int i) k1 p1)] [.Constant (.int j) k2 p2] pos) (tDisp [(tC (.int i), tC (.int j))]) (eK (.dic [(.inl i, .int j)])) :=
  ⟨pe_disp (pps_cons pe_int pe_int pps_nil) rfl rfl (by simp) (by simp), fun ε σ F H Q r ok e p => by
  cases e
  intro a ha
  refine ⟨upd_same, [(.inl i, .int j)], rfl, by simp, ?_⟩
  have hm : mergeK [] [((.inl i : Key), V.int j)] = [(.inl i, .int j)] := rfl
  rw [hm]
  have eu : upd (upd H a (.dK [])) a (.dK [(.inl i, V.int j)]) = upd H a (.dK [(.inl i, .int j)]) := by
    funext b
    by_cases hb : b = a
    · subst hb; rw [upd_same, upd_same]
    · rw [upd_ne hb, upd_ne hb, upd_ne hb]
  rw [eu]
  exact p _ _ _ (ok.laid ha _) (same_laid ok ha _) (.dic upd_same (.cons (.int _) .nil))⟩
/-! ### x[k] op= e, x an owned slot -/
def rGetL : V → V → Hp → VK → Prop := fun x y H Q => ∃ p xs i v, x = .ref p ∧ y = .int i ∧ H p = some (.lst xs) ∧ atI xs i = some v ∧ Q v H
theorem get_listP : PGet X rGetL := by
  intro pins s σ H x y v u Q I rx ry h
  obtain ⟨q, xs, i, z, rfl, rfl, hq, he, h⟩ := h
  cases rx
  obtain ⟨t, rfl⟩ := ry
  obtain ⟨its, r, pl, hz⟩ := I.list (SqL.of hq)
  obtain ⟨j, h1, h2, h3, h4, h5⟩ := atI_get he
  obtain ⟨w, ew, rw'⟩ := r.get h2
  have hl := r.length
  have hn := line63
  have fin : EP X pins σ Q w s := ⟨z, H, I, rw', h⟩
  by_cases h0 : 0 ≤ i
  · have hj : i.toNat = j := by
      rw [seqIndex_of h0 h5] at h1
      exact Option.some.inj h1
    exact wpAny_getItem_list pl.isList h0 (by omega) (by rw [hj]; simpa using ew) fin
  · have hj : (i + (its.toArray.size : Int)).toNat = j := by
      rw [seqIndex_neg (by omega) h4] at h1
      rw [List.size_toArray, ← hl]
      exact Option.some.inj h1
    exact wpAny_getItem_list_neg (Q := EP X pins σ Q) pl.isList (by omega) (by rw [List.size_toArray] <;> omega) (by omega) (by rw [hj]; simpa using ew) fin
def sPutA (i : Nat) (g : Int → Int → Int) (fk fe : VL.Env → Option (Out D)) : SF := fun ε => match rdS i ε with
  | none => none
  | some _ => sE fk (fun kd ε1 => match kd, ε1[i]? with
    | .int z, some (some (.ow _ ds)) => match atI ds z with
      | some (.int a) => sE fe (fun d ε2 => match d, ε2[i]? with
        | .int b, some (some (.ow l2 ds2)) => (ixN ds2.length z).map fun j => .nx (ε2.set i (some (.ow l2 (ds2.set j (.int (g a b))))))
        | _, _ => none) ε1
      | _ => none
    | _, _ => none) ε
theorem vs_putA {px p2 : Pos} {x : Str} {op : Operator} {gi : Int → Int → Int} (i : Nat) (he : VE X B e te fe) (hk : VE X B a ta fa) (ho : PIp X op (ipI gi)) (hN : X.N[i]? = some x := by rfl) (hv : Vis X.env.scope x := by first | exact Or.inl rfl | exact Or.inr (Or.inl rfl) | exact Or.inr (Or.inr rfl)) (hd : (x == ("__debug__" : Str)) = false := by decide) (hcd : (x == ("__classdict__" : Str)) = false := by decide)
    (ha : ∀ ov iv new, augStore a ov iv new = (do holding [new, ov, iv] (setItem ov iv new); release [new, ov, iv] []; pure .next) := by intros; rfl) :
    VS X B (.AugAssign (.Subscript (.Name x px) a p) op e p2) (tAugS (tVar i) ta te rGetL (ipI gi) rSetL) (sPutA i gi fa fe) := ⟨ps_augS (pe_var hN hv hd hcd) hk.pe get_listP he.pe ho set_list ha, fun ε σ F H E r ok e p => by
  unfold sPutA at e
  split at e
  · cases e
  rename_i d0 er
  obtain ⟨v0, sv0, _⟩ := ok.rd er
  refine ⟨v0, sv0, ?_⟩
  rcases sE_some e with ⟨x, ε', e1, rfl⟩ | ⟨kd, ε1, e1, e⟩
  · exact hk.den ε σ F H _ _ ok e1 p
  refine hk.den ε σ F H _ _ ok e1 fun v1 F1 H1 ok1 s1 r1 => ?_
  split at e
  · rename_i z l ds ei
    obtain ⟨q, vs, sv, _, hq, rr⟩ := ok1.ow ei
    rw [sv0] at sv; cases sv
    cases r1
    split at e
    · rename_i av ea
      obtain ⟨w, ea2, rw'⟩ := atI_rep rr ea
      cases rw' with | int _ =>
      refine ⟨q, vs, z, _, rfl, rfl, hq, ea2, ?_⟩
      rcases sE_some e with ⟨x, ε', e2, rfl⟩ | ⟨d, ε2, e2, e⟩
      · exact he.den ε1 σ F1 H1 _ _ ok1 e2 (XPost.mono p s1)
      refine he.den ε1 σ F1 H1 _ _ ok1 e2 fun v2 F2 H2 ok2 s2 r2 => ?_
      split at e
      · rename_i b l2 ds2 ei2
        obtain ⟨j2, ej, rfl⟩ := Option.map_eq_some_iff.mp e
        obtain ⟨q2, vs2, sv, _, hq2, rr2⟩ := ok2.ow ei2
        rw [sv0] at sv; cases sv
        cases r2
        exact ⟨_, _, rfl, rfl, q, vs2, z, j2, rfl, rfl, hq2, by rw [rr2.length]; exact ej, p σ F2 _ (ok2.setM ei2 sv0 (rr2.set j2 (.int _))) (s1.trans s2)⟩
      · cases e
    · cases e
  · cases e⟩
end
end VL
end

section
set_option Elab.async false
set_option linter.all false
set_option maxRecDepth 100000
set_option maxHeartbeats 4000000
/-! VLJ: zip of two, lists and tuples in any mix. -/
namespace VL
open PySem PySem.Spec PyProof.Rows L2 PySem.Calls
variable [LamN]
def ItzK (b1 b2 : Bool) (K : PySem.W.Frag) (a1 a2 : Addr) : It :=
  ⟨fun i H => ∃ (xs ys : List V) (x y : V), SqK b1 K H a1 xs ∧ SqK b2 K H a2 ys ∧ xs[i]? = some x ∧ ys[i]? = some y, fun i H v H' => ∃ T x y, v = .ref T ∧ H T = none ∧ H' = upd H T (.tup [x, y]) ∧ (∀ xs, SqK b1 K H a1 xs → xs[i]? = some x) ∧ ∀ ys, SqK b2 K H a2 ys → ys[i]? = some y,
    fun i H => ∃ xs ys : List V, SqK b1 K H a1 xs ∧ SqK b2 K H a2 ys ∧ i ≤ xs.length ∧ i ≤ ys.length ∧ (i = xs.length ∨ i = ys.length)⟩
structure ZSt (b1 b2 : Bool) (a1 a2 zz tI tO j1 j2 : Addr) (i : Nat) (h : Heap) : Prop where
  zip : IsZip h zz tI tO .none
  its : IsTupOf2 h tI (.ref j1) (.ref j2)
  out : ∃ x y, IsTupOf2 h tO x y
  s1 : ItI b1 j1 a1 i h
  s2 : ItI b2 j2 a2 i h
  sep : ZipSep2 zz tI tO j1 j2 [j1, a1] [j2, a2]
  n1 : a1 ≠ j1
  n2 : a2 ≠ j2
theorem five {α : Type} {c a1 a2 a3 a4 a5 : α} (h : c ∈ [a1, a2, a3, a4, a5]) : c = a1 ∨ c = a2 ∨ c = a3 ∨ c = a4 ∨ c = a5 := by simpa using h
theorem turn_zipK {P : Program} {w : World} {K : PySem.W.Frag} {elts : List Expr} {kk : Nat} {tpos : Pos} (b1 b2 : Bool) (a1 a2 zz tI tO j1 j2 : Addr) :
    Turn P w K (.Tuple elts kk tpos) (ItzK b1 b2 K a1 a2) [zz, tI, tO, j1, j2] zz (ZSt b1 b2 a1 a2 zz tI tO j1 j2) where
  mem := by simp
  obj := fun i h st c hc => by
    obtain ⟨hz, hI, ⟨x, y, hO⟩, h1, h2, _⟩ := st
    rcases five hc with q | q | q | q | q <;> subst q
    · exact ⟨_, hz, fun v q => nomatch q⟩
    · exact ⟨_, hI, fun v q => nomatch q⟩
    · exact ⟨_, hO, fun v q => nomatch q⟩
    · exact h1.obj
    · exact h2.obj
  keep := fun i h h' st k => by
    obtain ⟨hz, hI, ⟨x, y, hO⟩, h1, h2, D, m1, m2⟩ := st
    exact ⟨k zz (by simp) _ hz, k tI (by simp) _ hI, ⟨x, y, k tO (by simp) _ hO⟩, h1.at_ fun o q => k j1 (by simp) o q, h2.at_ fun o q => k j2 (by simp) o q, D, m1, m2⟩
  item := by
    intro X hP hw hK hc i pins s σ H E I hf st hg
    subst hP hw hK
    obtain ⟨hz, hI, ⟨x0, y0, hO⟩, h1, h2, D, m1, m2⟩ := st
    obtain ⟨xs, ys, x, y, qx, qy, hx, hy⟩ := hg
    obtain ⟨us, rv, p, _⟩ := inv_sqK I qx
    obtain ⟨ws, rv2, p2, _⟩ := inv_sqK I qy
    obtain ⟨u, hu, ru⟩ := rv.get hx
    obtain ⟨u2, hu2, ru2⟩ := rv2.get hy
    have hu' : us.toArray[i]? = some u := by simpa using hu
    have hw' : ws.toArray[i]? = some u2 := by simpa using hu2
    have lt1 : i < us.toArray.size := (Array.getElem?_eq_some_iff.mp hu').1
    have lt2 : i < ws.toArray.size := (Array.getElem?_eq_some_iff.mp hw').1
    have hzl : zz < s.heap.objs.size := Heap.lt_size hz
    have hd : X.A.in1.handled = none := I.ok.hd hc
    refine wpAny_pyNext_zipD2_item D (draws_k (A := X.A.in1) hd b1 j1 a1 m1 us.toArray) (draws_k (A := X.A.in1) hd b2 j2 a2 m2 ws.toArray) hz hI hO (h1.with p) (h2.with p2) lt1 lt2 fun x1 x2 h' tk e1 e2 z' o' t1 t2 hT hsz hk => ?_
    have ex1 : x1 = u := by
      have e1 : us.toArray[i]? = some x1 := e1
      rw [hu'] at e1; cases e1; rfl
    have ex2 : x2 = u2 := by
      have e2 : ws.toArray[i]? = some x2 := e2
      rw [hw'] at e2; cases e2; rfl
    subst ex1 ex2
    refine ⟨_, rfl, wpAny_letOwnedTupleGo_zip (s := { s with heap := h', toks := tk }) z' fun h'' z'' sb => ?_⟩
    have hT2 : h''.get? s.heap.objs.size = some { cls := .type "tuple", data := .seq #[x1, x2] } := (sb.2 _ (Nat.ne_of_gt hzl)).trans hT
    have new : ObjOk X.prog X.w (upd H s.heap.objs.size (.tup [x, y])) h'' s.heap.objs.size (.tup [x, y]) :=
      ⟨by show 2 ≤ sizeLine; decide, [x1, x2], .cons ru (.cons ru2 .nil), ⟨_, hT2, rfl, _, rfl⟩⟩
    have kk : ∀ c o, c ∉ [zz, tI, tO, j1, j2] → s.heap.get? c = some o → h''.get? c = some o := fun c o hb q =>
      (sb.2 c (fun q' => hb (by simp [q']))).trans (hk c o (fun q' => hb (by simp [q'])) (fun q' => hb (by simp [q'])) (fun q' => hb (by simp [q'])) (fun q' => hb (by simp [q'])) q)
    have I1 : L2.Inv X pins σ (upd H s.heap.objs.size (.tup [x, y])) { s with heap := h'', toks := tk } := I.turnedNew (ch := [zz, tI, tO, j1, j2]) kk hf (Nat.le_refl _) new
    refine ⟨.ref s.heap.objs.size, _, I1, rfl, ⟨_, x, y, rfl, I.hok.fresh (Nat.le_refl _), rfl, fun l hl => by rw [inv_sqK_inj I hl qx]; exact hx, fun l hl => by rw [inv_sqK_inj I hl qy]; exact hy⟩, ⟨z'', ?_, ⟨x1, x2, ?_⟩, ?_, ?_, D, m1, m2⟩, fun c hcm => ?_⟩
    · exact (sb.2 _ D.TIz).trans (hk tI _ D.TIz D.TITO D.TIi1 D.TIi2 hI)
    · exact (sb.2 _ D.TOz).trans o'
    · exact (ItI.of t1).at_ fun o q => (sb.2 _ (Ne.symm D.zi1)).trans q
    · exact (ItI.of t2).at_ fun o q => (sb.2 _ (Ne.symm D.zi2)).trans q
    · have hlt : c < s.heap.objs.size := by
        rcases five hcm with q | q | q | q | q <;> subst q
        · exact hzl
        · exact Heap.lt_size hI
        · exact Heap.lt_size hO
        · obtain ⟨_, e, _⟩ := h1.obj; exact Heap.lt_size e
        · obtain ⟨_, e, _⟩ := h2.obj; exact Heap.lt_size e
      rw [upd_ne (Nat.ne_of_lt hlt)]
      exact (hf c hcm).1
  done := by
    intro X hP hw hK hc i pins s σ H E I hf st hg
    subst hP hw hK
    obtain ⟨hz, hI, ⟨x0, y0, hO⟩, h1, h2, D, m1, m2⟩ := st
    obtain ⟨xs, ys, qx, qy, l1, l2, hend⟩ := hg
    obtain ⟨us, rv, p, _⟩ := inv_sqK I qx
    obtain ⟨ws, rv2, p2, _⟩ := inv_sqK I qy
    have e1 : us.toArray.size = xs.length := by rw [List.size_toArray, ← rv.length]
    have e2 : ws.toArray.size = ys.length := by rw [List.size_toArray, ← rv2.length]
    have hd : X.A.in1.handled = none := I.ok.hd hc
    exact wpAny_pyNext_zipD2_end D (draws_k (A := X.A.in1) hd b1 j1 a1 m1 us.toArray) (draws_k (A := X.A.in1) hd b2 j2 a2 m2 ws.toArray) hz hI hO (h1.with p) (h2.with p2) (by rw [e1]; exact l1) (by rw [e2]; exact l2) (by rw [e1, e2]; exact hend) fun h' tk hk =>
      ⟨rfl, I.turnedL (t' := tk) (ch := [zz, tI, tO, j1, j2]) (fun c o hb q => hk c o (fun q' => hb (by simp [q'])) (fun q' => hb (by simp [q'])) (fun q' => hb (by simp [q'])) (fun q' => hb (by simp [q'])) q) hf⟩
  self := fun A i s Q E st h => wpAny_pyIter_zip st.zip h
def iZipK (K : PySem.W.Frag) (ta : TA) : TI := fun σ H R => ta σ H fun vs H1 => ∃ (b1 b2 : Bool) (a1 a2 : Addr) (xs ys : List V), vs = [.ref a1, .ref a2] ∧ SqK b1 K H1 a1 xs ∧ SqK b2 K H1 a2 ys ∧ R (ItzK b1 b2 K a1 a2) H1
theorem isS_lt {b : Bool} {h : Heap} {a : Addr} {us : Array Value} (p : IsS b h a us) : a < h.objs.size := by
  cases b with
  | true => obtain ⟨o, e, _⟩ := p; exact Heap.lt_size e
  | false => obtain ⟨o, e, _⟩ := p; exact Heap.lt_size e
theorem pi_zipK {X : Cx} {e e2 : Expr} {ta : TA} {p pos tpos : Pos} {elts : List Expr} {kk : Nat} (hg : Gl X "zip") (hm : X.mg "zip" = none) (ha : PA X [e, e2] ta) (hs : starEach [e, e2] X.env = (false, eval e X.env) :: starEach [e2] X.env := by rfl)
    (hpl : (backTo pos (starEach [e2] X.env)).any (·.1) = false := by rfl) : PI X (.Tuple elts kk tpos) (.Call (.Name "zip" p) [e, e2] [] pos) (iZipK X.K ta) := by
  refine ⟨fun pins s σ H R I h => ?_⟩
  refine Call_ (ld_blt I hg hm boot_zip (PyProof.Rows.callWith_type1 (thn (ha.run pos pins s σ H _ I h) fun us s1 ⟨vs, H1, I1, r1, q1⟩ => ?_) hs hpl))
  obtain ⟨b1, b2, a1, a2, xs, ys, ex, qx, qy, q⟩ := q1
  subst ex
  obtain ⟨ex1, rr⟩ : us = [.ref a1, .ref a2] ∧ True := by
    cases r1 with | cons r rr => cases rr with | cons r' rr => cases rr; cases r; cases r'; exact ⟨rfl, trivial⟩
  subst ex1
  obtain ⟨us, rv, p1, _⟩ := inv_sqK I1 qx
  obtain ⟨ws, rv2, p2, _⟩ := inv_sqK I1 qy
  have la := isS_lt p1
  have lb := isS_lt p2
  refine zip_begins2 (begins_k b1 a1 us.toArray) (begins_k b2 a2 ws.toArray) p1 p2 fun h' hz hI hO g1 g2 hsz hk => wpAny_pyIter_zip hz ?_
  have I2 : L2.Inv X pins σ H1 { s1 with heap := h' } := I1.kept (t' := s1.toks) hk
  have sep : ZipSep2 (s1.heap.objs.size + 4) (s1.heap.objs.size + 2) (s1.heap.objs.size + 3) s1.heap.objs.size (s1.heap.objs.size + 1) [s1.heap.objs.size, a1] [s1.heap.objs.size + 1, a2] :=
    zip_sep2 (fun b hb => by rw [List.mem_singleton.mp hb]; exact la) (fun b hb => by rw [List.mem_singleton.mp hb]; exact lb)
  refine ⟨s1.heap.objs.size + 4, [s1.heap.objs.size + 4, s1.heap.objs.size + 2, s1.heap.objs.size + 3, s1.heap.objs.size, s1.heap.objs.size + 1], _, _, H1, rfl, I2, turn_zipK b1 b2 a1 a2 (s1.heap.objs.size + 4) (s1.heap.objs.size + 2) (s1.heap.objs.size + 3) s1.heap.objs.size (s1.heap.objs.size + 1),
    ⟨hz, hI, ⟨_, _, hO⟩, ItI.of (its_start g1 (isS_keep p1 hk)), ItI.of (its_start g2 (isS_keep p2 hk)), sep, Nat.ne_of_lt la, Nat.ne_of_lt (Nat.lt_succ_of_lt lb)⟩, fun c hcm => ?_, q⟩
  have hle : s1.heap.objs.size ≤ c := by
    rcases five hcm with z | z | z | z | z <;> subst z <;> first | exact Nat.le_refl _ | exact Nat.le_add_right _ _
  exact I1.fpOk hle (I1.hok.fresh hle)
/-! ### the data level -/
def parI (xs ys : List D) : List D := List.zipWith (fun a b => D.tup [a, b]) xs ys
def iPar (fs : Env → Option (Out (List D))) : Env → Option (Out (List D)) := bnd fs fun ds => lift (match ds with
  | [d, c] => (rowD d).bind fun xs => (rowD c).map fun ys => parI xs ys
  | _ => none)
theorem walkD_par {K : PySem.W.Frag} {mg : Str → Option Value} {F : Hp} {B : Bs} {b1 b2 : Bool} {a1 a2 : Addr} {vs ws : List V} {ds cs : List D} (h : SqK b1 K F a1 vs) (r : RepL K mg F vs ds) (h2 : SqK b2 K F a2 ws) (r2 : RepL K mg F ws cs) : WalkD K mg B (ItzK b1 b2 K a1 a2) (parI ds cs) F := by
  have hl : (parI ds cs).length = min ds.length cs.length := List.length_zipWith
  have e1 := r.length
  have e2 := r2.length
  refine ⟨fun i H hi s => ?_, fun H s => ⟨vs, ws, sqK_mono s h, sqK_mono s h2, by rw [hl]; omega, by rw [hl]; omega, by rw [hl]; omega⟩, fun i d x H H' ε σ F2 ed ok s y => ?_⟩
  · exact ⟨vs, ws, _, _, sqK_mono s h, sqK_mono s h2, List.getElem?_eq_getElem (by omega), List.getElem?_eq_getElem (by omega)⟩
  · have hi : i < (parI ds cs).length := (List.getElem?_eq_some_iff.mp ed).1
    have f1 : ds[i]? = some (ds[i]'(by omega)) := List.getElem?_eq_getElem _
    have f2 : cs[i]? = some (cs[i]'(by omega)) := List.getElem?_eq_getElem _
    have ed2 : d = .tup [ds[i]'(by omega), cs[i]'(by omega)] := by
      unfold parI at ed
      rw [List.getElem?_zipWith, f1, f2] at ed
      exact (Option.some.inj ed).symm
    subst ed2
    obtain ⟨T, u, v, rfl, hT, rfl, hu, hv⟩ := y
    have g1 := hu _ (sqK_mono ok.sub (sqK_mono s h))
    have g2 := hv _ (sqK_mono ok.sub (sqK_mono s h2))
    obtain ⟨u', k1, q1⟩ := r.get f1
    obtain ⟨v', k2, q2⟩ := r2.get f2
    rw [k1] at g1; cases g1
    rw [k2] at g2; cases g2
    exact ⟨_, laidT ok hT (.cons (q1.mono s) (.cons (q2.mono s) .nil))⟩
theorem vi_par {X : Cx} {B : Bs} {e e2 : Expr} {ts : TA} {fs : Env → Option (Out (List D))} {p pos tpos : Pos} {elts : List Expr} {kk : Nat} (hg : Gl X "zip") (hm : X.mg "zip" = none) (ha : VA X B [e, e2] ts fs) (hs : starEach [e, e2] X.env = (false, eval e X.env) :: starEach [e2] X.env := by rfl)
    (hpl : (backTo pos (starEach [e2] X.env)).any (·.1) = false := by rfl) : VI X B (.Tuple elts kk tpos) (.Call (.Name "zip" p) [e, e2] [] pos) (iZipK X.K ts) (iPar fs) := ⟨pi_zipK hg hm ha.pa hs hpl, fun ε σ F H R r ok e p => by
  rcases bnd_some e with ⟨y, ε', e1, rfl⟩ | ⟨ds, ε1, e1, e⟩
  · exact ha.den ε σ F H _ _ ok e1 p
  refine ha.den ε σ F H _ _ ok e1 fun vs F1 H1 ok1 s1 r1 => ?_
  obtain ⟨it, ed, rfl⟩ := lift_some e
  split at ed
  · obtain ⟨xs, ex, ed⟩ := Option.bind_eq_some_iff.mp ed
    obtain ⟨ys, ey, rfl⟩ := Option.map_eq_some_iff.mp ed
    cases r1 with | cons q r1 => cases r1 with | cons q' r1 => cases r1 with | nil =>
    obtain ⟨b1, a1, us, rfl, hq, ru⟩ := row_rep q ex
    obtain ⟨b2, a2, ws, rfl, hq2, ru2⟩ := row_rep q' ey
    exact ⟨b1, b2, a1, a2, us, ws, rfl, sqK_mono ok1.sub hq, sqK_mono ok1.sub hq2, p _ F1 H1 ok1 s1 (walkD_par hq ru hq2 ru2)⟩
  · cases ed⟩
theorem cm_neK {X : Cx} {K : PySem.W.Frag} (hK : X.K = K) (hu : X.A.units + 64 < cLine) : CmpR X .NotEq (rNeD K) oNe := hK ▸ cm_ne hu
theorem cm_eqK {X : Cx} {K : PySem.W.Frag} (hK : X.K = K) (hu : X.A.units + 64 < cLine) : CmpR X .Eq (rEqD K) oEq := hK ▸ cm_eq hu
end VL
end

section
set_option Elab.async false
set_option linter.all false
set_option maxRecDepth 100000
set_option maxHeartbeats 4000000
/-! VLM: a tuple times a number. -/
namespace VL
open PySem PySem.Spec PyProof.Rows L2 PySem.Calls
variable [LamN]
def oMulT : D → D → Option D
  | .tup a, .int k => if a ≠ [] ∧ 2 ≤ k ∧ k ≤ 1000 ∧ a.length ≤ 1000 then some (.tup (List.replicate k.toNat a).flatten) else none
  | _, _ => none
section
variable {K : PySem.W.Frag} {mg : Str → Option Value} {B : Bs}
theorem opd_mulT : OpD K mg B (rRepT K) oMulT := fun ε σ F H x y a b d Q ok ra rb e q => by
  unfold oMulT at e
  split at e
  · split at e
    · rename_i hl
      obtain ⟨h0, h1, h2, h3⟩ := hl
      cases e; cases rb; cases ra with | tup ha r1 =>
      refine ⟨_, _, _, rfl, rfl, same_sqT ok.sub ha, ?_, h1, h2, by rw [r1.length]; exact h3, fun p hp => ?_⟩
      · intro z
        subst z
        cases r1
        exact h0 rfl
      · refine q _ _ _ (ok.laid hp _) (same_laid ok hp _) (.tup (.inl (.inl upd_same)) ((r1.rep _).mono (same_laid ok hp _)))
    · cases e
  · cases e
end
theorem ve_mulTK {X : Cx} {B : Bs} {K : PySem.W.Frag} {a b : Expr} {ta tb : TE} {fa fb : VL.Env → Option (Out D)} {pos : Pos} (hK : X.K = K) (ha : VE X B a ta fa) (hb : VE X B b tb fb) : VE X B (.BinOp a .Mult b pos) (tOp (rRepT K) ta tb) (e2 oMulT fa fb) := by
  subst hK
  exact ve_op op_repT opd_mulT ha hb
end VL
end

section
set_option Elab.async false
set_option linter.all false
set_option maxRecDepth 100000
set_option maxHeartbeats 4000000
/-! VP: the plain laws: what a mirrored function gives, told forwards (rules for simp only). -/
namespace VL
open PySem L2
variable [LamN]
/-- an expression gives a value with P -/
def Ev {α : Type} (f : VL.Env → Option (Out α)) (ε : VL.Env) (P : α → VL.Env → Prop) : Prop := ∃ d ε', f ε = some (.ok d ε') ∧ P d ε'
def Run (g : SF) (ε : VL.Env) (P : R → Prop) : Prop := ∃ r, g ε = some r ∧ P r
/-- a plain operation gives a value with P -/
def Gv {α : Type} (o : Option α) (P : α → Prop) : Prop := ∃ d, o = some d ∧ P d
theorem gv_some {α : Type} {d : α} {P : α → Prop} : Gv (some d) P ↔ P d := ⟨fun ⟨_, e, p⟩ => by cases e; exact p, fun p => ⟨d, rfl, p⟩⟩
theorem gv_ite {α : Type} {c : Prop} [Decidable c] {d : α} {P : α → Prop} : Gv (if c then Option.some d else none) P ↔ c ∧ P d := by
  by_cases h : c
  · rw [if_pos h]; exact ⟨fun z => ⟨h, gv_some.mp z⟩, fun z => gv_some.mpr z.2⟩
  · rw [if_neg h]; exact ⟨fun ⟨_, e, _⟩ => (by cases e), fun z => absurd z.1 h⟩
theorem gv_map {α β : Type} {o : Option α} {f : α → β} {P : β → Prop} : Gv (o.map f) P ↔ Gv o fun a => P (f a) := by
  cases o with
  | none => exact ⟨fun ⟨_, e, _⟩ => (by cases e), fun ⟨_, e, _⟩ => by cases e⟩
  | some a => exact ⟨fun ⟨_, e, p⟩ => (by cases e; exact ⟨a, rfl, p⟩), fun ⟨_, e, p⟩ => (by cases e; exact ⟨f a, rfl, p⟩)⟩
theorem gv_bind {α β : Type} {o : Option α} {f : α → Option β} {P : β → Prop} : Gv (o.bind f) P ↔ Gv o fun a => Gv (f a) P := by
  cases o with
  | none => exact ⟨fun ⟨_, e, _⟩ => (by cases e), fun ⟨_, e, _⟩ => by cases e⟩
  | some a => exact ⟨fun h => ⟨a, rfl, h⟩, fun ⟨_, e, p⟩ => (by cases e; exact p)⟩
theorem Gv.mono {α : Type} {o : Option α} {P Q : α → Prop} (h : Gv o P) (i : ∀ d, P d → Q d) : Gv o Q := let ⟨d, e, p⟩ := h; ⟨d, e, i d p⟩
theorem Ev.mono {α : Type} {f : VL.Env → Option (Out α)} {ε : VL.Env} {P Q : α → VL.Env → Prop} (h : Ev f ε P) (i : ∀ d ε, P d ε → Q d ε) : Ev f ε Q := let ⟨d, ε', e, p⟩ := h; ⟨d, ε', e, i _ _ p⟩
theorem Run.mono {g : SF} {ε : VL.Env} {P Q : R → Prop} (h : Run g ε P) (i : ∀ r, P r → Q r) : Run g ε Q := let ⟨r, e, p⟩ := h; ⟨r, e, i _ p⟩
section
variable {α β : Type} {ε : VL.Env} {f : VL.Env → Option (Out α)} {P : α → VL.Env → Prop}
theorem ev_ret {a : α} : Ev (ret a) ε P ↔ P a ε := ⟨fun ⟨_, _, e, p⟩ => by cases e; exact p, fun p => ⟨a, ε, rfl, p⟩⟩
theorem ev_lift {o : Option α} : Ev (lift o) ε P ↔ Gv o fun d => P d ε := by
  unfold lift
  cases o with
  | none => exact ⟨fun ⟨_, _, e, _⟩ => (by cases e), fun ⟨_, e, _⟩ => by cases e⟩
  | some a => exact ⟨fun ⟨_, _, e, p⟩ => by cases e; exact ⟨a, rfl, p⟩, fun ⟨_, e, p⟩ => by cases e; exact ⟨a, ε, rfl, p⟩⟩
theorem ev_bnd {g : α → VL.Env → Option (Out β)} {Q : β → VL.Env → Prop} : Ev (bnd f g) ε Q ↔ Ev f ε fun a ε' => Ev (g a) ε' Q := by
  constructor
  · rintro ⟨b, ε2, e, q⟩
    rcases bnd_some e with ⟨x, ε', _, z⟩ | ⟨a, ε', e1, e2⟩
    · cases z
    · exact ⟨a, ε', e1, b, ε2, e2, q⟩
  · rintro ⟨a, ε', e1, b, ε2, e2, q⟩
    refine ⟨b, ε2, ?_, q⟩
    unfold bnd
    rw [e1]
    exact e2
end
section
variable {ε : VL.Env} {fa fb fc : VL.Env → Option (Out D)} {P : D → VL.Env → Prop} {f g : D → D → Option D} {i j : Nat} {Pb : Bool → VL.Env → Prop}
theorem ev_var {d : D} (h : ε[i]? = some (some (.fr d))) : Ev (eVar i) ε P ↔ P d ε := by
  have e0 : eVar i ε = some (.ok d ε) := by unfold eVar; rw [h]
  exact ⟨fun ⟨_, _, e, p⟩ => by rw [e0] at e; cases e; exact p, fun p => ⟨d, ε, e0, p⟩⟩
theorem ev_K {d : D} : Ev (eK d) ε P ↔ P d ε := ev_ret
theorem ev_e2 : Ev (e2 f fa fb) ε P ↔ Ev fa ε fun a ε1 => Ev fb ε1 fun b ε2 => Gv (f a b) fun d => P d ε2 := by
  unfold e2; simp only [ev_bnd, ev_lift]
theorem ev_e1 {f : D → Option D} : Ev (e1 f fa) ε P ↔ Ev fa ε fun a ε1 => Gv (f a) fun d => P d ε1 := by
  unfold e1; simp only [ev_bnd, ev_lift]
theorem ev_b2 {d0 : D} (h : rdS i ε = some d0) : Ev (eB2 f i fb) ε P ↔ Ev fb ε fun b ε' => Gv (rdS i ε') fun a => Gv (f a b) fun d => P d ε' := by
  have key : eB2 f i fb ε = bnd fb (fun b ε' => (rdS i ε').bind fun a => (f a b).map fun d => Out.ok d ε') ε := by
    unfold eB2
    rw [h]
  constructor
  · rintro ⟨d, ε2, e, p⟩
    rw [key] at e
    rcases bnd_some e with ⟨x, ε', _, z⟩ | ⟨b, ε', e1, e2⟩
    · cases z
    · obtain ⟨a, ea, e2⟩ := Option.bind_eq_some_iff.mp e2
      obtain ⟨d', ed, z⟩ := Option.map_eq_some_iff.mp e2
      cases z
      exact ⟨b, _, e1, a, ea, _, ed, p⟩
  · rintro ⟨b, ε', e1, a, ea, d, ed, p⟩
    refine ⟨d, ε', ?_, p⟩
    rw [key]
    unfold bnd
    rw [e1]
    simp [ea, ed]
theorem ev_eT : Ev (eT fa) ε Pb ↔ Ev fa ε fun d ε1 => Gv (asB d) fun b => Pb b ε1 := by
  unfold eT; simp only [ev_bnd, ev_lift]
theorem ev_tTru : Ev (tTru fa) ε Pb ↔ Ev fa ε fun d ε1 => Gv (tru d) fun b => Pb b ε1 := by
  unfold tTru; simp only [ev_bnd, ev_lift]
theorem ev_ite {α : Type} {k : Prop} [Decidable k] {f g : VL.Env → Option (Out α)} {P : α → VL.Env → Prop} : Ev (if k then f else g) ε P ↔ if k then Ev f ε P else Ev g ε P := by
  by_cases h : k
  · rw [if_pos h, if_pos h]
  · rw [if_neg h, if_neg h]
theorem ev_tAnd {f g : VL.Env → Option (Out Bool)} : Ev (tAnd' f g) ε Pb ↔ Ev f ε fun k ε1 => if k = true then Ev g ε1 Pb else Pb false ε1 := by
  unfold tAnd'; simp only [ev_bnd, ev_ite, ev_ret]
theorem ev_tOr {f g : VL.Env → Option (Out Bool)} : Ev (tOr' f g) ε Pb ↔ Ev f ε fun k ε1 => if k = true then Pb true ε1 else Ev g ε1 Pb := by
  unfold tOr'; simp only [ev_bnd, ev_ite, ev_ret]
theorem ev_tNot {f : VL.Env → Option (Out Bool)} : Ev (tNot' f) ε Pb ↔ Ev f ε fun k ε1 => Pb (!k) ε1 := by
  unfold tNot'; simp only [ev_bnd, ev_ret]
theorem ev_eIf {t : VL.Env → Option (Out Bool)} : Ev (eIf t fa fb) ε P ↔ Ev t ε fun k ε1 => if k = true then Ev fa ε1 P else Ev fb ε1 P := by
  unfold eIf; simp only [ev_bnd, ev_ite]
theorem ev_eNot : Ev (eNot fa) ε P ↔ Ev fa ε fun d ε1 => Gv (tru d) fun b => P (.bl !b) ε1 := by
  unfold eNot; simp only [ev_bnd, ev_lift, gv_map]
theorem ev_aNil {Q : List D → VL.Env → Prop} : Ev aNil ε Q ↔ Q [] ε := ev_ret
theorem ev_aCons {g : VL.Env → Option (Out (List D))} {Q : List D → VL.Env → Prop} : Ev (aCons fa g) ε Q ↔ Ev fa ε fun d ε1 => Ev g ε1 fun ds ε2 => Q (d :: ds) ε2 := by
  unfold aCons; simp only [ev_bnd, ev_ret]
theorem ev_cb {f : List D → Option D} {g : VL.Env → Option (Out (List D))} : Ev (eCB f g) ε P ↔ Ev g ε fun ds ε1 => Gv (f ds) fun d => P d ε1 := by
  unfold eCB; simp only [ev_bnd, ev_lift]
theorem ev_eTup {g : VL.Env → Option (Out (List D))} : Ev (eTup g) ε P ↔ Ev g ε fun ds ε1 => ds.length ≤ sizeLine ∧ P (.tup ds) ε1 := by
  unfold eTup
  simp only [ev_bnd]
  refine ⟨fun h => h.mono fun ds ε1 q => ?_, fun h => h.mono fun ds ε1 q => ?_⟩
  · by_cases hl : ds.length ≤ sizeLine
    · rw [if_pos hl] at q; exact ⟨hl, ev_ret.mp q⟩
    · rw [if_neg hl] at q; obtain ⟨_, _, z, _⟩ := q; cases z
  · rw [if_pos q.1]; exact ev_ret.mpr q.2
theorem ev_nLst {g : VL.Env → Option (Out (List D))} {Q : List D → VL.Env → Prop} : Ev (nLst g) ε Q ↔ Ev g ε fun ds ε1 => ds.length ≤ sizeLine ∧ Q ds ε1 := by
  unfold nLst
  simp only [ev_bnd]
  refine ⟨fun h => h.mono fun ds ε1 q => ?_, fun h => h.mono fun ds ε1 q => ?_⟩
  · by_cases hl : ds.length ≤ sizeLine
    · rw [if_pos hl] at q; exact ⟨hl, ev_ret.mp q⟩
    · rw [if_neg hl] at q; obtain ⟨_, _, z, _⟩ := q; cases z
  · rw [if_pos q.1]; exact ev_ret.mpr q.2
theorem ev_eN {g : VL.Env → Option (Out (List D))} : Ev (eN g) ε P ↔ Ev g ε fun ds ε1 => P (.lst ds) ε1 := by
  unfold eN; simp only [ev_bnd, ev_ret]
end
section
variable {ε : VL.Env} {g h : SF} {P : R → Prop}
theorem run_nil : Run sNil ε P ↔ P (.nx ε) := ⟨fun ⟨_, e, p⟩ => by cases e; exact p, fun p => ⟨_, rfl, p⟩⟩
/-- what follows, where the first part goes on -/
def thenR (h : SF) (P : R → Prop) : R → Prop
  | .nx ε => Run h ε P
  | r => P r
theorem run_seq : Run (sSeq g h) ε P ↔ Run g ε (thenR h P) := by
  unfold Run sSeq
  cases e : g ε with
  | none => simp
  | some r => cases r <;> simp [thenR, Run]
theorem run_E {α : Type} {f : VL.Env → Option (Out α)} {k : α → VL.Env → Option R} (hk : Ev f ε fun d ε1 => Gv (k d ε1) P) : Run (sE f k) ε P := by
  obtain ⟨d, ε1, e, r, er, p⟩ := hk
  refine ⟨r, ?_, p⟩
  unfold sE
  rw [e]
  exact er
theorem run_set {f : VL.Env → Option (Out D)} {i : Nat} (k : Ev f ε fun d ε1 => P (.nx (ε1.set i (some (.fr d))))) : Run (sSet i f) ε P := run_E (k.mono fun d ε1 p => gv_some.mpr p)
theorem run_own {f : VL.Env → Option (Out (List D))} {i : Nat} (k : Ev f ε fun d ε1 => P (.nx (ε1.set i (some (.ow false d))))) : Run (sOwn i f) ε P := run_E (k.mono fun d ε1 p => gv_some.mpr p)
theorem run_ret {f : VL.Env → Option (Out D)} (k : Ev f ε fun d ε1 => P (.rt d ε1)) : Run (sRet f) ε P := run_E (k.mono fun d ε1 p => gv_some.mpr p)
theorem run_expr {f : VL.Env → Option (Out D)} (k : Ev f ε fun d ε1 => P (.nx ε1)) : Run (sExpr f) ε P := run_E (k.mono fun d ε1 p => gv_some.mpr p)
theorem run_if {c : VL.Env → Option (Out Bool)} (k : Ev c ε fun b ε1 => if b = true then Run g ε1 P else Run h ε1 P) : Run (sIf c g h) ε P := by
  refine run_E (k.mono fun b ε1 p => ?_)
  cases b with
  | true => rw [if_pos rfl] at p ⊢; obtain ⟨r, e, q⟩ := p; exact ⟨r, e, q⟩
  | false => rw [if_neg Bool.false_ne_true] at p ⊢; obtain ⟨r, e, q⟩ := p; exact ⟨r, e, q⟩
theorem run_par {f : VL.Env → Option (Out (List D))} {i j : Nat} (k : Ev f ε fun ds ε1 => ∃ a b, ds = [a, b] ∧ P (.nx ((ε1.set i (some (.fr a))).set j (some (.fr b))))) : Run (sPar i j f) ε P := run_E (k.mono fun ds ε1 ⟨a, b, e, p⟩ => by subst e; exact gv_some.mpr p)
theorem run_par3 {f : VL.Env → Option (Out (List D))} {i j l : Nat} (k : Ev f ε fun ds ε1 => ∃ a b c, ds = [a, b, c] ∧ P (.nx (((ε1.set i (some (.fr a))).set j (some (.fr b))).set l (some (.fr c))))) : Run (sPar3 i j l f) ε P := run_E (k.mono fun ds ε1 ⟨a, b, c, e, p⟩ => by subst e; exact gv_some.mpr p)
/-- a while: I holds, m falls -/
theorem run_while {c : VL.Env → Option (Out Bool)} {body : SF} (I : VL.Env → Prop) (m : VL.Env → Nat) (h0 : I ε)
    (turn : ∀ ε, I ε → Ev c ε fun b ε1 => if b = true then Run body ε1 fun r => match r with
      | .nx ε2 => I ε2 ∧ m ε2 < m ε
      | .ct ε2 => I ε2 ∧ m ε2 < m ε
      | .bk ε2 => P (.nx ε2)
      | .rt d ε2 => P (.rt d ε2)
      | .ex x ε2 => P (.ex x ε2) else P (.nx ε1)) : Run (sWhile c body) ε P := by
  have key : ∀ n ε, m ε < n → I ε → ∃ r, whileD c body n ε = some r ∧ P r := fun n => by
    induction n with
    | zero => intro ε h; omega
    | succ n ih =>
      intro ε hm hi
      obtain ⟨b, ε1, ec, q⟩ := turn ε hi
      cases b with
      | false =>
        rw [if_neg Bool.false_ne_true] at q
        exact ⟨_, by simp only [whileD, ec], q⟩
      | true =>
        rw [if_pos rfl] at q
        obtain ⟨r, er, q⟩ := q
        cases r with
        | nx ε2 =>
          obtain ⟨r, e2, p⟩ := ih ε2 (by have := q.2; omega) q.1
          exact ⟨r, by simp only [whileD, ec, er]; exact e2, p⟩
        | ct ε2 =>
          obtain ⟨r, e2, p⟩ := ih ε2 (by have := q.2; omega) q.1
          exact ⟨r, by simp only [whileD, ec, er]; exact e2, p⟩
        | bk ε2 => exact ⟨_, by simp only [whileD, ec, er], q⟩
        | rt d ε2 => exact ⟨_, by simp only [whileD, ec, er], q⟩
        | ex x ε2 => exact ⟨_, by simp only [whileD, ec, er], q⟩
  obtain ⟨r, e, p⟩ := key (m ε + 1) ε (Nat.lt_succ_self _) h0
  exact ⟨r, sWhile_of e, p⟩
/-- a for: I holds of what is done -/
theorem run_for {it : VL.Env → Option (Out (List D))} {tgt : D → VL.Env → Option VL.Env} {body : SF} (I : List D → VL.Env → Prop)
    (h0 : Ev it ε fun ds ε1 => I ds ε1) (fin : ∀ ε, I [] ε → P (.nx ε))
    (turn : ∀ d ds ε, I (d :: ds) ε → Gv (tgt d ε) fun ε1 => Run body ε1 fun r => match r with
      | .nx ε2 => I ds ε2
      | .ct ε2 => I ds ε2
      | .bk ε2 => P (.nx ε2)
      | .rt d ε2 => P (.rt d ε2)
      | .ex x ε2 => P (.ex x ε2)) : Run (sFor it tgt body) ε P := by
  refine run_E (h0.mono fun ds ε1 hi => ?_)
  have key : ∀ ds ε, I ds ε → ∃ r, forD tgt body ds ε = some r ∧ P r := fun ds => by
    induction ds with
    | nil => intro ε hi; exact ⟨_, rfl, fin ε hi⟩
    | cons d ds ih =>
      intro ε hi
      obtain ⟨ε1, et, r, er, q⟩ := turn d ds ε hi
      cases r with
      | nx ε2 => obtain ⟨r, e, p⟩ := ih ε2 q; exact ⟨r, by simp only [forD, et, er]; exact e, p⟩
      | ct ε2 => obtain ⟨r, e, p⟩ := ih ε2 q; exact ⟨r, by simp only [forD, et, er]; exact e, p⟩
      | bk ε2 => exact ⟨_, by simp only [forD, et, er], q⟩
      | rt d ε2 => exact ⟨_, by simp only [forD, et, er], q⟩
      | ex x ε2 => exact ⟨_, by simp only [forD, et, er], q⟩
  exact key ds ε1 hi
end
section
variable {h : SF} {P : R → Prop} {ε : VL.Env}
theorem thenR_nx (q : Run h ε P) : thenR h P (.nx ε) := q
theorem thenR_rt {d : D} (q : P (.rt d ε)) : thenR h P (.rt d ε) := q
theorem thenR_ex {x : Exn} (q : P (.ex x ε)) : thenR h P (.ex x ε) := q
theorem fnM_run {N n : Nat} {g : SF} {cs ds : List D} {Q : D → List D → Prop} (hl : ds.length = n) (h : Run g (envM N n cs ds) fun r => match r with
    | .rt d ε => ∃ cs', lentOf ε = some cs' ∧ Q d cs'
    | .nx ε => ∃ cs', lentOf ε = some cs' ∧ Q .non cs'
    | _ => False) : ∃ d cs', fnM N n g cs ds = some (d, cs') ∧ Q d cs' := by
  obtain ⟨r, e, q⟩ := h
  unfold fnM
  rw [if_pos hl, e]
  cases r with
  | rt d ε => obtain ⟨cs', l, q⟩ := q; exact ⟨d, cs', by simp [l], q⟩
  | nx ε => obtain ⟨cs', l, q⟩ := q; exact ⟨.non, cs', by simp [l], q⟩
  | bk ε => exact q.elim
  | ct ε => exact q.elim
  | ex x ε => exact q.elim
theorem fnV_run {N n : Nat} {g : SF} {ds : List D} {Q : D → Prop} (hl : ds.length = n) (h : Run g (envV N n ds) fun r => match r with
    | .rt d _ => Q d
    | .nx _ => Q .non
    | _ => False) : ∃ d, fnV N n g ds = some d ∧ Q d := by
  obtain ⟨r, e, q⟩ := h
  unfold fnV
  rw [if_pos hl, e]
  cases r with
  | rt d ε => exact ⟨d, rfl, q⟩
  | nx ε => exact ⟨.non, rfl, q⟩
  | bk ε => exact q.elim
  | ct ε => exact q.elim
  | ex x ε => exact q.elim
theorem fnX_run {N n : Nat} {g : SF} {ds : List D} {Q : Rs → Prop} (hl : ds.length = n) (h : Run g (envV N n ds) fun r => match r with
    | .rt d _ => Q (.ok d)
    | .nx _ => Q (.ok .non)
    | .ex x _ => Q (.error x)
    | _ => False) : ∃ d, fnX N n g ds = some d ∧ Q d := by
  obtain ⟨r, e, q⟩ := h
  unfold fnX
  rw [if_pos hl, e]
  cases r with
  | rt d ε => exact ⟨_, rfl, q⟩
  | nx ε => exact ⟨_, rfl, q⟩
  | ex x ε => exact ⟨_, rfl, q⟩
  | bk ε => exact q.elim
  | ct ε => exact q.elim
theorem ev_call {fn : List D → Option D} {bs : List Nat} {fs : VL.Env → Option (Out (List D))} {Q : D → VL.Env → Prop} (k : Ev fs ε fun ds ε1 => Gv (fn ds) fun d => (bs.all (isFr ε1) || noL d) = true ∧ Q d ε1) : Ev (eCall fn bs fs) ε Q := by
  unfold eCall
  refine ev_bnd.mpr (k.mono fun ds ε1 q => ?_)
  obtain ⟨d, e, h, q⟩ := q
  exact ⟨d, ε1, by rw [e]; simp only [Option.bind_some]; rw [if_pos h], q⟩
theorem ev_bor {i : Nat} {d0 : D} {g : VL.Env → Option (Out (List D))} {Q : List D → VL.Env → Prop} (h0 : rdS i ε = some d0) (k : Ev g ε fun ds ε1 => Gv (rdS i ε1) fun d => Q (d :: ds) ε1) : Ev (aBor i g) ε Q := by
  have key : aBor i g ε = bnd g (fun ds ε' => (rdS i ε').map fun d => Out.ok (d :: ds) ε') ε := by
    unfold aBor
    rw [h0]
  obtain ⟨ds, ε1, e1, d, e2, q⟩ := k
  refine ⟨d :: ds, ε1, ?_, q⟩
  rw [key]
  unfold bnd
  rw [e1]
  simp [e2]
theorem run_put {i : Nat} {f k : VL.Env → Option (Out D)} (q : Ev f ε fun d ε1 => (∃ x, rdS i ε1 = some x) ∧ Ev k ε1 fun kd ε2 => ∃ z l ds j, kd = .int z ∧ ε2[i]? = some (some (.ow l ds)) ∧ ixN ds.length z = some j ∧ P (.nx (ε2.set i (some (.ow l (ds.set j d)))))) : Run (sPut i f k) ε P := by
  refine run_E (q.mono fun d ε1 q => ?_)
  obtain ⟨⟨x, hx⟩, kd, ε2, e2, z, l, ds, j, rfl, e3, e4, p⟩ := q
  refine ⟨_, ?_, p⟩
  rw [hx]
  show sE k _ ε1 = _
  unfold sE
  rw [e2]
  show (match (D.int z), ε2[i]? with
    | .int z, some (some (.ow l ds)) => (ixN ds.length z).map fun j => R.nx (ε2.set i (some (.ow l (ds.set j d))))
    | _, _ => none) = _
  rw [e3]
  simp [e4]
end
theorem gv_of {α : Type} {o : Option α} {P : α → Prop} {d : α} (h : o = some d) (p : P d) : Gv o P := ⟨d, h, p⟩
theorem gv_ifr {α : Type} {o : Option α} {P : α → Prop} {d : α} {c : Prop} [Decidable c] (h : o = if c then some d else none) (k : c) (p : P d) : Gv o P := ⟨d, by rw [h, if_pos k], p⟩
section
variable {ε : VL.Env} {fb : VL.Env → Option (Out D)} {P : D → VL.Env → Prop} {f : D → D → Option D} {i : Nat} {d : D}
theorem evv (h : ε[i]? = some (some (.fr d))) (p : P d ε) : Ev (eVar i) ε P := (ev_var h).mpr p
theorem evb (h : rdS i ε = some d) (p : Ev fb ε fun b ε' => Gv (rdS i ε') fun a => Gv (f a b) fun d => P d ε') : Ev (eB2 f i fb) ε P := (ev_b2 h).mpr p
theorem evo {g : VL.Env → Option (Out (List D))} {Q : List D → VL.Env → Prop} (h : rdS i ε = some d) (p : Ev g ε fun ds ε1 => Gv (rdS i ε1) fun d => Q (d :: ds) ε1) : Ev (aBor i g) ε Q := ev_bor h p
end
section
variable {P : D → Prop} {i j : Int}
theorem gv_div (k1 : 0 < j) (k2 : j.natAbs.log2 < 9000) (p : P (.int (i / j))) : Gv (oDiv (.int i) (.int j)) P := ⟨_, if_pos ⟨k1, k2⟩, p⟩
theorem gv_mod (k1 : 0 < j) (p : P (.int (i % j))) : Gv (oMod (.int i) (.int j)) P := ⟨_, if_pos k1, p⟩
theorem gv_mul (k1 : mulOk i j = true) (p : P (.int (i * j))) : Gv (oMul (.int i) (.int j)) P := ⟨_, if_pos k1, p⟩
theorem gv_pow (k1 : 0 ≤ j ∧ j ≤ 1000000 ∧ i.natAbs < 2 ^ 64) (p : P (.int (i ^ j.toNat))) : Gv (oPow (.int i) (.int j)) P := ⟨_, if_pos k1, p⟩
theorem gv_shl (k1 : 0 ≤ j ∧ (Builtin.Int.intBits i : Int) + j ≤ 2 ^ 27) (p : P (.int (i * 2 ^ j.toNat))) : Gv (oShl (.int i) (.int j)) P := ⟨_, if_pos k1, p⟩
theorem run_putK {ε : VL.Env} {Q : R → Prop} {i : Nat} {z : Int} {f : VL.Env → Option (Out D)} (q : Ev f ε fun d ε1 => ∃ l ds j, ε1[i]? = some (some (.ow l ds)) ∧ ixN ds.length z = some j ∧ Q (.nx (ε1.set i (some (.ow l (ds.set j d)))))) : Run (sPut i f (eK (.int z))) ε Q := by
  refine run_put (q.mono fun d ε1 q => ?_)
  obtain ⟨l, ds, j, h1, h2, p⟩ := q
  exact ⟨⟨.lst ds, by unfold rdS; rw [h1]; rfl⟩, ev_K.mpr ⟨z, l, ds, j, rfl, h1, h2, p⟩⟩
theorem putAt {l : Bool} {ds : List D} {j i : Nat} {z : Int} {ε : VL.Env} {A : Bool → List D → Nat → Prop} (h : ε[i]? = some (some (.ow l ds))) (h2 : ixN ds.length z = some j) (p : A l ds j) : ∃ l ds j, ε[i]? = some (some (.ow l ds)) ∧ ixN ds.length z = some j ∧ A l ds j := ⟨l, ds, j, h, h2, p⟩
theorem ite_cases {c p q : Prop} [Decidable c] (a : c → p) (b : ¬ c → q) : if c then p else q := by
  by_cases h : c
  · rw [if_pos h]; exact a h
  · rw [if_neg h]; exact b h
end
/-! ### lists of ints compared -/
theorem toPyL_ints : ∀ ns : List Int, toPyL (ns.map D.int) = some (ns.map PyData.int)
  | [] => rfl
  | n :: ns => by
    show (match toPy (D.int n), toPyL (ns.map D.int) with | some a, some b => some (a :: b) | _, _ => none) = _
    rw [toPyL_ints ns]
    rfl
theorem canLay_ints : ∀ ns : List Int, PyData.canLayAll0 (ns.map PyData.int) = true
  | [] => by simp [PyData.canLayAll0]
  | n :: ns => by simp [PyData.canLayAll0, PyData.canLay0, canLay_ints ns]
theorem depth_ints : ∀ ns : List Int, PyData.depthAll (ns.map PyData.int) = 0
  | [] => by simp [PyData.depthAll]
  | n :: ns => by simp [PyData.depthAll, PyData.depth, depth_ints ns]
theorem shaped_ints (ns : List Int) : SeqAt.shaped (.list (ns.map PyData.int)) = true := by
  simp [SeqAt.shaped, PyData.canLay0, canLay_ints, PyData.depth, depth_ints]
theorem oNe_nil (ns : List Int) : oNe (.lst (ns.map D.int)) (.lst []) = some (.bl (!ns.isEmpty)) := by
  have h1 : toPy (.lst (ns.map D.int)) = some (.list (ns.map PyData.int)) := by simp [toPy, toPyL_ints]
  have h2 : toPy (.lst []) = some (.list []) := by simp [toPy, toPyL]
  unfold oNe
  rw [h1, h2]
  dsimp only
  rw [if_pos ⟨shaped_ints ns, shaped_ints []⟩]
  cases ns <;> simp [PyData.eqv, PyData.eqvAll]
theorem gv_ixI {cs : List Int} {i : Int} {P : D → Prop} (k1 : 0 ≤ i) (k2 : i < cs.length) (p : ∀ c ∈ cs, P (.int c)) : Gv (oIx (.lst (cs.map D.int)) (.int i)) P := by
  have hj : i.toNat < cs.length := by omega
  refine ⟨.int cs[i.toNat], ?_, p _ (List.getElem_mem hj)⟩
  show atI (cs.map D.int) i = _
  unfold atI ixN
  rw [List.length_map, if_pos k1, if_pos k2]
  simp [hj]
omit [LamN] in
theorem bits_lt {i : Int} {a : Nat} (h : i.natAbs < 2 ^ a) : Builtin.Int.intBits i ≤ a := by
  unfold Builtin.Int.intBits
  split
  · omega
  · rename_i h0
    have hn : i.natAbs ≠ 0 := fun z => h0 (by simpa using z)
    have := (Nat.log2_lt hn).mpr h
    omega
omit [LamN] in
theorem lt_bits {i : Int} : i.natAbs < 2 ^ Builtin.Int.intBits i := by
  unfold Builtin.Int.intBits
  split
  · rename_i h0
    have : i = 0 := by simpa using h0
    subst this
    decide
  · exact Nat.lt_log2_self
omit [LamN] in
theorem mulOk_of {i j : Int} (a b : Nat) (hi : i.natAbs < 2 ^ a) (hj : j.natAbs < 2 ^ b) (h : a + b ≤ 134217728) : mulOk i j = true := by
  have h1 := bits_lt hi
  have h2 := bits_lt hj
  unfold mulOk
  exact decide_eq_true (by omega)
end VL
end

section
set_option Elab.async false
set_option linter.all false
set_option maxRecDepth 100000
set_option maxHeartbeats 4000000
/-! VS0: what a mirrored function gives, with what follows as a continuation (the rules, proved). -/
namespace VL.U
open PySem L2 VL
variable [LamN]
/-- an expression: ends with P, or raises with X -/
def W {α : Type} (f : VL.Env → Option (Out α)) (ε : VL.Env) (P : α → VL.Env → Prop) (X : Exn → VL.Env → Prop) : Prop :=
  ∃ o, f ε = some o ∧ (match o with | .ok a ε' => P a ε' | .ex x ε' => X x ε')
def Rn (g : SF) (ε : VL.Env) (P : R → Prop) : Prop := ∃ r, g ε = some r ∧ P r
def Gt {α : Type} (o : Option α) (P : α → Prop) : Prop := ∃ d, o = some d ∧ P d
/-- a raising def's end -/
def GX (o : Option Rs) (P : D → Prop) (X : Exn → Prop) : Prop := ∃ r, o = some r ∧ (match r with | .ok d => P d | .error x => X x)
def owW (s : Option (Option Slot)) (P : Bool → List D → Prop) : Prop := ∃ l ds, s = some (some (.ow l ds)) ∧ P l ds
/-- what follows, where the first part goes on -/
def thR (h : SF) (P : R → Prop) (r : R) : Prop := match r with
  | .nx ε => Rn h ε P
  | r => P r
theorem Gt_v {α : Type} {o : Option α} {P : α → Prop} : Gt o P = Gv o P := rfl
theorem Gt.mono {α : Type} {o : Option α} {P Q : α → Prop} (h : Gt o P) (i : ∀ d, P d → Q d) : Gt o Q := let ⟨d, e, p⟩ := h; ⟨d, e, i d p⟩
theorem Rn.mono {g : SF} {ε : VL.Env} {P Q : R → Prop} (h : Rn g ε P) (i : ∀ r, P r → Q r) : Rn g ε Q := let ⟨r, e, p⟩ := h; ⟨r, e, i _ p⟩
theorem owW_ow {l : Bool} {ds : List D} {P : Bool → List D → Prop} : owW (some (some (.ow l ds))) P = P l ds := propext ⟨fun ⟨_, _, e, p⟩ => by cases e; exact p, fun p => ⟨_, _, rfl, p⟩⟩
theorem Gt_some {α : Type} {d : α} {P : α → Prop} : Gt (some d) P = P d := propext gv_some
theorem Gt_ite {α : Type} {c : Prop} [Decidable c] {d : α} {P : α → Prop} : Gt (if c then Option.some d else none) P = (c ∧ P d) := propext gv_ite
theorem Gt_map {α β : Type} {o : Option α} {f : α → β} {P : β → Prop} : Gt (o.map f) P = Gt o fun a => P (f a) := propext gv_map
theorem Gt_bind {α β : Type} {o : Option α} {f : α → Option β} {P : β → Prop} : Gt (o.bind f) P = Gt o fun a => Gt (f a) P := propext gv_bind
theorem GX_ok {d : D} {P : D → Prop} {X : Exn → Prop} : GX (some (.ok d)) P X = P d := propext ⟨fun ⟨_, e, p⟩ => by cases e; exact p, fun p => ⟨_, rfl, p⟩⟩
theorem GX_error {x : Exn} {P : D → Prop} {X : Exn → Prop} : GX (some (.error x)) P X = X x := propext ⟨fun ⟨_, e, p⟩ => by cases e; exact p, fun p => ⟨_, rfl, p⟩⟩
theorem gv_eq {α : Type} {o : Option α} {d : α} (h : Gt o (· = d)) : o = some d := let ⟨_, e, p⟩ := h; p ▸ e
theorem Gt.of {α : Type} {o : Option α} {d : α} {P : α → Prop} (h : o = some d) (p : P d) : Gt o P := ⟨d, h, p⟩
theorem noX_ok {fn : List D → Option Rs} {ds : List D} {d : D} (h : fn ds = some (.ok d)) : noX fn ds = some d := by unfold noX; rw [h]

section expr
variable {α β : Type} {ε : VL.Env} {f : VL.Env → Option (Out α)} {P : α → VL.Env → Prop} {X : Exn → VL.Env → Prop}
theorem W.mono {Q : α → VL.Env → Prop} {Y : Exn → VL.Env → Prop} (h : W f ε P X) (i : ∀ d ε, P d ε → Q d ε) (j : ∀ x ε, X x ε → Y x ε) : W f ε Q Y := by
  obtain ⟨o, e, p⟩ := h
  refine ⟨o, e, ?_⟩
  cases o with
  | ok a ε' => exact i _ _ p
  | ex x ε' => exact j _ _ p
theorem W_ret {a : α} : W (ret a) ε P X = P a ε := propext ⟨fun ⟨_, e, p⟩ => by cases e; exact p, fun p => ⟨_, rfl, p⟩⟩
theorem W_lift {o : Option α} : W (lift o) ε P X = Gt o fun d => P d ε := by
  unfold lift
  refine propext ⟨fun ⟨r, e, p⟩ => ?_, fun ⟨d, e, p⟩ => ⟨.ok d ε, by rw [e]; rfl, p⟩⟩
  obtain ⟨a, ea, rfl⟩ := Option.map_eq_some_iff.mp e
  exact ⟨a, ea, p⟩
theorem W_bnd {g : α → VL.Env → Option (Out β)} {Q : β → VL.Env → Prop} : W (bnd f g) ε Q X = W f ε (fun a ε' => W (g a) ε' Q X) X := by
  refine propext ⟨fun ⟨o, e, p⟩ => ?_, fun ⟨o, e, p⟩ => ?_⟩
  · rcases bnd_some e with ⟨x, ε', e1, rfl⟩ | ⟨a, ε', e1, e2⟩
    · exact ⟨_, e1, p⟩
    · exact ⟨_, e1, o, e2, p⟩
  · cases o with
    | ok a ε' => obtain ⟨o, e2, p⟩ := p; exact ⟨o, by unfold bnd; rw [e]; exact e2, p⟩
    | ex x ε' => exact ⟨_, by unfold bnd; rw [e], p⟩
theorem W_bndm {g : α → VL.Env → Option (Out β)} {Q : β → VL.Env → Prop} (h : W (bnd f g) ε Q X) : W f ε (fun a ε' => W (g a) ε' Q X) X := W_bnd ▸ h
theorem W_bndr {g : α → VL.Env → Option (Out β)} {Q : β → VL.Env → Prop} (h : W f ε (fun a ε' => W (g a) ε' Q X) X) : W (bnd f g) ε Q X := W_bnd ▸ h
theorem W_none : W (fun _ => (none : Option (Out α))) ε P X = False := propext ⟨fun ⟨_, e, _⟩ => (nomatch e), fun h => h.elim⟩
theorem W_dite {k : Prop} [Decidable k] {f g : VL.Env → Option (Out α)} : W (if k then f else g) ε P X = if k then W f ε P X else W g ε P X := by
  by_cases h : k
  · rw [if_pos h, if_pos h]
  · rw [if_neg h, if_neg h]
/-- a guarded end -/
theorem W_guard {k : Prop} [Decidable k] {a : α} : W (if k then ret a else fun _ => none) ε P X = (k ∧ P a ε) := by
  by_cases h : k
  · rw [if_pos h, W_ret]; simp [h]
  · rw [if_neg h, W_none]; simp [h]
end expr
def parD (ds : List D) : Option (List D) := match ds with
  | [d, c] => (rowD d).bind fun xs => (rowD c).map fun ys => parI xs ys
  | _ => none
def rng3 (ds : List D) : Option (List D) := match ds with
  | [.int i, .int j, .int k] => if k = -1 ∧ -(2 ^ 62) ≤ i ∧ i < 2 ^ 62 ∧ -(2 ^ 62) ≤ j ∧ j < 2 ^ 62 then some (downD i j) else none
  | _ => none
/-- what enumerate(..) walks -/
def numD (ds : List D) : Option (List D) := match ds with
  | [d] => (rowD d).map (numI 0)
  | _ => none
section
variable {ε : VL.Env} {fa fb : VL.Env → Option (Out D)} {P : D → VL.Env → Prop} {X : Exn → VL.Env → Prop} {f : D → D → Option D} {i j : Nat} {Pb : Bool → VL.Env → Prop} {PL : List D → VL.Env → Prop} {fs fs2 : VL.Env → Option (Out (List D))} {ft fu : VL.Env → Option (Out Bool)}
def varW (s : Option (Option Slot)) (P : D → Prop) (Q : List D → Prop) : Prop := (∃ d, s = some (some (.fr d)) ∧ P d) ∨ ∃ ds, s = some (some (.ow false ds)) ∧ Q ds
theorem varW_fr {d : D} {P : D → Prop} {Q : List D → Prop} : varW (some (some (.fr d))) P Q = P d := propext ⟨fun h => by rcases h with ⟨_, e, p⟩ | ⟨_, e, _⟩ <;> cases e; exact p, fun p => .inl ⟨d, rfl, p⟩⟩
theorem varW_ow {ds : List D} {P : D → Prop} {Q : List D → Prop} : varW (some (some (.ow false ds))) P Q = Q ds := propext ⟨fun h => by rcases h with ⟨_, e, p⟩ | ⟨_, e, p⟩ <;> cases e; exact p, fun p => .inr ⟨ds, rfl, p⟩⟩
theorem W_var : W (eVar i) ε P X = varW ε[i]? (fun d => P d ε) (fun ds => P (.lst ds) (ε.set i (some (.fr (.lst ds))))) := by
  refine propext ⟨fun ⟨o, e, p⟩ => ?_, fun h => ?_⟩
  · unfold eVar at e
    split at e
    · rename_i d h; cases e; exact .inl ⟨d, h, p⟩
    · rename_i d h; cases e; exact .inr ⟨d, h, p⟩
    · cases e
  · rcases h with ⟨d, e, p⟩ | ⟨ds, e, p⟩
    · exact ⟨.ok d ε, by unfold eVar; rw [e], p⟩
    · exact ⟨_, by unfold eVar; rw [e], p⟩
theorem W_K {d : D} : W (eK d) ε P X = P d ε := W_ret
theorem W_e2 : W (e2 f fa fb) ε P X = W fa ε (fun a ε1 => W fb ε1 (fun b ε2 => Gt (f a b) fun d => P d ε2) X) X := by
  unfold e2; simp only [W_bnd, W_lift]
theorem W_e1 {f : D → Option D} : W (e1 f fa) ε P X = W fa ε (fun a ε1 => Gt (f a) fun d => P d ε1) X := by
  unfold e1; simp only [W_bnd, W_lift]
theorem W_eB2 : W (eB2 f i fb) ε P X = Gt (rdS i ε) fun _ => W fb ε (fun b ε' => Gt (rdS i ε') fun a => Gt (f a b) fun d => P d ε') X := by
  have key : ∀ d0, rdS i ε = some d0 → eB2 f i fb ε = bnd fb (fun b ε' => (rdS i ε').bind fun a => (f a b).map fun d => Out.ok d ε') ε := by
    intro d0 h; unfold eB2; rw [h]
  have k2 : ∀ b ε', W (fun ε' => (rdS i ε').bind fun a => (f a b).map fun d => Out.ok d ε') ε' P X = Gt (rdS i ε') fun a => Gt (f a b) fun d => P d ε' := by
    intro b ε'
    refine propext ⟨fun ⟨r, e, p⟩ => ?_, fun ⟨a, e, d, e2, p⟩ => ⟨.ok d ε', by dsimp only; rw [e]; simp [e2], p⟩⟩
    obtain ⟨a, ea, e2⟩ := Option.bind_eq_some_iff.mp e
    obtain ⟨d, ed, rfl⟩ := Option.map_eq_some_iff.mp e2
    exact ⟨a, ea, d, ed, p⟩
  refine propext ⟨fun ⟨o, e, p⟩ => ?_, fun ⟨d0, h, q⟩ => ?_⟩
  · cases h : rdS i ε with
    | none => unfold eB2 at e; rw [h] at e; cases e
    | some d0 =>
      rw [key d0 h] at e
      have : W (bnd fb (fun b ε' => (rdS i ε').bind fun a => (f a b).map fun d => Out.ok d ε')) ε P X := ⟨o, e, p⟩
      rw [W_bnd] at this
      exact ⟨d0, rfl, by simpa only [k2] using this⟩
  · have : W (bnd fb (fun b ε' => (rdS i ε').bind fun a => (f a b).map fun d => Out.ok d ε')) ε P X := by
      rw [W_bnd]; simpa only [k2] using q
    obtain ⟨o, e, p⟩ := this
    exact ⟨o, by rw [key d0 h]; exact e, p⟩
theorem W_aBor : W (aBor i fs) ε PL X = Gt (rdS i ε) fun _ => W fs ε (fun ds ε' => Gt (rdS i ε') fun a => PL (a :: ds) ε') X := by
  have key : ∀ d0, rdS i ε = some d0 → aBor i fs ε = bnd fs (fun ds ε' => (rdS i ε').map fun d => Out.ok (d :: ds) ε') ε := by
    intro d0 h; unfold aBor; rw [h]
  have k2 : ∀ ds ε', W (fun ε' => (rdS i ε').map fun d => Out.ok (d :: ds) ε') ε' PL X = Gt (rdS i ε') fun a => PL (a :: ds) ε' := by
    intro ds ε'
    refine propext ⟨fun ⟨r, e, p⟩ => ?_, fun ⟨a, e, p⟩ => ⟨.ok (a :: ds) ε', by dsimp only; rw [e]; rfl, p⟩⟩
    obtain ⟨a, ea, rfl⟩ := Option.map_eq_some_iff.mp e
    exact ⟨a, ea, p⟩
  refine propext ⟨fun ⟨o, e, p⟩ => ?_, fun ⟨d0, h, q⟩ => ?_⟩
  · cases h : rdS i ε with
    | none => unfold aBor at e; rw [h] at e; cases e
    | some d0 =>
      rw [key d0 h] at e
      have : W (bnd fs (fun ds ε' => (rdS i ε').map fun d => Out.ok (d :: ds) ε')) ε PL X := ⟨o, e, p⟩
      rw [W_bnd] at this
      exact ⟨d0, rfl, by simpa only [k2] using this⟩
  · have : W (bnd fs (fun ds ε' => (rdS i ε').map fun d => Out.ok (d :: ds) ε')) ε PL X := by
      rw [W_bnd]; simpa only [k2] using q
    obtain ⟨o, e, p⟩ := this
    exact ⟨o, by rw [key d0 h]; exact e, p⟩
theorem W_eT : W (eT fa) ε Pb X = W fa ε (fun d ε1 => Gt (asB d) fun b => Pb b ε1) X := by
  unfold eT; simp only [W_bnd, W_lift]
theorem W_tTru : W (tTru fa) ε Pb X = W fa ε (fun d ε1 => Gt (tru d) fun b => Pb b ε1) X := by
  unfold tTru; simp only [W_bnd, W_lift]
theorem W_tAnd : W (tAnd' ft fu) ε Pb X = W ft ε (fun k ε1 => if k = true then W fu ε1 Pb X else Pb false ε1) X := by
  unfold tAnd'; simp only [W_bnd, W_dite, W_ret]
theorem W_tOr : W (tOr' ft fu) ε Pb X = W ft ε (fun k ε1 => if k = true then Pb true ε1 else W fu ε1 Pb X) X := by
  unfold tOr'; simp only [W_bnd, W_dite, W_ret]
theorem W_tNot : W (tNot' ft) ε Pb X = W ft ε (fun k ε1 => Pb (!k) ε1) X := by
  unfold tNot'; simp only [W_bnd, W_ret]
theorem W_eIf : W (eIf ft fa fb) ε P X = W ft ε (fun k ε1 => if k = true then W fa ε1 P X else W fb ε1 P X) X := by
  unfold eIf; simp only [W_bnd, W_dite]
theorem W_eNot : W (eNot fa) ε P X = W fa ε (fun d ε1 => Gt (tru d) fun b => P (.bl !b) ε1) X := by
  unfold eNot; simp only [W_bnd, W_lift, Gt_map]
theorem W_eAnd : W (eAnd fa fb) ε P X = W fa ε (fun d ε1 => Gt (tru d) fun b => if b = true then W fb ε1 P X else P d ε1) X := by
  unfold eAnd
  rw [W_bnd]
  refine propext ⟨fun h => h.mono (fun d ε1 ⟨o, e, p⟩ => ?_) fun _ _ h => h, fun h => h.mono (fun d ε1 ⟨b, e, p⟩ => ?_) fun _ _ h => h⟩
  · dsimp only at e
    split at e
    · rename_i h; exact ⟨true, h, by dsimp only; rw [if_pos rfl]; exact ⟨o, e, p⟩⟩
    · rename_i h; cases e; exact ⟨false, h, by dsimp only; rw [if_neg Bool.false_ne_true]; exact p⟩
    · cases e
  · cases b with
    | true => rw [if_pos rfl] at p; obtain ⟨o, e2, p⟩ := p; exact ⟨o, by dsimp only; rw [e]; exact e2, p⟩
    | false => rw [if_neg Bool.false_ne_true] at p; exact ⟨.ok d ε1, by dsimp only; rw [e], p⟩
theorem W_eOr : W (eOr fa fb) ε P X = W fa ε (fun d ε1 => Gt (tru d) fun b => if b = true then P d ε1 else W fb ε1 P X) X := by
  unfold eOr
  rw [W_bnd]
  refine propext ⟨fun h => h.mono (fun d ε1 ⟨o, e, p⟩ => ?_) fun _ _ h => h, fun h => h.mono (fun d ε1 ⟨b, e, p⟩ => ?_) fun _ _ h => h⟩
  · dsimp only at e
    split at e
    · rename_i h; cases e; exact ⟨true, h, by dsimp only; rw [if_pos rfl]; exact p⟩
    · rename_i h; exact ⟨false, h, by dsimp only; rw [if_neg Bool.false_ne_true]; exact ⟨o, e, p⟩⟩
    · cases e
  · cases b with
    | true => rw [if_pos rfl] at p; exact ⟨.ok d ε1, by dsimp only; rw [e], p⟩
    | false => rw [if_neg Bool.false_ne_true] at p; obtain ⟨o, e2, p⟩ := p; exact ⟨o, by dsimp only; rw [e]; exact e2, p⟩
theorem W_aNil : W aNil ε PL X = PL [] ε := W_ret
theorem W_aCons : W (aCons fa fs) ε PL X = W fa ε (fun d ε1 => W fs ε1 (fun ds ε2 => PL (d :: ds) ε2) X) X := by
  unfold aCons; simp only [W_bnd, W_ret]
theorem W_aStar : W (aStar fa fs) ε PL X = W fa ε (fun d ε1 => Gt (asItems d) fun xs => W fs ε1 (fun ds ε2 => PL (xs ++ ds) ε2) X) X := by
  unfold aStar; simp only [W_bnd, W_ret, W_lift]
theorem W_eTup : W (eTup fs) ε P X = W fs ε (fun ds ε1 => ds.length ≤ sizeLine ∧ P (.tup ds) ε1) X := by
  unfold eTup; simp only [W_bnd, W_guard]
theorem W_nLst : W (nLst fs) ε PL X = W fs ε (fun ds ε1 => ds.length ≤ sizeLine ∧ PL ds ε1) X := by
  unfold nLst; simp only [W_bnd, W_guard]
theorem W_eN : W (eN fs) ε P X = W fs ε (fun ds ε1 => P (.lst ds) ε1) X := by
  unfold eN; simp only [W_bnd, W_ret]
theorem W_eCB {f : List D → Option D} : W (eCB f fs) ε P X = W fs ε (fun ds ε1 => Gt (f ds) fun d => P d ε1) X := by
  unfold eCB; simp only [W_bnd, W_lift]
theorem W_eCall {fn : List D → Option D} {bs : List Nat} : W (eCall fn bs fs) ε P X = W fs ε (fun ds ε1 => Gt (fn ds) fun d => (bs.all (isFr ε1) || noL d) = true ∧ P d ε1) X := by
  unfold eCall
  rw [W_bnd]
  refine propext ⟨fun h => h.mono (fun d ε1 ⟨o, e, p⟩ => ?_) fun _ _ h => h, fun h => h.mono (fun d ε1 ⟨b, e, c, p⟩ => ⟨.ok b ε1, by dsimp only; rw [e]; exact if_pos c, p⟩) fun _ _ h => h⟩
  obtain ⟨a, ea, e2⟩ := Option.bind_eq_some_iff.mp e
  split at e2
  · rename_i h; cases e2; exact ⟨a, ea, h, p⟩
  · cases e2
theorem W_nCall {fn : List D → Option (List D)} {bs : List Nat} : W (nCall fn bs fs) ε PL X = W fs ε (fun ds ε1 => Gt (fn ds) fun d => bs.all (isFr ε1) = true ∧ PL d ε1) X := by
  unfold nCall
  rw [W_bnd]
  refine propext ⟨fun h => h.mono (fun d ε1 ⟨o, e, p⟩ => ?_) fun _ _ h => h, fun h => h.mono (fun d ε1 ⟨b, e, c, p⟩ => ⟨.ok b ε1, by dsimp only; rw [e]; exact if_pos c, p⟩) fun _ _ h => h⟩
  obtain ⟨a, ea, e2⟩ := Option.bind_eq_some_iff.mp e
  split at e2
  · rename_i h; cases e2; exact ⟨a, ea, h, p⟩
  · cases e2
theorem W_eCallX {fn : List D → Option Rs} {bs : List Nat} : W (eCallX fn bs fs) ε P X = W fs ε (fun ds ε1 => GX (fn ds) (fun d => (bs.all (isFr ε1) || noL d) = true ∧ P d ε1) (fun x => (bs.all (isFr ε1) || noLF x.fs) = true ∧ X x ε1)) X := by
  unfold eCallX
  rw [W_bnd]
  refine propext ⟨fun h => h.mono (fun d ε1 ⟨o, e, p⟩ => ?_) fun _ _ h => h, fun h => h.mono (fun d ε1 ⟨b, e, p⟩ => ?_) fun _ _ h => h⟩
  · dsimp only at e
    split at e
    · rename_i d' ed
      split at e
      · rename_i c; cases e; exact ⟨_, ed, c, p⟩
      · cases e
    · rename_i d' ed
      split at e
      · rename_i c; cases e; exact ⟨_, ed, c, p⟩
      · cases e
    · cases e
  · cases b with
    | ok d' => exact ⟨.ok d' ε1, by dsimp only; rw [e]; exact if_pos p.1, p.2⟩
    | error x => exact ⟨.ex x ε1, by dsimp only; rw [e]; exact if_pos p.1, p.2⟩
theorem W_eCallC {fn : List D → Option D} {n m : Nat} {gD : List D → List D → List D} : W (eCallC fn n m gD fs fs2) ε P X = W fs ε (fun ds ε1 => W fs2 ε1 (fun zs ε2 => (ds.length = n ∧ zs.length = m) ∧ Gt (fn (gD ds zs)) fun d => P d ε2) X) X := by
  unfold eCallC; simp only [W_bnd, W_lift]
  have : ∀ (c : Prop) [Decidable c] (o : Option D) (Q : D → Prop), Gt (if c then o else none) Q = (c ∧ Gt o Q) := fun c _ o Q => by
    by_cases h : c
    · rw [if_pos h]; simp [h]
    · rw [if_neg h]; simp [h, Gt]
  simp only [this]
theorem W_eCallCX {fn : List D → Option Rs} {n m : Nat} {gD : List D → List D → List D} : W (eCallCX fn n m gD fs fs2) ε P X = W fs ε (fun ds ε1 => W fs2 ε1 (fun zs ε2 => (ds.length = n ∧ zs.length = m) ∧ GX (fn (gD ds zs)) (fun d => P d ε2) (fun x => X x ε2)) X) X := by
  unfold eCallCX; simp only [W_bnd]
  refine propext ⟨fun h => h.mono (fun d ε1 h => h.mono (fun zs ε2 ⟨o, e, p⟩ => ?_) fun _ _ h => h) fun _ _ h => h, fun h => h.mono (fun d ε1 h => h.mono (fun zs ε2 ⟨c, b, e, p⟩ => ?_) fun _ _ h => h) fun _ _ h => h⟩
  · dsimp only at e
    split at e
    · rename_i c
      refine ⟨c, ?_⟩
      split at e
      · rename_i d' ed; cases e; exact ⟨_, ed, p⟩
      · rename_i d' ed; cases e; exact ⟨_, ed, p⟩
      · cases e
    · cases e
  · cases b with
    | ok d' => exact ⟨.ok d' ε2, by dsimp only; rw [if_pos c, e], p⟩
    | error x => exact ⟨.ex x ε2, by dsimp only; rw [if_pos c, e], p⟩
theorem W_eCallM {fn : List D → List D → Option (D × List D)} : W (eCallM i fn fs) ε P X = Gt (rdS i ε) fun _ => W fs ε (fun ds ε1 => owW ε1[i]? fun l cs => Gt (fn cs ds) fun r => P r.1 (ε1.set i (some (.ow l r.2)))) X := by
  have k2 : ∀ ds ε', W (fun ε' => match ε'[i]? with
    | some (some (.ow l cs)) => (fn cs ds).map fun r => .ok r.1 (ε'.set i (some (.ow l r.2)))
    | _ => none) ε' P X = owW ε'[i]? fun l cs => Gt (fn cs ds) fun r => P r.1 (ε'.set i (some (.ow l r.2))) := by
    intro ds ε'
    refine propext ⟨fun ⟨r, e, p⟩ => ?_, fun ⟨l, cs, e, r, e2, p⟩ => ⟨.ok r.1 (ε'.set i (some (.ow l r.2))), by dsimp only; rw [e]; simp [e2], p⟩⟩
    dsimp only at e
    split at e
    · rename_i l cs ec
      obtain ⟨a, ea, rfl⟩ := Option.map_eq_some_iff.mp e
      exact ⟨l, cs, ec, a, ea, p⟩
    · cases e
  have key : ∀ d0, rdS i ε = some d0 → eCallM i fn fs ε = bnd fs (fun ds ε' => match ε'[i]? with
    | some (some (.ow l cs)) => (fn cs ds).map fun r => .ok r.1 (ε'.set i (some (.ow l r.2)))
    | _ => none) ε := by
    intro d0 h; unfold eCallM; (rw [h]) <;> rfl
  refine propext ⟨fun ⟨o, e, p⟩ => ?_, fun ⟨d0, h, q⟩ => ?_⟩
  · cases h : rdS i ε with
    | none => unfold eCallM at e; rw [h] at e; cases e
    | some d0 =>
      rw [key d0 h] at e
      have := W_bndm (Q := P) (X := X) ⟨o, e, p⟩
      exact ⟨d0, rfl, by simpa only [k2] using this⟩
  · have := W_bndr (X := X) (ε := ε) (Q := P) (g := fun ds ε' => match ε'[i]? with
    | some (some (.ow l cs)) => (fn cs ds).map fun r => .ok r.1 (ε'.set i (some (.ow l r.2)))
    | _ => none) (by simpa only [k2] using q)
    obtain ⟨o, e, p⟩ := this
    exact ⟨o, by rw [key d0 h]; exact e, p⟩
theorem W_eHeard {hd : Rs → Option D} : W (eHeard hd fa) ε P X = W fa (frE ε) (fun d _ => Gt (hd (.ok d)) fun r => P r ε) (fun x _ => Gt (hd (.error x)) fun r => P r ε) := by
  refine propext ⟨fun ⟨o, e, p⟩ => ?_, fun ⟨o, e, p⟩ => ?_⟩
  · unfold eHeard at e
    split at e
    · rename_i d ε' h
      obtain ⟨a, ea, rfl⟩ := Option.map_eq_some_iff.mp e
      exact ⟨_, h, a, ea, p⟩
    · rename_i d ε' h
      obtain ⟨a, ea, rfl⟩ := Option.map_eq_some_iff.mp e
      exact ⟨_, h, a, ea, p⟩
    · cases e
  · cases o with
    | ok d ε' => obtain ⟨r, er, p⟩ := p; exact ⟨.ok r ε, by unfold eHeard; rw [e]; simp [er], p⟩
    | ex d ε' => obtain ⟨r, er, p⟩ := p; exact ⟨.ok r ε, by unfold eHeard; rw [e]; simp [er], p⟩
theorem W_eXat {ns : List Str} {n : Str} : W (eXat ns n fa) ε P X = W fa ε (fun d ε1 => Gt (bXat ns n d) fun r => P r ε1) X := by
  unfold eXat; simp only [W_bnd, W_lift]
/-- what zip(..) and range(.., .., -1) walk -/
theorem W_iPar : W (iPar fs) ε PL X = W fs ε (fun ds ε1 => Gt (parD ds) fun r => PL r ε1) X := by
  unfold iPar; simp only [W_bnd, W_lift]; rfl
theorem W_iRange3 : W (iRange3 fs) ε PL X = W fs ε (fun ds ε1 => Gt (rng3 ds) fun r => PL r ε1) X := by
  unfold iRange3; simp only [W_bnd, W_lift]; rfl
theorem W_eCh {f f' : D → D → Option D} {fc : VL.Env → Option (Out D)} : W (eCh f f' fa fb fc) ε P X = W fa ε (fun a ε1 => W fb ε1 (fun b ε2 => Gt (f a b) fun d => Gt (asB d) fun k => if k = true then W fc ε2 (fun c ε3 => Gt (f' b c) fun r => P r ε3) X else P (.bl false) ε2) X) X := by
  unfold eCh; simp only [W_bnd, W_lift, W_dite, W_ret, Gt_bind]
theorem W_iNum : W (iNum fs) ε PL X = W fs ε (fun ds ε1 => Gt (numD ds) fun r => PL r ε1) X := by
  unfold iNum; simp only [W_bnd, W_lift]; rfl
theorem W_eStep : W (eStep fa fb) ε P X = W fa ε (fun a ε1 => W fb ε1 (fun b ε2 => Gt (stepD a b) fun d => P d ε2) X) X := by
  unfold eStep; rw [W_e2]
theorem W_iItems : W (iItems fa) ε PL X = W fa ε (fun d ε1 => Gt (itemsD d) fun r => PL r ε1) X := by
  unfold iItems; simp only [W_bnd, W_lift]
/-- what range(..) walks -/
def rng1 : List D → Option (List D)
  | [.int j] => if -(2 ^ 62) ≤ j ∧ j < 2 ^ 62 then some (rngD 0 j) else none
  | _ => none
def rng2 : List D → Option (List D)
  | [.int i, .int j] => if -(2 ^ 62) ≤ i ∧ i < 2 ^ 62 ∧ -(2 ^ 62) ≤ j ∧ j < 2 ^ 62 then some (rngD i j) else none
  | _ => none
theorem W_iRange1 : W (iRange1 fs) ε PL X = W fs ε (fun ds ε1 => Gt (rng1 ds) fun r => PL r ε1) X := by
  unfold iRange1; simp only [W_bnd, W_lift]; rfl
theorem W_iRange2 : W (iRange2 fs) ε PL X = W fs ε (fun ds ε1 => Gt (rng2 ds) fun r => PL r ε1) X := by
  unfold iRange2; simp only [W_bnd, W_lift]; rfl
theorem W_oPart {Q : Option Int → VL.Env → Prop} : W (oPart fa) ε Q X = W fa ε (fun d ε1 => Gt (asI d) fun r => Q (some r) ε1) X := by
  unfold oPart; simp only [W_bnd, W_lift, Gt_map]
theorem W_eCut {fl fh : VL.Env → Option (Out (Option Int))} : W (eCut fa fl fh) ε P X = W fa ε (fun d ε1 => W fl ε1 (fun lo ε2 => W fh ε2 (fun hi ε3 => Gt (oCutA d lo hi) fun r => P r ε3) X) X) X := by
  unfold eCut; simp only [W_bnd, W_lift]
theorem W_nCut {fl fh : VL.Env → Option (Out (Option Int))} : W (nCut fa fl fh) ε PL X = W fa ε (fun d ε1 => W fl ε1 (fun lo ε2 => W fh ε2 (fun hi ε3 => Gt (lstD d) fun xs => PL (cutD xs lo hi) ε3) X) X) X := by
  unfold nCut; simp only [W_bnd, W_lift, Gt_map]
def addL : D → D → Option (List D)
  | .lst x, .lst y => if x.length + y.length ≤ sizeLine then some (x ++ y) else none
  | _, _ => none
def mulL : D → D → Option (List D)
  | .lst x, .int k => if -(2 ^ 63) ≤ k ∧ k < 2 ^ 63 ∧ x.length * k.toNat ≤ sizeLine then some (List.replicate k.toNat x).flatten else none
  | _, _ => none
theorem W_nAdd : W (nAdd fa fb) ε PL X = W fa ε (fun a ε1 => W fb ε1 (fun b ε2 => Gt (addL a b) fun r => PL r ε2) X) X := by
  unfold nAdd; simp only [W_bnd, W_lift]; rfl
theorem W_nMul : W (nMul fa fb) ε PL X = W fa ε (fun a ε1 => W fb ε1 (fun b ε2 => Gt (mulL a b) fun r => PL r ε2) X) X := by
  unfold nMul; simp only [W_bnd, W_lift]; rfl
theorem W_nList : W (nList fa) ε PL X = W fa ε (fun d ε1 => Gt (asItems d) fun r => PL r ε1) X := by
  unfold nList; simp only [W_bnd, W_lift]
theorem W_eIsiT {Ts : List String} : W (eIsiT fa Ts) ε P X = W fa ε (fun d ε1 => Gt (tyN d) fun S => Gt (kitL S Ts) fun b => P (.bl b) ε1) X := by
  unfold eIsiT; simp only [W_bnd, W_lift, Gt_map, Gt_bind]
/-- x.append -/
def appK (i : Nat) (d : D) : VL.Env → Option (Out D) := fun ε' => match ε'[i]? with
    | some (some (.ow l ds)) => if ds.length < sizeLine then some (.ok .non (ε'.set i (some (.ow l (ds ++ [d]))))) else none
    | _ => none
theorem W_appK {d : D} : W (appK i d) ε P X = owW ε[i]? fun l ds => ds.length < sizeLine ∧ P .non (ε.set i (some (.ow l (ds ++ [d])))) := by
  refine propext ⟨fun ⟨r, e, p⟩ => ?_, fun ⟨l, cs, e, c, p⟩ => ⟨.ok .non (ε.set i (some (.ow l (cs ++ [d])))), by unfold appK; rw [e]; exact if_pos c, p⟩⟩
  unfold appK at e
  split at e
  · rename_i l cs ec
    split at e
    · rename_i c; cases e; exact ⟨l, cs, ec, c, p⟩
    · cases e
  · cases e
theorem eApp_at {l : Bool} {ds : List D} (h : ε[i]? = some (some (.ow l ds))) : eApp i fa ε = bnd fa (appK i) ε := by unfold eApp; (rw [h]) <;> rfl
theorem W_eApp : W (eApp i fa) ε P X = owW ε[i]? fun _ _ => W fa ε (fun d ε1 => owW ε1[i]? fun l ds => ds.length < sizeLine ∧ P .non (ε1.set i (some (.ow l (ds ++ [d]))))) X := by
  refine propext ⟨fun ⟨o, e, p⟩ => ?_, fun ⟨l, ds, e0, q⟩ => ?_⟩
  · have e' := e
    unfold eApp at e'
    split at e'
    · rename_i l ds e0
      rw [eApp_at e0] at e
      have := W_bndm (Q := P) (X := X) ⟨o, e, p⟩
      simp only [W_appK] at this
      exact ⟨l, ds, e0, this⟩
    · cases e'
  · have : W (bnd fa (appK i)) ε P X := W_bndr (by simpa only [W_appK] using q)
    obtain ⟨o, e, p⟩ := this
    exact ⟨o, by rw [eApp_at e0]; exact e, p⟩
theorem W_ePop : W (ePop i) ε P X = owW ε[i]? fun l ds => Gt (ds[ds.length - 1]?) fun d => P d (ε.set i (some (.ow l ds.dropLast))) := by
  refine propext ⟨fun ⟨o, e, p⟩ => ?_, fun ⟨l, ds, e0, d, e1, q⟩ => ⟨.ok d (ε.set i (some (.ow l ds.dropLast))), by unfold ePop; rw [e0]; simp [e1], q⟩⟩
  unfold ePop at e
  split at e
  · rename_i l ds e0
    obtain ⟨a, ea, rfl⟩ := Option.map_eq_some_iff.mp e
    exact ⟨l, ds, e0, a, ea, p⟩
  · cases e
def popK (i : Nat) (d : D) : VL.Env → Option (Out D) := fun ε' => match d, ε'[i]? with
    | .int k, some (some (.ow l ds)) => if -(2 ^ 63) ≤ k ∧ k < 2 ^ 63 then (seqIndex? k ds.length).bind fun j => (ds[j]?).map fun x => .ok x (ε'.set i (some (.ow l (ds.eraseIdx j)))) else none
    | _, _ => none
theorem W_popK {d : D} : W (popK i d) ε P X = Gt (asI d) fun k => owW ε[i]? fun l ds => (-(2 ^ 63) ≤ k ∧ k < 2 ^ 63) ∧ Gt (seqIndex? k ds.length) fun j => Gt ds[j]? fun x => P x (ε.set i (some (.ow l (ds.eraseIdx j)))) := by
  refine propext ⟨fun ⟨r, e, p⟩ => ?_, fun ⟨k, ek, l, cs, e, c, j, ej, x, ex, p⟩ => ⟨.ok x (ε.set i (some (.ow l (cs.eraseIdx j)))), ?_, p⟩⟩
  · unfold popK at e
    split at e
    · split at e
      · rename_i c
        obtain ⟨j, ej, e⟩ := Option.bind_eq_some_iff.mp e
        obtain ⟨x, ex, rfl⟩ := Option.map_eq_some_iff.mp e
        exact ⟨_, rfl, _, _, by assumption, c, j, ej, x, ex, p⟩
      · cases e
    · cases e
  · cases d <;> simp [VL.asI] at ek
    subst ek
    unfold popK
    rw [e]
    dsimp only
    rw [if_pos c, ej]
    simp [ex]
theorem ePopAt_at {l : Bool} {ds : List D} (h : ε[i]? = some (some (.ow l ds))) : ePopAt i fa ε = bnd fa (popK i) ε := by unfold ePopAt; (rw [h]) <;> rfl
theorem W_ePopAt : W (ePopAt i fa) ε P X = owW ε[i]? fun _ _ => W fa ε (fun d ε1 => Gt (asI d) fun k => owW ε1[i]? fun l ds => (-(2 ^ 63) ≤ k ∧ k < 2 ^ 63) ∧ Gt (seqIndex? k ds.length) fun j => Gt ds[j]? fun x => P x (ε1.set i (some (.ow l (ds.eraseIdx j))))) X := by
  refine propext ⟨fun ⟨o, e, p⟩ => ?_, fun ⟨l, ds, e0, q⟩ => ?_⟩
  · have e' := e
    unfold ePopAt at e'
    split at e'
    · rename_i l ds e0
      rw [ePopAt_at e0] at e
      have := W_bndm (Q := P) (X := X) ⟨o, e, p⟩
      simp only [W_popK] at this
      exact ⟨l, ds, e0, this⟩
    · cases e'
  · have : W (bnd fa (popK i)) ε P X := W_bndr (by simpa only [W_popK] using q)
    obtain ⟨o, e, p⟩ := this
    exact ⟨o, by rw [ePopAt_at e0]; exact e, p⟩
end

section stmts
variable {ε : VL.Env} {g h : SF} {P : R → Prop} {i j k : Nat} {f fk : VL.Env → Option (Out D)} {fs : VL.Env → Option (Out (List D))} {c : VL.Env → Option (Out Bool)}
theorem thR_nx : thR h P (.nx ε) = Rn h ε P := rfl
theorem thR_rt {d : D} : thR h P (.rt d ε) = P (.rt d ε) := rfl
theorem thR_ex {x : Exn} : thR h P (.ex x ε) = P (.ex x ε) := rfl
theorem thR_bk : thR h P (.bk ε) = P (.bk ε) := rfl
theorem thR_ct : thR h P (.ct ε) = P (.ct ε) := rfl
theorem Rn_nil : Rn sNil ε P = P (.nx ε) := propext run_nil
theorem Rn_bk : Rn (fun ε => some (.bk ε)) ε P = P (.bk ε) := propext ⟨fun ⟨_, e, p⟩ => by cases e; exact p, fun p => ⟨_, rfl, p⟩⟩
theorem Rn_ct : Rn (fun ε => some (.ct ε)) ε P = P (.ct ε) := propext ⟨fun ⟨_, e, p⟩ => by cases e; exact p, fun p => ⟨_, rfl, p⟩⟩
theorem Rn_never : Rn (fun _ => none) ε P = False := propext ⟨fun ⟨_, e, _⟩ => (nomatch e), fun h => h.elim⟩
theorem Rn_retN : Rn sRetN ε P = P (.rt .non ε) := propext ⟨fun ⟨_, e, p⟩ => by cases e; exact p, fun p => ⟨_, rfl, p⟩⟩
theorem Rn_seq : Rn (sSeq g h) ε P = Rn g ε (thR h P) := propext run_seq
theorem Rn_sE {α : Type} {f : VL.Env → Option (Out α)} {k : α → VL.Env → Option R} : Rn (sE f k) ε P = W f ε (fun d ε1 => Gt (k d ε1) P) (fun x ε1 => P (.ex x ε1)) := by
  refine propext ⟨fun ⟨r, e, p⟩ => ?_, fun ⟨o, e, p⟩ => ?_⟩
  · rcases sE_some e with ⟨x, ε', e1, rfl⟩ | ⟨a, ε', e1, e2⟩
    · exact ⟨_, e1, p⟩
    · exact ⟨_, e1, r, e2, p⟩
  · cases o with
    | ok a ε' => obtain ⟨r, e2, p⟩ := p; exact ⟨r, by unfold sE; rw [e]; exact e2, p⟩
    | ex x ε' => exact ⟨_, by unfold sE; rw [e], p⟩
theorem Rn_set : Rn (sSet i f) ε P = W f ε (fun d ε1 => P (.nx (ε1.set i (some (.fr d))))) (fun x ε1 => P (.ex x ε1)) := by
  unfold sSet; simp only [Rn_sE, Gt_some]
def frzE (i : Nat) (ε : VL.Env) : VL.Env := match ε[i]? with
  | some (some (.ow false ds)) => ε.set i (some (.fr (.lst ds)))
  | _ => ε
theorem frzE_ow {ds : List D} : frzE 0 (some (.ow false ds) :: ε) = some (.fr (.lst ds)) :: ε := rfl
theorem frzE_fr {d : D} : frzE 0 (some (.fr d) :: ε) = some (.fr d) :: ε := rfl
theorem frzE_succ {s : Option Slot} : frzE (i + 1) (s :: ε) = s :: frzE i ε := by
  unfold frzE
  rw [List.getElem?_cons_succ]
  generalize ε[i]? = o
  rcases o with _ | _ | s
  · rfl
  · rfl
  · cases s with
    | fr d => rfl
    | ow l ds => cases l <;> rfl
theorem Rn_frz : Rn (sFrz i) ε P = P (.nx (frzE i ε)) := by
  have e : sFrz i ε = some (.nx (frzE i ε)) := by
    unfold sFrz frzE
    generalize ε[i]? = o
    rcases o with _ | _ | s
    · rfl
    · rfl
    · cases s with
      | fr d => rfl
      | ow l ds => cases l <;> rfl
  exact propext ⟨fun ⟨r, e2, p⟩ => by rw [e] at e2; cases e2; exact p, fun p => ⟨_, e, p⟩⟩
theorem Rn_parO2 {fb : VL.Env → Option (Out (List D))} : Rn (sParO2 i j f fb) ε P = W f ε (fun d ε1 => W fb ε1 (fun ds ε2 => P (.nx ((ε2.set i (some (.fr d))).set j (some (.ow false ds))))) (fun x ε2 => P (.ex x ε2))) (fun x ε1 => P (.ex x ε1)) := by
  unfold sParO2
  rw [Rn_sE]
  have : ∀ (d : D) (ε1 : VL.Env), Gt (sE fb (fun ds ε2 => some (.nx ((ε2.set i (some (.fr d))).set j (some (.ow false ds))))) ε1) P = W fb ε1 (fun ds ε2 => P (.nx ((ε2.set i (some (.fr d))).set j (some (.ow false ds))))) (fun x ε2 => P (.ex x ε2)) := fun d ε1 => by
    show Rn (sE fb _) ε1 P = _
    rw [Rn_sE]; simp only [Gt_some]
  simp only [this]
theorem Rn_parO3 {l : Nat} {f2 : VL.Env → Option (Out D)} {fb : VL.Env → Option (Out (List D))} : Rn (sParO3 i j l f f2 fb) ε P = W f ε (fun d ε1 => W f2 ε1 (fun d2 ε2 => W fb ε2 (fun ds ε3 => P (.nx (((ε3.set i (some (.fr d))).set j (some (.fr d2))).set l (some (.ow false ds))))) (fun x ε3 => P (.ex x ε3))) (fun x ε2 => P (.ex x ε2))) (fun x ε1 => P (.ex x ε1)) := by
  unfold sParO3
  rw [Rn_sE]
  have h1 : ∀ (d d2 : D) (ε2 : VL.Env), Gt (sE fb (fun ds ε3 => some (.nx (((ε3.set i (some (.fr d))).set j (some (.fr d2))).set l (some (.ow false ds))))) ε2) P = W fb ε2 (fun ds ε3 => P (.nx (((ε3.set i (some (.fr d))).set j (some (.fr d2))).set l (some (.ow false ds))))) (fun x ε3 => P (.ex x ε3)) := fun d d2 ε2 => by
    show Rn (sE fb _) ε2 P = _
    rw [Rn_sE]; simp only [Gt_some]
  have h2 : ∀ (d : D) (ε1 : VL.Env), Gt (sE f2 (fun d2 ε2 => sE fb (fun ds ε3 => some (.nx (((ε3.set i (some (.fr d))).set j (some (.fr d2))).set l (some (.ow false ds))))) ε2) ε1) P = W f2 ε1 (fun d2 ε2 => W fb ε2 (fun ds ε3 => P (.nx (((ε3.set i (some (.fr d))).set j (some (.fr d2))).set l (some (.ow false ds))))) (fun x ε3 => P (.ex x ε3))) (fun x ε2 => P (.ex x ε2)) := fun d ε1 => by
    show Rn (sE f2 _) ε1 P = _
    rw [Rn_sE]
    simp only [h1]
  simp only [h2]
/-- x[k] += e: the old item -/
def itI (d : Option D) (P : Int → Prop) : Prop := ∃ a, d = some (.int a) ∧ P a
theorem itI_at {a : Int} {P : Int → Prop} : itI (some (.int a)) P = P a := propext ⟨fun ⟨_, e, p⟩ => by cases e; exact p, fun p => ⟨_, rfl, p⟩⟩
theorem Rn_putA {g : Int → Int → Int} {fk : VL.Env → Option (Out D)} : Rn (sPutA i g fk f) ε P = Gt (rdS i ε) fun _ => W fk ε (fun kd ε1 => Gt (asI kd) fun z => owW ε1[i]? fun _ ds => itI (atI ds z) fun a => W f ε1 (fun d ε2 => Gt (asI d) fun b => owW ε2[i]? fun l2 ds2 => Gt (ixN ds2.length z) fun j => P (.nx (ε2.set i (some (.ow l2 (ds2.set j (.int (g a b)))))))) (fun x ε2 => P (.ex x ε2))) (fun x ε1 => P (.ex x ε1)) := by
  refine propext ⟨fun ⟨r, e, p⟩ => ?_, fun h => ?_⟩
  · unfold sPutA at e
    split at e
    · cases e
    rename_i d0 e0
    refine ⟨d0, e0, ?_⟩
    rcases sE_some e with ⟨x, ε', e1, rfl⟩ | ⟨kd, ε1, e1, e⟩
    · exact ⟨_, e1, p⟩
    refine ⟨_, e1, ?_⟩
    dsimp only at e ⊢
    split at e
    · rename_i z l ds ei
      split at e
      · rename_i a ea
        refine ⟨z, rfl, l, ds, ei, a, ea, ?_⟩
        rcases sE_some e with ⟨x, ε', e2, rfl⟩ | ⟨d, ε2, e2, e⟩
        · exact ⟨_, e2, p⟩
        refine ⟨_, e2, ?_⟩
        dsimp only at e ⊢
        split at e
        · rename_i b l2 ds2 ei2
          obtain ⟨j, ej, rfl⟩ := Option.map_eq_some_iff.mp e
          exact ⟨b, rfl, l2, ds2, ei2, j, ej, p⟩
        · cases e
      · cases e
    · cases e
  obtain ⟨d0, e0, o, e1, h⟩ := h
  unfold Rn sPutA
  rw [e0]
  dsimp only
  cases o with
  | ex x ε1 => exact ⟨.ex x ε1, by unfold sE; rw [e1], h⟩
  | ok kd ε1 =>
    obtain ⟨z, ez, l, ds, ei, a, ea, o2, e2, h⟩ := h
    cases kd <;> cases ez
    cases o2 with
    | ex x ε2 => exact ⟨.ex x ε2, by unfold sE; rw [e1]; dsimp only; rw [ei]; dsimp only; rw [ea]; dsimp only; rw [e2], h⟩
    | ok d ε2 =>
      obtain ⟨b, eb, l2, ds2, ei2, j, ej, h⟩ := h
      cases d <;> cases eb
      exact ⟨_, by unfold sE; rw [e1]; dsimp only; rw [ei]; dsimp only; rw [ea]; dsimp only; rw [e2]; dsimp only; rw [ei2]; dsimp only; rw [ej]; rfl, h⟩
def frI (s : Option (Option Slot)) (P : Int → Prop) : Prop := ∃ a, s = some (some (.fr (.int a))) ∧ P a
theorem frI_at {a : Int} {P : Int → Prop} : frI (some (some (.fr (.int a)))) P = P a := propext ⟨fun ⟨_, e, p⟩ => by cases e; exact p, fun p => ⟨_, rfl, p⟩⟩
theorem Rn_aug {g : Int → Int → Int} : Rn (sAug i g f) ε P = frI ε[i]? fun a => W f ε (fun d ε1 => Gt (asI d) fun b => P (.nx (ε1.set i (some (.fr (.int (g a b))))))) (fun x ε1 => P (.ex x ε1)) := by
  have key : ∀ a, ε[i]? = some (some (.fr (.int a))) → Rn (sAug i g f) ε P = W f ε (fun d ε1 => Gt (asI d) fun b => P (.nx (ε1.set i (some (.fr (.int (g a b))))))) (fun x ε1 => P (.ex x ε1)) := by
    intro a h
    have e1 : sAug i g f ε = sE f (fun d ε1 => (asI d).map fun b => R.nx (ε1.set i (some (.fr (.int (g a b)))))) ε := by
      unfold sAug
      rw [h]
      dsimp only
      congr 1
      funext d ε1
      cases d <;> rfl
    show (∃ r, sAug i g f ε = some r ∧ P r) = _
    rw [e1]
    show Rn _ ε P = _
    rw [Rn_sE]
    simp only [Gt_map]
  refine propext ⟨fun h => ?_, fun ⟨a, h, p⟩ => by rw [key a h]; exact p⟩
  have h' := h
  obtain ⟨r, e, p⟩ := h'
  unfold sAug at e
  split at e
  · rename_i a ea
    exact ⟨a, ea, (key a ea).mp h⟩
  · cases e
theorem Rn_own : Rn (sOwn i fs) ε P = W fs ε (fun d ε1 => P (.nx (ε1.set i (some (.ow false d))))) (fun x ε1 => P (.ex x ε1)) := by
  unfold sOwn; simp only [Rn_sE, Gt_some]
theorem Rn_ret : Rn (sRet f) ε P = W f ε (fun d ε1 => P (.rt d ε1)) (fun x ε1 => P (.ex x ε1)) := by
  unfold sRet; simp only [Rn_sE, Gt_some]
theorem Rn_expr : Rn (sExpr f) ε P = W f ε (fun d ε1 => P (.nx ε1)) (fun x ε1 => P (.ex x ε1)) := by
  unfold sExpr; simp only [Rn_sE, Gt_some]
theorem Rn_if : Rn (sIf c g h) ε P = W c ε (fun b ε1 => if b = true then Rn g ε1 P else Rn h ε1 P) (fun x ε1 => P (.ex x ε1)) := by
  unfold sIf
  rw [Rn_sE]
  have : ∀ (b : Bool) (ε1 : VL.Env), Gt ((if b = true then g else h) ε1) P = (if b = true then Rn g ε1 P else Rn h ε1 P) := fun b ε1 => by cases b <;> rfl
  simp only [this]
theorem Rn_asg {tg : D → VL.Env → Option VL.Env} : Rn (sAsg f tg) ε P = W f ε (fun d ε1 => Gt (tg d ε1) fun ε2 => P (.nx ε2)) (fun x ε1 => P (.ex x ε1)) := by
  unfold sAsg; simp only [Rn_sE, Gt_map]
/-- two, three values in a row -/
def two (ds : List D) (P : D → D → Prop) : Prop := ∃ a b, ds = [a, b] ∧ P a b
def three (ds : List D) (P : D → D → D → Prop) : Prop := ∃ a b c, ds = [a, b, c] ∧ P a b c
theorem two_at {a b : D} {P : D → D → Prop} : two [a, b] P = P a b := propext ⟨fun ⟨_, _, e, p⟩ => by cases e; exact p, fun p => ⟨_, _, rfl, p⟩⟩
theorem three_at {a b c : D} {P : D → D → D → Prop} : three [a, b, c] P = P a b c := propext ⟨fun ⟨_, _, _, e, p⟩ => by cases e; exact p, fun p => ⟨_, _, _, rfl, p⟩⟩
def parK (i j : Nat) (ds : List D) (ε1 : VL.Env) : Option R := match ds with
  | [a, b] => some (.nx ((ε1.set i (some (.fr a))).set j (some (.fr b))))
  | _ => none
def par3K (i j l : Nat) (ds : List D) (ε1 : VL.Env) : Option R := match ds with
  | [a, b, c] => some (.nx (((ε1.set i (some (.fr a))).set j (some (.fr b))).set l (some (.fr c))))
  | _ => none
def putK (i : Nat) (d kd : D) (ε : VL.Env) : Option R := match kd, ε[i]? with
    | .int z, some (some (.ow l ds)) => (ixN ds.length z).map fun j => .nx (ε.set i (some (.ow l (ds.set j d))))
    | _, _ => none
theorem Rn_par : Rn (sPar i j fs) ε P = W fs ε (fun ds ε1 => two ds fun a b => P (.nx ((ε1.set i (some (.fr a))).set j (some (.fr b))))) (fun x ε1 => P (.ex x ε1)) := by
  have e0 : sPar i j fs = sE fs (parK i j) := rfl
  rw [e0, Rn_sE]
  have : ∀ (ds : List D) (ε1 : VL.Env), Gt (parK i j ds ε1) P = (two ds fun a b => P (.nx ((ε1.set i (some (.fr a))).set j (some (.fr b))))) := fun ds ε1 => by
    match ds with
    | [a, b] => rw [two_at]; exact Gt_some
    | [] => simp [two, Gt, parK]
    | [a] => simp [two, Gt, parK]
    | a :: b :: c :: r => simp [two, Gt, parK]
  simp only [this]
theorem Rn_par3 : Rn (sPar3 i j k fs) ε P = W fs ε (fun ds ε1 => three ds fun a b c => P (.nx (((ε1.set i (some (.fr a))).set j (some (.fr b))).set k (some (.fr c))))) (fun x ε1 => P (.ex x ε1)) := by
  have e0 : sPar3 i j k fs = sE fs (par3K i j k) := rfl
  rw [e0, Rn_sE]
  have : ∀ (ds : List D) (ε1 : VL.Env), Gt (par3K i j k ds ε1) P = (three ds fun a b c => P (.nx (((ε1.set i (some (.fr a))).set j (some (.fr b))).set k (some (.fr c))))) := fun ds ε1 => by
    match ds with
    | [a, b, c] => rw [three_at]; exact Gt_some
    | [] => simp [three, Gt, par3K]
    | [a] => simp [three, Gt, par3K]
    | [a, b] => simp [three, Gt, par3K]
    | a :: b :: c :: d :: r => simp [three, Gt, par3K]
  simp only [this]
theorem Gt_putK {d kd : D} : Gt (putK i d kd ε) P = Gt (asI kd) fun z => owW ε[i]? fun l ds => Gt (ixN ds.length z) fun j => P (.nx (ε.set i (some (.ow l (ds.set j d))))) := by
  refine propext ⟨fun ⟨r, e, p⟩ => ?_, fun ⟨z, ez, l, ds, e, j, ej, p⟩ => ?_⟩
  · unfold putK at e
    split at e
    · obtain ⟨j, ej, rfl⟩ := Option.map_eq_some_iff.mp e
      exact ⟨_, rfl, _, _, by assumption, j, ej, p⟩
    · cases e
  · cases kd <;> simp [VL.asI] at ez
    subst ez
    exact ⟨_, by unfold putK; rw [e]; simp [ej], p⟩
theorem Rn_put : Rn (sPut i f fk) ε P = W f ε (fun d ε1 => Gt (rdS i ε1) fun _ => W fk ε1 (fun kd ε2 => Gt (asI kd) fun z => owW ε2[i]? fun l ds => Gt (ixN ds.length z) fun j => P (.nx (ε2.set i (some (.ow l (ds.set j d)))))) (fun x ε1 => P (.ex x ε1))) (fun x ε1 => P (.ex x ε1)) := by
  unfold sPut
  rw [Rn_sE]
  have k2 : ∀ (d : D) (ε1 : VL.Env), Gt (match rdS i ε1 with | some _ => sE fk (putK i d) ε1 | none => none) P = Gt (rdS i ε1) fun _ => W fk ε1 (fun kd ε2 => Gt (asI kd) fun z => owW ε2[i]? fun l ds => Gt (ixN ds.length z) fun j => P (.nx (ε2.set i (some (.ow l (ds.set j d)))))) (fun x ε1 => P (.ex x ε1)) := fun d ε1 => by
    cases e : rdS i ε1 with
    | none => simp [Gt]
    | some d0 =>
      rw [Gt_some]
      show Rn (sE fk _) ε1 P = _
      rw [Rn_sE]
      simp only [Gt_putK]
  exact congrArg (fun k => W f ε k (fun x ε1 => P (.ex x ε1))) (funext fun d => funext fun ε1 => k2 d ε1)
theorem Rn_raise {x : Str} {fds : List (Str × Nat)} : Rn (sRaise x fds fs) ε P = W fs ε (fun ds ε1 => ds.length = fds.length ∧ Gt (getF ds fds []) fun gs => P (.ex ⟨x, gs⟩ ε1)) (fun x ε1 => P (.ex x ε1)) := by
  unfold sRaise
  rw [Rn_sE]
  have : ∀ (c : Prop) [Decidable c] (o : Option R) (Q : R → Prop), Gt (if c then o else none) Q = (c ∧ Gt o Q) := fun c _ o Q => by
    by_cases h : c
    · rw [if_pos h]; simp [h]
    · rw [if_neg h]; simp [h, Gt]
  simp only [this, Gt_map]
/-- where a try's body ends -/
def tryR (i j : Nat) (tab : Str → Option Bool) (P : R → Prop) : R → Prop
  | .ex x ε => Gt (tab x.n) fun b => if b = true then P (.nx (((ε.set i none).set j (some (.fr (.exn x.n x.fs)))).set i none)) else P (.ex x ε)
  | r => P r
theorem tryR_nx {tab : Str → Option Bool} : tryR i j tab P (.nx ε) = P (.nx ε) := rfl
theorem tryR_rt {tab : Str → Option Bool} {d : D} : tryR i j tab P (.rt d ε) = P (.rt d ε) := rfl
theorem tryR_ex {tab : Str → Option Bool} {x : Exn} : tryR i j tab P (.ex x ε) = Gt (tab x.n) fun b => if b = true then P (.nx (((ε.set i none).set j (some (.fr (.exn x.n x.fs)))).set i none)) else P (.ex x ε) := rfl
theorem Rn_try {tab : Str → Option Bool} : Rn (sTry i j tab g) ε P = Rn g ε (tryR i j tab P) := by
  refine propext ⟨fun ⟨r, e, p⟩ => ?_, fun ⟨r, e, p⟩ => ?_⟩
  · unfold sTry at e
    split at e
    · rename_i x ε' h
      split at e
      · rename_i t; cases e; exact ⟨_, h, true, t, by dsimp only; rw [if_pos rfl]; exact p⟩
      · rename_i t; cases e; exact ⟨_, h, false, t, by dsimp only; rw [if_neg Bool.false_ne_true]; exact p⟩
      · cases e
    · rename_i q
      refine ⟨r, e, ?_⟩
      cases r with
      | ex x ε' => exact (q _ _ e).elim
      | _ => exact p
  · cases r with
    | ex x ε' =>
      obtain ⟨b, t, p⟩ := p
      cases b with
      | true => rw [if_pos rfl] at p; exact ⟨_, by unfold sTry; rw [e]; dsimp only; rw [t], p⟩
      | false => rw [if_neg Bool.false_ne_true] at p; exact ⟨_, by unfold sTry; rw [e]; dsimp only; rw [t], p⟩
    | nx ε' => exact ⟨.nx ε', by unfold sTry; rw [e], p⟩
    | rt d ε' => exact ⟨.rt d ε', by unfold sTry; rw [e], p⟩
    | bk ε' => exact ⟨.bk ε', by unfold sTry; rw [e], p⟩
    | ct ε' => exact ⟨.ct ε', by unfold sTry; rw [e], p⟩
/-! loops -/
/-- behind a turn: go on with the rest, or leave -/
def loopR (rest : SF) (P : R → Prop) : R → Prop
  | .nx ε => Rn rest ε P
  | .ct ε => Rn rest ε P
  | .bk ε => P (.nx ε)
  | r => P r
theorem loopR_nx : loopR g P (.nx ε) = Rn g ε P := rfl
theorem loopR_ct : loopR g P (.ct ε) = Rn g ε P := rfl
theorem loopR_bk : loopR g P (.bk ε) = P (.nx ε) := rfl
theorem loopR_rt {d : D} : loopR g P (.rt d ε) = P (.rt d ε) := rfl
theorem loopR_ex {x : Exn} : loopR g P (.ex x ε) = P (.ex x ε) := rfl
theorem Rn_for {tg : D → VL.Env → Option VL.Env} : Rn (sFor fs tg g) ε P = W fs ε (fun ds ε1 => Rn (forD tg g ds) ε1 P) (fun x ε1 => P (.ex x ε1)) := by
  unfold sFor; rw [Rn_sE]; rfl
theorem Rn_forNil {tg : D → VL.Env → Option VL.Env} : Rn (forD tg g []) ε P = P (.nx ε) := propext ⟨fun ⟨_, e, p⟩ => by cases e; exact p, fun p => ⟨_, rfl, p⟩⟩
theorem Rn_forCons {tg : D → VL.Env → Option VL.Env} {d : D} {ds : List D} : Rn (forD tg g (d :: ds)) ε P = Gt (tg d ε) fun ε1 => Rn g ε1 (loopR (forD tg g ds) P) := by
  refine propext ⟨fun ⟨r, e, p⟩ => ?_, fun ⟨ε1, e1, r, e, p⟩ => ?_⟩
  · unfold forD at e
    split at e
    · cases e
    · rename_i ε1 e1
      refine ⟨ε1, e1, ?_⟩
      split at e
      · rename_i ε2 e2; exact ⟨_, e2, r, e, p⟩
      · rename_i ε2 e2; exact ⟨_, e2, r, e, p⟩
      · rename_i ε2 e2; cases e; exact ⟨_, e2, p⟩
      · rename_i q1 q2 q3
        refine ⟨r, e, ?_⟩
        cases r with
        | nx ε2 => exact (q1 _ e).elim
        | ct ε2 => exact (q2 _ e).elim
        | bk ε2 => exact (q3 _ e).elim
        | rt d ε2 => exact p
        | ex d ε2 => exact p
  · cases r with
    | nx ε2 => obtain ⟨r, e2, p⟩ := p; exact ⟨r, by simp only [forD, e1, e]; exact e2, p⟩
    | ct ε2 => obtain ⟨r, e2, p⟩ := p; exact ⟨r, by simp only [forD, e1, e]; exact e2, p⟩
    | bk ε2 => exact ⟨.nx ε2, by simp only [forD, e1, e], p⟩
    | rt d ε2 => exact ⟨.rt d ε2, by simp only [forD, e1, e], p⟩
    | ex d ε2 => exact ⟨.ex d ε2, by simp only [forD, e1, e], p⟩
/-- behind a turn of a loop: I holds of what is left -/
def againR (I : VL.Env → Prop) (P : R → Prop) : R → Prop
  | .nx ε => I ε
  | .ct ε => I ε
  | .bk ε => P (.nx ε)
  | r => P r
theorem againR_nx {I : VL.Env → Prop} : againR I P (.nx ε) = I ε := rfl
theorem againR_ct {I : VL.Env → Prop} : againR I P (.ct ε) = I ε := rfl
theorem againR_bk {I : VL.Env → Prop} : againR I P (.bk ε) = P (.nx ε) := rfl
theorem againR_rt {I : VL.Env → Prop} {d : D} : againR I P (.rt d ε) = P (.rt d ε) := rfl
theorem againR_ex {I : VL.Env → Prop} {x : Exn} : againR I P (.ex x ε) = P (.ex x ε) := rfl
/-- a for by an invariant of the items left -/
theorem for_inv {tg : D → VL.Env → Option VL.Env} (I : List D → VL.Env → Prop) {ds : List D} (h0 : I ds ε) (fin : ∀ ε, I [] ε → P (.nx ε)) (turn : ∀ d ds ε, I (d :: ds) ε → Gt (tg d ε) fun ε1 => Rn g ε1 (againR (I ds) P)) : Rn (forD tg g ds) ε P := by
  induction ds generalizing ε with
  | nil => rw [Rn_forNil]; exact fin _ h0
  | cons d ds ih =>
    rw [Rn_forCons]
    refine (turn d ds ε h0).mono fun ε1 h => h.mono fun r p => ?_
    cases r with
    | nx ε2 => exact ih p
    | ct ε2 => exact ih p
    | bk ε2 => exact p
    | rt d ε2 => exact p
    | ex d ε2 => exact p
/-- a while by an invariant and a measure: n bounds the measure -/
theorem while_inv (I : Nat → VL.Env → Prop) {n : Nat} (h0 : I n ε)
    (turn : ∀ n ε, I n ε → W c ε (fun b ε1 => if b = true then Rn g ε1 (againR (fun ε2 => ∃ m, m < n ∧ I m ε2) P) else P (.nx ε1)) (fun x ε1 => P (.ex x ε1))) : Rn (sWhile c g) ε P := by
  have key : ∀ n, ∀ m, m ≤ n → ∀ ε, I m ε → ∃ r, whileD c g (n + 1) ε = some r ∧ P r := fun n => by
    induction n with
    | zero =>
      intro m hm ε hi
      obtain ⟨o, ec, q⟩ := turn m ε hi
      cases o with
      | ex x ε1 => exact ⟨_, by simp only [whileD, ec], q⟩
      | ok b ε1 =>
        cases b with
        | false => dsimp only at q; rw [if_neg Bool.false_ne_true] at q; exact ⟨_, by simp only [whileD, ec], q⟩
        | true =>
          dsimp only at q; rw [if_pos rfl] at q
          obtain ⟨r, er, q⟩ := q
          cases r with
          | nx ε2 => obtain ⟨k, hk, _⟩ := q; omega
          | ct ε2 => obtain ⟨k, hk, _⟩ := q; omega
          | bk ε2 => exact ⟨_, by simp only [whileD, ec, er], q⟩
          | rt d ε2 => exact ⟨_, by simp only [whileD, ec, er], q⟩
          | ex d ε2 => exact ⟨_, by simp only [whileD, ec, er], q⟩
    | succ n ih =>
      intro m hm ε hi
      obtain ⟨o, ec, q⟩ := turn m ε hi
      cases o with
      | ex x ε1 => exact ⟨_, by simp only [whileD, ec], q⟩
      | ok b ε1 =>
        cases b with
        | false => dsimp only at q; rw [if_neg Bool.false_ne_true] at q; exact ⟨_, by simp only [whileD, ec], q⟩
        | true =>
          dsimp only at q; rw [if_pos rfl] at q
          obtain ⟨r, er, q⟩ := q
          cases r with
          | nx ε2 =>
            obtain ⟨k, hk, hi2⟩ := q
            obtain ⟨r, e2, p⟩ := ih k (by omega) ε2 hi2
            exact ⟨r, by rw [whileD]; simp only [ec, er]; exact e2, p⟩
          | ct ε2 =>
            obtain ⟨k, hk, hi2⟩ := q
            obtain ⟨r, e2, p⟩ := ih k (by omega) ε2 hi2
            exact ⟨r, by rw [whileD]; simp only [ec, er]; exact e2, p⟩
          | bk ε2 => exact ⟨_, by simp only [whileD, ec, er], q⟩
          | rt d ε2 => exact ⟨_, by simp only [whileD, ec, er], q⟩
          | ex d ε2 => exact ⟨_, by simp only [whileD, ec, er], q⟩
  obtain ⟨r, e, p⟩ := key n n (Nat.le_refl _) ε h0
  exact ⟨r, sWhile_of e, p⟩
end stmts
/-! ### ends of defs -/
def endV (Q : D → Prop) : R → Prop
  | .rt d _ => Q d
  | .nx _ => Q .non
  | _ => False
def endM (Q : D → List D → Prop) : R → Prop
  | .rt d ε => Gt (lentOf ε) (Q d)
  | .nx ε => Gt (lentOf ε) (Q .non)
  | _ => False
def endX (P : D → Prop) (X : Exn → Prop) : R → Prop
  | .rt d _ => P d
  | .nx _ => P .non
  | .ex x _ => X x
  | _ => False
section ends
variable {ε : VL.Env} {g : SF} {N n : Nat} {ds cs : List D}
theorem endV_rt {Q : D → Prop} {d : D} : endV Q (.rt d ε) = Q d := rfl
theorem endV_nx {Q : D → Prop} : endV Q (.nx ε) = Q .non := rfl
theorem endM_rt {Q : D → List D → Prop} {d : D} : endM Q (.rt d ε) = Gt (lentOf ε) (Q d) := rfl
theorem endM_nx {Q : D → List D → Prop} : endM Q (.nx ε) = Gt (lentOf ε) (Q .non) := rfl
theorem endX_rt {P : D → Prop} {X : Exn → Prop} {d : D} : endX P X (.rt d ε) = P d := rfl
theorem endX_nx {P : D → Prop} {X : Exn → Prop} : endX P X (.nx ε) = P .non := rfl
theorem endX_ex {P : D → Prop} {X : Exn → Prop} {x : Exn} : endX P X (.ex x ε) = X x := rfl
theorem lentOf_at : lentOf (some (.ow true cs) :: ε) = some cs := rfl
theorem Gt_fnV {Q : D → Prop} : Gt (fnV N n g ds) Q = (ds.length = n ∧ Rn g (envV N n ds) (endV Q)) := by
  unfold fnV
  refine propext ⟨fun ⟨d, e, q⟩ => ?_, fun ⟨h, r, e, q⟩ => ?_⟩
  · split at e
    · rename_i h
      refine ⟨h, ?_⟩
      split at e
      · rename_i d' ε' e1; cases e; exact ⟨_, e1, q⟩
      · rename_i ε' e1; cases e; exact ⟨_, e1, q⟩
      · cases e
    · cases e
  · rw [if_pos h, e]
    cases r with
    | rt d ε => exact ⟨d, rfl, q⟩
    | nx ε => exact ⟨.non, rfl, q⟩
    | bk ε => exact q.elim
    | ct ε => exact q.elim
    | ex x ε => exact q.elim
theorem Gt_fnM {Q : D × List D → Prop} : Gt (fnM N n g cs ds) Q = (ds.length = n ∧ Rn g (envM N n cs ds) (endM (fun d c => Q (d, c)))) := by
  unfold fnM
  refine propext ⟨fun ⟨d, e, q⟩ => ?_, fun ⟨h, r, e, q⟩ => ?_⟩
  · split at e
    · rename_i h
      refine ⟨h, ?_⟩
      split at e
      · rename_i d' ε' e1; obtain ⟨c, ec, rfl⟩ := Option.map_eq_some_iff.mp e; exact ⟨_, e1, c, ec, q⟩
      · rename_i ε' e1; obtain ⟨c, ec, rfl⟩ := Option.map_eq_some_iff.mp e; exact ⟨_, e1, c, ec, q⟩
      · cases e
    · cases e
  · rw [if_pos h, e]
    cases r with
    | rt d ε => obtain ⟨c, ec, q⟩ := q; exact ⟨(d, c), by simp [ec], q⟩
    | nx ε => obtain ⟨c, ec, q⟩ := q; exact ⟨(.non, c), by simp [ec], q⟩
    | bk ε => exact q.elim
    | ct ε => exact q.elim
    | ex x ε => exact q.elim
theorem GX_fnX {P : D → Prop} {X : Exn → Prop} : GX (fnX N n g ds) P X = (ds.length = n ∧ Rn g (envV N n ds) (endX P X)) := by
  unfold fnX
  refine propext ⟨fun ⟨d, e, q⟩ => ?_, fun ⟨h, r, e, q⟩ => ?_⟩
  · split at e
    · rename_i h
      refine ⟨h, ?_⟩
      split at e
      · rename_i d' ε' e1; cases e; exact ⟨_, e1, q⟩
      · rename_i ε' e1; cases e; exact ⟨_, e1, q⟩
      · rename_i x ε' e1; cases e; exact ⟨_, e1, q⟩
      · cases e
    · cases e
  · rw [if_pos h, e]
    cases r with
    | rt d ε => exact ⟨_, rfl, q⟩
    | nx ε => exact ⟨_, rfl, q⟩
    | ex x ε => exact ⟨_, rfl, q⟩
    | bk ε => exact q.elim
    | ct ε => exact q.elim
theorem Gt_fnN {f : VL.Env → Option (Out (List D))} {Q : List D → Prop} : Gt (fnN N n f ds) Q = (ds.length = n ∧ W f (envV N n ds) (fun d _ => Q d) (fun _ _ => False)) := by
  unfold fnN
  refine propext ⟨fun ⟨d, e, q⟩ => ?_, fun ⟨h, r, e, q⟩ => ?_⟩
  · split at e
    · rename_i h
      refine ⟨h, ?_⟩
      split at e
      · rename_i d' ε' e1; cases e; exact ⟨_, e1, q⟩
      · cases e
    · cases e
  · rw [if_pos h, e]
    cases r with
    | ok d ε => exact ⟨_, rfl, q⟩
    | ex x ε => exact q.elim
end ends
/-! ### environments -/
section envs
variable {ε : VL.Env} {s t : Option Slot} {d : D} {ds : List D} {l : Bool} {i : Nat}
theorem rdS_fr : rdS 0 (some (.fr d) :: ε) = some d := rfl
theorem rdS_ow : rdS 0 (some (.ow l ds) :: ε) = some (.lst ds) := rfl
theorem rdS_succ : rdS (i + 1) (s :: ε) = rdS i ε := rfl
theorem isFr_fr : isFr (some (.fr d) :: ε) 0 = true := rfl
theorem isFr_ow : isFr (some (.ow l ds) :: ε) 0 = false := rfl
theorem isFr_succ : isFr (s :: ε) (i + 1) = isFr ε i := rfl
theorem plainAt_fr : plainAt (some (.fr d) :: ε) 0 = true := rfl
theorem plainAt_none : plainAt (none :: ε) 0 = true := rfl
theorem plainAt_succ : plainAt (s :: ε) (i + 1) = plainAt ε i := rfl
theorem lendE_nil : lendE [] = [] := rfl
theorem lendE_fr : lendE (some (.fr d) :: ε) = some (.fr d) :: lendE ε := rfl
theorem lendE_none : lendE (none :: ε) = none :: lendE ε := rfl
theorem lendE_ow : lendE (some (.ow l ds) :: ε) = some (.ow true ds) :: lendE ε := rfl
theorem frE_nil : frE [] = [] := rfl
theorem frE_fr : frE (some (.fr d) :: ε) = some (.fr d) :: frE ε := rfl
theorem frE_none : frE (none :: ε) = none :: frE ε := rfl
theorem frE_ow : frE (some (.ow l ds) :: ε) = none :: frE ε := rfl
theorem unlE_nil : unlE [] [] = [] := rfl
theorem unlE_cons {ε2 : VL.Env} : unlE (s :: ε) (t :: ε2) = unl s t :: unlE ε ε2 := rfl
theorem unl_fr : unl s (some (.fr d)) = some (.fr d) := by
  cases s with
  | none => rfl
  | some s => cases s <;> rfl
theorem unl_ow {m : Bool} {es : List D} : unl (some (.ow l ds)) (some (.ow m es)) = some (.ow l es) := rfl
theorem unl_none : unl s none = none := by
  cases s with
  | none => rfl
  | some s => cases s <;> rfl
theorem hideE_nil : hideE ε [] = ε := rfl
theorem hideE_cons {is : List Nat} : hideE ε (i :: is) = (hideE ε is).set i none := rfl
theorem shownE_nil {ε2 : VL.Env} : shownE ε ε2 [] = ε2 := rfl
theorem shownE_cons {ε2 : VL.Env} {is : List Nat} : shownE ε ε2 (i :: is) = (shownE ε ε2 is).set i (ε.getD i none) := rfl
theorem gSetD_at : gSetD i d ε = some (ε.set i (some (.fr d))) := rfl
theorem gNilD_at : gNilD [] ε = some ε := rfl
theorem Gt_gCons {g : D → VL.Env → Option VL.Env} {h : List D → VL.Env → Option VL.Env} {P : VL.Env → Prop} : Gt (gConsD g h (d :: ds) ε) P = Gt (g d ε) fun ε1 => Gt (h ds ε1) P := by
  unfold gConsD
  refine propext ⟨fun ⟨r, e, p⟩ => ?_, fun ⟨ε1, e1, r, e, p⟩ => ⟨r, by dsimp only; rw [e1]; exact e, p⟩⟩
  dsimp only at e
  cases h1 : g d ε with
  | none => rw [h1] at e; cases e
  | some ε1 => rw [h1] at e; exact ⟨ε1, rfl, r, e, p⟩
end envs
/-! ### operators on ints -/
section ops
variable {P : D → Prop} {i j : Int}
theorem oAdd_int : oAdd (.int i) (.int j) = some (.int (i + j)) := rfl
theorem oSub_int : oSub (.int i) (.int j) = some (.int (i - j)) := rfl
theorem oNeg_int : oNeg (.int i) = some (.int (-i)) := rfl
theorem Gt_mul : Gt (oMul (.int i) (.int j)) P = (mulOk i j = true ∧ P (.int (i * j))) := by show Gt (if _ then _ else _) P = _; rw [Gt_ite]
theorem Gt_div : Gt (oDiv (.int i) (.int j)) P = ((0 < j ∧ j.natAbs.log2 < 9000) ∧ P (.int (i / j))) := by show Gt (if _ then _ else _) P = _; rw [Gt_ite]
theorem Gt_mod : Gt (oMod (.int i) (.int j)) P = (0 < j ∧ P (.int (i % j))) := by show Gt (if _ then _ else _) P = _; rw [Gt_ite]
theorem Gt_pow : Gt (oPow (.int i) (.int j)) P = ((0 ≤ j ∧ j ≤ 1000000 ∧ i.natAbs < 2 ^ 64) ∧ P (.int (i ^ j.toNat))) := by show Gt (if _ then _ else _) P = _; rw [Gt_ite]
theorem Gt_shl : Gt (oShl (.int i) (.int j)) P = ((0 ≤ j ∧ (Builtin.Int.intBits i : Int) + j ≤ 2 ^ 27) ∧ P (.int (i * 2 ^ j.toNat))) := by show Gt (if _ then _ else _) P = _; rw [Gt_ite]
theorem oCmp_int {p : Int → Int → Bool} : oCmp p (.int i) (.int j) = some (.bl (p i j)) := rfl
theorem asB_bl {b : Bool} : asB (.bl b) = some b := rfl
theorem asI_int : asI (.int i) = some i := rfl
theorem tru_bl {b : Bool} : tru (.bl b) = some b := rfl
theorem tru_int : tru (.int i) = some (i != 0) := rfl
theorem tru_non : tru .non = some false := rfl
theorem bAbs_int : bAbs [.int i] = some (.int (if i < 0 then -i else i)) := rfl
theorem bInt_int : bInt [.int i] = some (.int i) := rfl
theorem bInt_bl {b : Bool} : bInt [.bl b] = some (.int (if b then 1 else 0)) := rfl
theorem bGcd_int : bGcd [.int i, .int j] = some (.int ((Nat.gcd i.natAbs j.natAbs : Nat) : Int)) := rfl
theorem bLen_lst {xs : List D} : bLen [.lst xs] = some (.int xs.length) := rfl
theorem bLen_frl {xs : List D} : bLen [.frl xs] = some (.int xs.length) := rfl
theorem bLen_tup {xs : List D} : bLen [.tup xs] = some (.int xs.length) := rfl
theorem oIsN_non : oIsN .non .non = some (.bl true) := rfl
theorem oIsN_int : oIsN (.int i) .non = some (.bl false) := rfl
theorem oIsN_tup {xs : List D} : oIsN (.tup xs) .non = some (.bl false) := rfl
theorem oIsN_lst {xs : List D} : oIsN (.lst xs) .non = some (.bl false) := rfl
theorem oNotN_non : oNotN .non .non = some (.bl false) := rfl
theorem oNotN_int : oNotN (.int i) .non = some (.bl true) := rfl
theorem oNotN_tup {xs : List D} : oNotN (.tup xs) .non = some (.bl true) := rfl
theorem oIx_lst {xs : List D} : oIx (.lst xs) (.int i) = atI xs i := rfl
theorem oIx_frl {xs : List D} : oIx (.frl xs) (.int i) = atI xs i := rfl
theorem oIx_tup {xs : List D} : oIx (.tup xs) (.int i) = atI xs i := rfl
theorem bTuple_lst {xs : List D} : bTuple (.lst xs) = some (.tup xs) := rfl
theorem bTuple_frl {xs : List D} : bTuple (.frl xs) = some (.tup xs) := rfl
theorem bTuple_tup {xs : List D} : bTuple (.tup xs) = some (.tup xs) := rfl
theorem intsD_map {ns : List Int} : intsD (ns.map D.int) = some ns := by
  induction ns with
  | nil => rfl
  | cons n ns ih => show (intsD (ns.map D.int)).map (n :: ·) = _; rw [ih]; rfl
theorem blsD_map {ns : List Bool} : blsD (ns.map D.bl) = some ns := by
  induction ns with
  | nil => rfl
  | cons n ns ih => show (blsD (ns.map D.bl)).map (n :: ·) = _; rw [ih]; rfl
theorem bSum_ints {ns : List Int} : bSum [.lst (ns.map D.int)] = some (.int ns.sum) := by
  show ((some _).bind intsD).map _ = _
  rw [Option.bind_some, intsD_map]; rfl
theorem bAll_bls {ns : List Bool} : bAll [.lst (ns.map D.bl)] = some (.bl (ns.all id)) := by
  show ((some _).bind blsD).map _ = _
  rw [Option.bind_some, blsD_map]; rfl
theorem parD_at {d c : D} : parD [d, c] = (rowD d).bind fun xs => (rowD c).map fun ys => parI xs ys := rfl
theorem Gt_rng3 {i j k : Int} {PL : List D → Prop} : Gt (rng3 [.int i, .int j, .int k]) PL = ((k = -1 ∧ -(2 ^ 62) ≤ i ∧ i < 2 ^ 62 ∧ -(2 ^ 62) ≤ j ∧ j < 2 ^ 62) ∧ PL (downD i j)) := by show Gt (if _ then _ else _) PL = _; rw [Gt_ite]
theorem numD_at {d : D} : numD [d] = (rowD d).map (numI 0) := rfl
theorem rowD_lst {xs : List D} : rowD (.lst xs) = some xs := rfl
theorem rowD_frl {xs : List D} : rowD (.frl xs) = some xs := rfl
theorem rowD_tup {xs : List D} : rowD (.tup xs) = some xs := rfl
theorem Gt_stepT {xs : List D} {k : Int} : Gt (stepD (.tup xs) (.int k)) P = ((k ≠ 0 ∧ k ≠ 1) ∧ P (.tup (pickL xs k))) := by show Gt (if _ then _ else _) P = _; rw [Gt_ite]
theorem Gt_stepL {xs : List D} {k : Int} : Gt (stepD (.lst xs) (.int k)) P = ((k ≠ 0 ∧ k ≠ 1) ∧ P (.lst (pickL xs k))) := by show Gt (if _ then _ else _) P = _; rw [Gt_ite]
theorem Gt_stepF {xs : List D} {k : Int} : Gt (stepD (.frl xs) (.int k)) P = ((k ≠ 0 ∧ k ≠ 1) ∧ P (.lst (pickL xs k))) := by show Gt (if _ then _ else _) P = _; rw [Gt_ite]
theorem itemsD_lst {xs : List D} : itemsD (.lst xs) = some xs := rfl
theorem itemsD_frl {xs : List D} : itemsD (.frl xs) = some xs := rfl
theorem itemsD_tup {xs : List D} : itemsD (.tup xs) = some xs := rfl
theorem asItems_lst {xs : List D} : asItems (.lst xs) = some xs := rfl
theorem asItems_frl {xs : List D} : asItems (.frl xs) = some xs := rfl
theorem asItems_tup {xs : List D} : asItems (.tup xs) = some xs := rfl
theorem Gt_rng1 {PL : List D → Prop} : Gt (rng1 [.int j]) PL = ((-(2 ^ 62) ≤ j ∧ j < 2 ^ 62) ∧ PL (rngD 0 j)) := by show Gt (if _ then _ else _) PL = _; rw [Gt_ite]
theorem Gt_rng2 {PL : List D → Prop} : Gt (rng2 [.int i, .int j]) PL = ((-(2 ^ 62) ≤ i ∧ i < 2 ^ 62 ∧ -(2 ^ 62) ≤ j ∧ j < 2 ^ 62) ∧ PL (rngD i j)) := by show Gt (if _ then _ else _) PL = _; rw [Gt_ite]
theorem oCutA_lst {xs : List D} {lo hi : Option Int} : oCutA (.lst xs) lo hi = some (.lst (cutD xs lo hi)) := rfl
theorem oCutA_frl {xs : List D} {lo hi : Option Int} : oCutA (.frl xs) lo hi = some (.lst (cutD xs lo hi)) := rfl
theorem oCutA_tup {xs : List D} {lo hi : Option Int} : oCutA (.tup xs) lo hi = some (.tup (cutD xs lo hi)) := rfl
theorem lstD_lst {xs : List D} : lstD (.lst xs) = some xs := rfl
theorem lstD_frl {xs : List D} : lstD (.frl xs) = some xs := rfl
end ops
/-! ### comprehensions -/
def Cp (own : List Nat) (gt : D → VL.Env → Option VL.Env) (ft : VL.Env → Option (Out Bool)) (fe : VL.Env → Option (Out D)) (ds acc : List D) (ε : VL.Env) (Q : List D → VL.Env → Prop) : Prop := ∃ r, compD own gt ft fe ds acc ε = some r ∧ Q r.1 r.2
section comps
variable {own : List Nat} {gt : D → VL.Env → Option VL.Env} {ft : VL.Env → Option (Out Bool)} {fe : VL.Env → Option (Out D)} {d : D} {ds acc : List D} {ε : VL.Env} {Q : List D → VL.Env → Prop} {fi : VL.Env → Option (Out (List D))} {X : Exn → VL.Env → Prop}
theorem Cp_nil : Cp own gt ft fe [] acc ε Q = Q acc ε := propext ⟨fun ⟨r, e, q⟩ => by cases e; exact q, fun q => ⟨_, rfl, q⟩⟩
theorem Cp_cons : Cp own gt ft fe (d :: ds) acc ε Q = Gt (gt d (lendE ε)) fun ε1 => W ft ε1 (fun b ε2 => if b = true then W fe ε2 (fun x ε3 => acc.length < sizeLine ∧ Cp own gt ft fe ds (acc ++ [x]) (unlE ε (hideE ε3 own)) Q) (fun _ _ => False) else Cp own gt ft fe ds acc (unlE ε (hideE ε2 own)) Q) (fun _ _ => False) := by
  refine propext ⟨fun ⟨r, e, q⟩ => ?_, fun ⟨ε1, e1, o, e2, p⟩ => ?_⟩
  · unfold compD at e
    split at e
    · cases e
    · rename_i ε1 e1
      refine ⟨ε1, e1, ?_⟩
      split at e
      · rename_i ε2 e2
        refine ⟨_, e2, ?_⟩
        dsimp only
        rw [if_pos rfl]
        split at e
        · rename_i x ε3 e3
          split at e
          · rename_i hl
            exact ⟨_, e3, hl, r, e, q⟩
          · cases e
        · cases e
      · rename_i ε2 e2
        refine ⟨_, e2, ?_⟩
        dsimp only
        rw [if_neg Bool.false_ne_true]
        exact ⟨r, e, q⟩
      · cases e
  · cases o with
    | ex x ε2 => exact p.elim
    | ok b ε2 =>
      cases b with
      | true =>
        dsimp only at p
        rw [if_pos rfl] at p
        obtain ⟨o, e3, p⟩ := p
        cases o with
        | ex x ε3 => exact p.elim
        | ok x ε3 =>
          obtain ⟨hl, r, e, q⟩ := p
          exact ⟨r, by simp only [compD, e1, e2, e3]; rw [if_pos hl]; exact e, q⟩
      | false =>
        dsimp only at p
        rw [if_neg Bool.false_ne_true] at p
        obtain ⟨r, e, q⟩ := p
        exact ⟨r, by simp only [compD, e1, e2]; exact e, q⟩
theorem W_nComp {P : List D → VL.Env → Prop} : W (nComp own fi gt ft fe) ε P X = W fi ε (fun ds ε1 => own.all (plainAt ε1) = true ∧ Cp own gt ft fe ds [] (hideE ε1 own) (fun xs ε2 => P xs (shownE ε1 ε2 own))) X := by
  unfold nComp
  rw [W_bnd]
  refine propext ⟨fun h => h.mono (fun ds ε1 ⟨o, e, p⟩ => ?_) fun _ _ h => h, fun h => h.mono (fun ds ε1 ⟨c, r, e, p⟩ => ?_) fun _ _ h => h⟩
  · dsimp only at e
    split at e
    · rename_i c
      obtain ⟨r, er, rfl⟩ := Option.map_eq_some_iff.mp e
      exact ⟨c, r, er, p⟩
    · cases e
  · exact ⟨.ok r.1 (shownE ε1 r.2 own), by dsimp only; rw [if_pos c, e]; rfl, p⟩
theorem comp_inv (I : List D → List D → VL.Env → Prop) (h0 : I ds acc ε) (fin : ∀ acc ε, I [] acc ε → Q acc ε)
    (turn : ∀ d ds acc ε, I (d :: ds) acc ε → Gt (gt d (lendE ε)) fun ε1 => W ft ε1 (fun b ε2 => if b = true then W fe ε2 (fun x ε3 => acc.length < sizeLine ∧ I ds (acc ++ [x]) (unlE ε (hideE ε3 own))) (fun _ _ => False) else I ds acc (unlE ε (hideE ε2 own))) (fun _ _ => False)) : Cp own gt ft fe ds acc ε Q := by
  induction ds generalizing acc ε with
  | nil => rw [Cp_nil]; exact fin _ _ h0
  | cons d ds ih =>
    rw [Cp_cons]
    refine (turn d ds acc ε h0).mono fun ε1 h => h.mono (fun b ε2 h => ?_) fun _ _ h => h
    cases b with
    | true =>
      rw [if_pos rfl] at h ⊢
      exact h.mono (fun x ε3 h => ⟨h.1, ih h.2⟩) fun _ _ h => h
    | false =>
      rw [if_neg Bool.false_ne_true] at h ⊢
      exact ih h
theorem comp_map {α : Type} (c g : α → D) (p : List α) (hl : p.length ≤ sizeLine) (step : ∀ a, a ∈ p → Gt (gt (c a) (lendE ε)) fun ε1 => W ft ε1 (fun b ε2 => if b = true then W fe ε2 (fun x ε3 => x = g a ∧ unlE ε (hideE ε3 own) = ε) (fun _ _ => False) else False) (fun _ _ => False)) (q : Q (p.map g) ε) : Cp own gt ft fe (p.map c) [] ε Q := by
  refine comp_inv (fun ds acc ε' => ∃ p1 p2, p = p1 ++ p2 ∧ ds = p2.map c ∧ acc = p1.map g ∧ ε' = ε) ⟨[], p, rfl, rfl, rfl, rfl⟩ ?_ ?_
  · rintro acc ε' ⟨p1, p2, h1, h2, rfl, rfl⟩
    cases p2 with
    | cons _ _ => cases h2
    | nil => rw [List.append_nil] at h1; subst h1; exact q
  · rintro d ds acc ε' ⟨p1, p2, h1, h2, rfl, rfl⟩
    cases p2 with
    | nil => cases h2
    | cons a p2 =>
      cases h2
      refine (step a (by rw [h1]; simp)).mono fun ε1 h => h.mono (fun b ε2 h => ?_) fun _ _ h => h
      cases b with
      | false => rw [if_neg Bool.false_ne_true] at h; exact h.elim
      | true =>
        rw [if_pos rfl] at h ⊢
        refine h.mono (fun x ε3 h => ⟨?_, p1 ++ [a], p2, by rw [h1, List.append_assoc]; rfl, rfl, by rw [h.1, List.map_append]; rfl, h.2⟩) fun _ _ h => h
        rw [List.length_map]
        have := congrArg List.length h1
        rw [List.length_append, List.length_cons] at this
        exact Nat.lt_of_lt_of_le (by omega) hl
end comps
end VL.U
end

section
set_option Elab.async false
set_option linter.all false
set_option maxRecDepth 100000
set_option maxHeartbeats 4000000
/-! VS: the rules of VS0 with frozen continuations (simp does not enter them). Printed by mkvs.py. -/
namespace VL
open PySem L2
variable [LamN]
/-- ties a continuation to a term's type: simp lets it be -/
inductive Tg {α β γ : Type} (a : α) (b : β) (c : γ) : Type where
  | mk
def W {α : Type} (f : VL.Env → Option (Out α)) (ε : VL.Env) (P : α → VL.Env → Prop) (X : Exn → VL.Env → Prop) (_t : Tg f P X := .mk) : Prop := U.W f ε P X
def Rn (g : SF) (ε : VL.Env) (P : R → Prop) (_t : Tg g P () := .mk) : Prop := U.Rn g ε P
def Gt {α : Type} (o : Option α) (P : α → Prop) (_t : Tg P () () := .mk) : Prop := U.Gt o P
def GX (o : Option Rs) (P : D → Prop) (X : Exn → Prop) (_t : Tg P X () := .mk) : Prop := U.GX o P X
def varW (s : Option (Option Slot)) (P : D → Prop) (Q : List D → Prop) (_t : Tg P Q () := .mk) : Prop := U.varW s P Q
def owW (s : Option (Option Slot)) (P : Bool → List D → Prop) (_t : Tg P () () := .mk) : Prop := U.owW s P
def thR (h : SF) (P : R → Prop) (_t : Tg h P ()) : R → Prop := U.thR h P
def tryR (i j : Nat) (tab : Str → Option Bool) (P : R → Prop) (_t : Tg P () ()) : R → Prop := U.tryR i j tab P
def loopR (rest : SF) (P : R → Prop) (_t : Tg rest P ()) : R → Prop := U.loopR rest P
def againR (I : VL.Env → Prop) (P : R → Prop) (_t : Tg I P ()) : R → Prop := U.againR I P
def endV (Q : D → Prop) (_t : Tg Q () ()) : R → Prop := U.endV Q
def endM (Q : D → List D → Prop) (_t : Tg Q () ()) : R → Prop := U.endM Q
def endX (P : D → Prop) (X : Exn → Prop) (_t : Tg P X ()) : R → Prop := U.endX P X
def itI (d : Option D) (P : Int → Prop) (_t : Tg P () () := .mk) : Prop := U.itI d P
def frI (s : Option (Option Slot)) (P : Int → Prop) (_t : Tg P () () := .mk) : Prop := U.frI s P
def two (ds : List D) (P : D → D → Prop) (_t : Tg P () () := .mk) : Prop := U.two ds P
def three (ds : List D) (P : D → D → D → Prop) (_t : Tg P () () := .mk) : Prop := U.three ds P
def Cp (own : List Nat) (gt : D → VL.Env → Option VL.Env) (ft : VL.Env → Option (Out Bool)) (fe : VL.Env → Option (Out D)) (ds acc : List D) (ε : VL.Env) (Q : List D → VL.Env → Prop) (_t : Tg (own, gt, ft) fe Q := .mk) : Prop := U.Cp own gt ft fe ds acc ε Q
open U (numD parD rng3 frzE parK par3K putK appK popK rng1 rng2 addL mulL)
theorem Gt_v {α : Type} {o : Option α} {P : α → Prop} : Gt o P = Gv o P := U.Gt_v
theorem Gt.mono {α : Type} {o : Option α} {P Q : α → Prop} (h : Gt o P) (i : ∀ d, P d → Q d) : Gt o Q := U.Gt.mono h i
theorem Rn.mono {g : SF} {ε : VL.Env} {P Q : R → Prop} (h : Rn g ε P) (i : ∀ r, P r → Q r) : Rn g ε Q := U.Rn.mono h i
theorem owW_ow {l : Bool} {ds : List D} {P : Bool → List D → Prop} : owW (some (some (.ow l ds))) P = P l ds := U.owW_ow
theorem Gt_some {α : Type} {d : α} {P : α → Prop} : Gt (some d) P = P d := U.Gt_some
theorem Gt_ite {α : Type} {c : Prop} [Decidable c] {d : α} {P : α → Prop} : Gt (if c then Option.some d else none) P = (c ∧ P d) := U.Gt_ite
theorem Gt_map {α β : Type} {o : Option α} {f : α → β} {P : β → Prop} : Gt (o.map f) P = Gt o fun a => P (f a) := U.Gt_map
theorem Gt_bind {α β : Type} {o : Option α} {f : α → Option β} {P : β → Prop} : Gt (o.bind f) P = Gt o fun a => Gt (f a) P := U.Gt_bind
theorem GX_ok {d : D} {P : D → Prop} {X : Exn → Prop} : GX (some (.ok d)) P X = P d := U.GX_ok
theorem GX_error {x : Exn} {P : D → Prop} {X : Exn → Prop} : GX (some (.error x)) P X = X x := U.GX_error
theorem gv_eq {α : Type} {o : Option α} {d : α} (h : Gt o (· = d)) : o = some d := U.gv_eq h
theorem Gt.of {α : Type} {o : Option α} {d : α} {P : α → Prop} (h : o = some d) (p : P d) : Gt o P := U.Gt.of h p
theorem noX_ok {fn : List D → Option Rs} {ds : List D} {d : D} (h : fn ds = some (.ok d)) : noX fn ds = some d := U.noX_ok h
section expr
variable {α β : Type} {ε : VL.Env} {f : VL.Env → Option (Out α)} {P : α → VL.Env → Prop} {X : Exn → VL.Env → Prop}
theorem W_ret {a : α} : W (ret a) ε P X = P a ε := U.W_ret
theorem W_lift {o : Option α} : W (lift o) ε P X = Gt o fun d => P d ε := U.W_lift
theorem W_bnd {g : α → VL.Env → Option (Out β)} {Q : β → VL.Env → Prop} : W (bnd f g) ε Q X = W f ε (fun a ε' => W (g a) ε' Q X) X := U.W_bnd
theorem W_none : W (fun _ => (none : Option (Out α))) ε P X = False := U.W_none
theorem W_dite {k : Prop} [Decidable k] {f g : VL.Env → Option (Out α)} : W (if k then f else g) ε P X = if k then W f ε P X else W g ε P X := U.W_dite
theorem W_guard {k : Prop} [Decidable k] {a : α} : W (if k then ret a else fun _ => none) ε P X = (k ∧ P a ε) := U.W_guard
end expr
section
variable {ε : VL.Env} {fa fb : VL.Env → Option (Out D)} {P : D → VL.Env → Prop} {X : Exn → VL.Env → Prop} {f : D → D → Option D} {i j : Nat} {Pb : Bool → VL.Env → Prop} {PL : List D → VL.Env → Prop} {fs fs2 : VL.Env → Option (Out (List D))} {ft fu : VL.Env → Option (Out Bool)}
theorem varW_fr {d : D} {P : D → Prop} {Q : List D → Prop} : varW (some (some (.fr d))) P Q = P d := U.varW_fr
theorem varW_ow {ds : List D} {P : D → Prop} {Q : List D → Prop} : varW (some (some (.ow false ds))) P Q = Q ds := U.varW_ow
theorem W_var : W (eVar i) ε P X = varW ε[i]? (fun d => P d ε) (fun ds => P (.lst ds) (ε.set i (some (.fr (.lst ds))))) := U.W_var
theorem W_K {d : D} : W (eK d) ε P X = P d ε := U.W_K
theorem W_e2 : W (e2 f fa fb) ε P X = W fa ε (fun a ε1 => W fb ε1 (fun b ε2 => Gt (f a b) fun d => P d ε2) X) X := U.W_e2
theorem W_e1 {f : D → Option D} : W (e1 f fa) ε P X = W fa ε (fun a ε1 => Gt (f a) fun d => P d ε1) X := U.W_e1
theorem W_eB2 : W (eB2 f i fb) ε P X = Gt (rdS i ε) fun _ => W fb ε (fun b ε' => Gt (rdS i ε') fun a => Gt (f a b) fun d => P d ε') X := U.W_eB2
theorem W_aBor : W (aBor i fs) ε PL X = Gt (rdS i ε) fun _ => W fs ε (fun ds ε' => Gt (rdS i ε') fun a => PL (a :: ds) ε') X := U.W_aBor
theorem W_eT : W (eT fa) ε Pb X = W fa ε (fun d ε1 => Gt (asB d) fun b => Pb b ε1) X := U.W_eT
theorem W_tTru : W (tTru fa) ε Pb X = W fa ε (fun d ε1 => Gt (tru d) fun b => Pb b ε1) X := U.W_tTru
theorem W_tAnd : W (tAnd' ft fu) ε Pb X = W ft ε (fun k ε1 => if k = true then W fu ε1 Pb X else Pb false ε1) X := U.W_tAnd
theorem W_tOr : W (tOr' ft fu) ε Pb X = W ft ε (fun k ε1 => if k = true then Pb true ε1 else W fu ε1 Pb X) X := U.W_tOr
theorem W_tNot : W (tNot' ft) ε Pb X = W ft ε (fun k ε1 => Pb (!k) ε1) X := U.W_tNot
theorem W_eIf : W (eIf ft fa fb) ε P X = W ft ε (fun k ε1 => if k = true then W fa ε1 P X else W fb ε1 P X) X := U.W_eIf
theorem W_eNot : W (eNot fa) ε P X = W fa ε (fun d ε1 => Gt (tru d) fun b => P (.bl !b) ε1) X := U.W_eNot
theorem W_eAnd : W (eAnd fa fb) ε P X = W fa ε (fun d ε1 => Gt (tru d) fun b => if b = true then W fb ε1 P X else P d ε1) X := U.W_eAnd
theorem W_eOr : W (eOr fa fb) ε P X = W fa ε (fun d ε1 => Gt (tru d) fun b => if b = true then P d ε1 else W fb ε1 P X) X := U.W_eOr
theorem W_aNil : W aNil ε PL X = PL [] ε := U.W_aNil
theorem W_aCons : W (aCons fa fs) ε PL X = W fa ε (fun d ε1 => W fs ε1 (fun ds ε2 => PL (d :: ds) ε2) X) X := U.W_aCons
theorem W_aStar : W (aStar fa fs) ε PL X = W fa ε (fun d ε1 => Gt (asItems d) fun xs => W fs ε1 (fun ds ε2 => PL (xs ++ ds) ε2) X) X := U.W_aStar
theorem W_eTup : W (eTup fs) ε P X = W fs ε (fun ds ε1 => ds.length ≤ sizeLine ∧ P (.tup ds) ε1) X := U.W_eTup
theorem W_nLst : W (nLst fs) ε PL X = W fs ε (fun ds ε1 => ds.length ≤ sizeLine ∧ PL ds ε1) X := U.W_nLst
theorem W_eN : W (eN fs) ε P X = W fs ε (fun ds ε1 => P (.lst ds) ε1) X := U.W_eN
theorem W_eCB {f : List D → Option D} : W (eCB f fs) ε P X = W fs ε (fun ds ε1 => Gt (f ds) fun d => P d ε1) X := U.W_eCB
theorem W_eCall {fn : List D → Option D} {bs : List Nat} : W (eCall fn bs fs) ε P X = W fs ε (fun ds ε1 => Gt (fn ds) fun d => (bs.all (isFr ε1) || noL d) = true ∧ P d ε1) X := U.W_eCall
theorem W_nCall {fn : List D → Option (List D)} {bs : List Nat} : W (nCall fn bs fs) ε PL X = W fs ε (fun ds ε1 => Gt (fn ds) fun d => bs.all (isFr ε1) = true ∧ PL d ε1) X := U.W_nCall
theorem W_eCallX {fn : List D → Option Rs} {bs : List Nat} : W (eCallX fn bs fs) ε P X = W fs ε (fun ds ε1 => GX (fn ds) (fun d => (bs.all (isFr ε1) || noL d) = true ∧ P d ε1) (fun x => (bs.all (isFr ε1) || noLF x.fs) = true ∧ X x ε1)) X := U.W_eCallX
theorem W_eCallC {fn : List D → Option D} {n m : Nat} {gD : List D → List D → List D} : W (eCallC fn n m gD fs fs2) ε P X = W fs ε (fun ds ε1 => W fs2 ε1 (fun zs ε2 => (ds.length = n ∧ zs.length = m) ∧ Gt (fn (gD ds zs)) fun d => P d ε2) X) X := U.W_eCallC
theorem W_eCallCX {fn : List D → Option Rs} {n m : Nat} {gD : List D → List D → List D} : W (eCallCX fn n m gD fs fs2) ε P X = W fs ε (fun ds ε1 => W fs2 ε1 (fun zs ε2 => (ds.length = n ∧ zs.length = m) ∧ GX (fn (gD ds zs)) (fun d => P d ε2) (fun x => X x ε2)) X) X := U.W_eCallCX
theorem W_eCallM {fn : List D → List D → Option (D × List D)} : W (eCallM i fn fs) ε P X = Gt (rdS i ε) fun _ => W fs ε (fun ds ε1 => owW ε1[i]? fun l cs => Gt (fn cs ds) fun r => P r.1 (ε1.set i (some (.ow l r.2)))) X := U.W_eCallM
theorem W_eHeard {hd : Rs → Option D} : W (eHeard hd fa) ε P X = W fa (frE ε) (fun d _ => Gt (hd (.ok d)) fun r => P r ε) (fun x _ => Gt (hd (.error x)) fun r => P r ε) := U.W_eHeard
theorem W_eXat {ns : List Str} {n : Str} : W (eXat ns n fa) ε P X = W fa ε (fun d ε1 => Gt (bXat ns n d) fun r => P r ε1) X := U.W_eXat
theorem W_iPar : W (iPar fs) ε PL X = W fs ε (fun ds ε1 => Gt (parD ds) fun r => PL r ε1) X := U.W_iPar
theorem W_iRange3 : W (iRange3 fs) ε PL X = W fs ε (fun ds ε1 => Gt (rng3 ds) fun r => PL r ε1) X := U.W_iRange3
theorem W_eCh {f f' : D → D → Option D} {fc : VL.Env → Option (Out D)} : W (eCh f f' fa fb fc) ε P X = W fa ε (fun a ε1 => W fb ε1 (fun b ε2 => Gt (f a b) fun d => Gt (asB d) fun k => if k = true then W fc ε2 (fun c ε3 => Gt (f' b c) fun r => P r ε3) X else P (.bl false) ε2) X) X := U.W_eCh
theorem W_iNum : W (iNum fs) ε PL X = W fs ε (fun ds ε1 => Gt (numD ds) fun r => PL r ε1) X := U.W_iNum
theorem W_eStep : W (eStep fa fb) ε P X = W fa ε (fun a ε1 => W fb ε1 (fun b ε2 => Gt (stepD a b) fun d => P d ε2) X) X := U.W_eStep
theorem W_iItems : W (iItems fa) ε PL X = W fa ε (fun d ε1 => Gt (itemsD d) fun r => PL r ε1) X := U.W_iItems
theorem W_iRange1 : W (iRange1 fs) ε PL X = W fs ε (fun ds ε1 => Gt (rng1 ds) fun r => PL r ε1) X := U.W_iRange1
theorem W_iRange2 : W (iRange2 fs) ε PL X = W fs ε (fun ds ε1 => Gt (rng2 ds) fun r => PL r ε1) X := U.W_iRange2
theorem W_oPart {Q : Option Int → VL.Env → Prop} : W (oPart fa) ε Q X = W fa ε (fun d ε1 => Gt (asI d) fun r => Q (some r) ε1) X := U.W_oPart
theorem W_eCut {fl fh : VL.Env → Option (Out (Option Int))} : W (eCut fa fl fh) ε P X = W fa ε (fun d ε1 => W fl ε1 (fun lo ε2 => W fh ε2 (fun hi ε3 => Gt (oCutA d lo hi) fun r => P r ε3) X) X) X := U.W_eCut
theorem W_nCut {fl fh : VL.Env → Option (Out (Option Int))} : W (nCut fa fl fh) ε PL X = W fa ε (fun d ε1 => W fl ε1 (fun lo ε2 => W fh ε2 (fun hi ε3 => Gt (lstD d) fun xs => PL (cutD xs lo hi) ε3) X) X) X := U.W_nCut
theorem W_nAdd : W (nAdd fa fb) ε PL X = W fa ε (fun a ε1 => W fb ε1 (fun b ε2 => Gt (addL a b) fun r => PL r ε2) X) X := U.W_nAdd
theorem W_nMul : W (nMul fa fb) ε PL X = W fa ε (fun a ε1 => W fb ε1 (fun b ε2 => Gt (mulL a b) fun r => PL r ε2) X) X := U.W_nMul
theorem W_nList : W (nList fa) ε PL X = W fa ε (fun d ε1 => Gt (asItems d) fun r => PL r ε1) X := U.W_nList
theorem W_eIsiT {Ts : List String} : W (eIsiT fa Ts) ε P X = W fa ε (fun d ε1 => Gt (tyN d) fun S => Gt (kitL S Ts) fun b => P (.bl b) ε1) X := U.W_eIsiT
theorem W_eApp : W (eApp i fa) ε P X = owW ε[i]? fun _ _ => W fa ε (fun d ε1 => owW ε1[i]? fun l ds => ds.length < sizeLine ∧ P .non (ε1.set i (some (.ow l (ds ++ [d]))))) X := U.W_eApp
theorem W_ePop : W (ePop i) ε P X = owW ε[i]? fun l ds => Gt (ds[ds.length - 1]?) fun d => P d (ε.set i (some (.ow l ds.dropLast))) := U.W_ePop
theorem W_ePopAt : W (ePopAt i fa) ε P X = owW ε[i]? fun _ _ => W fa ε (fun d ε1 => Gt (asI d) fun k => owW ε1[i]? fun l ds => (-(2 ^ 63) ≤ k ∧ k < 2 ^ 63) ∧ Gt (seqIndex? k ds.length) fun j => Gt ds[j]? fun x => P x (ε1.set i (some (.ow l (ds.eraseIdx j))))) X := U.W_ePopAt
end
section stmts
variable {ε : VL.Env} {g h : SF} {P : R → Prop} {i j k : Nat} {f fk : VL.Env → Option (Out D)} {fs : VL.Env → Option (Out (List D))} {c : VL.Env → Option (Out Bool)}
theorem thR_nx : thR h P .mk (.nx ε) = Rn h ε P := U.thR_nx
theorem thR_rt {d : D} : thR h P .mk (.rt d ε) = P (.rt d ε) := U.thR_rt
theorem thR_ex {x : Exn} : thR h P .mk (.ex x ε) = P (.ex x ε) := U.thR_ex
theorem thR_bk : thR h P .mk (.bk ε) = P (.bk ε) := U.thR_bk
theorem thR_ct : thR h P .mk (.ct ε) = P (.ct ε) := U.thR_ct
theorem Rn_nil : Rn sNil ε P = P (.nx ε) := U.Rn_nil
theorem Rn_bk : Rn (fun ε => some (.bk ε)) ε P = P (.bk ε) := U.Rn_bk
theorem Rn_ct : Rn (fun ε => some (.ct ε)) ε P = P (.ct ε) := U.Rn_ct
theorem Rn_never : Rn (fun _ => none) ε P = False := U.Rn_never
theorem Rn_retN : Rn sRetN ε P = P (.rt .non ε) := U.Rn_retN
theorem Rn_seq : Rn (sSeq g h) ε P = Rn g ε (thR h P .mk) := U.Rn_seq
theorem Rn_sE {α : Type} {f : VL.Env → Option (Out α)} {k : α → VL.Env → Option R} : Rn (sE f k) ε P = W f ε (fun d ε1 => Gt (k d ε1) P) (fun x ε1 => P (.ex x ε1)) := U.Rn_sE
theorem Rn_set : Rn (sSet i f) ε P = W f ε (fun d ε1 => P (.nx (ε1.set i (some (.fr d))))) (fun x ε1 => P (.ex x ε1)) := U.Rn_set
theorem frzE_ow {ds : List D} : frzE 0 (some (.ow false ds) :: ε) = some (.fr (.lst ds)) :: ε := U.frzE_ow
theorem frzE_fr {d : D} : frzE 0 (some (.fr d) :: ε) = some (.fr d) :: ε := U.frzE_fr
theorem frzE_succ {s : Option Slot} : frzE (i + 1) (s :: ε) = s :: frzE i ε := U.frzE_succ
theorem Rn_frz : Rn (sFrz i) ε P = P (.nx (frzE i ε)) := U.Rn_frz
theorem Rn_parO2 {fb : VL.Env → Option (Out (List D))} : Rn (sParO2 i j f fb) ε P = W f ε (fun d ε1 => W fb ε1 (fun ds ε2 => P (.nx ((ε2.set i (some (.fr d))).set j (some (.ow false ds))))) (fun x ε2 => P (.ex x ε2))) (fun x ε1 => P (.ex x ε1)) := U.Rn_parO2
theorem Rn_parO3 {l : Nat} {f2 : VL.Env → Option (Out D)} {fb : VL.Env → Option (Out (List D))} : Rn (sParO3 i j l f f2 fb) ε P = W f ε (fun d ε1 => W f2 ε1 (fun d2 ε2 => W fb ε2 (fun ds ε3 => P (.nx (((ε3.set i (some (.fr d))).set j (some (.fr d2))).set l (some (.ow false ds))))) (fun x ε3 => P (.ex x ε3))) (fun x ε2 => P (.ex x ε2))) (fun x ε1 => P (.ex x ε1)) := U.Rn_parO3
theorem itI_at {a : Int} {P : Int → Prop} : itI (some (.int a)) P = P a := U.itI_at
theorem Rn_putA {g : Int → Int → Int} {fk : VL.Env → Option (Out D)} : Rn (sPutA i g fk f) ε P = Gt (rdS i ε) fun _ => W fk ε (fun kd ε1 => Gt (asI kd) fun z => owW ε1[i]? fun _ ds => itI (atI ds z) fun a => W f ε1 (fun d ε2 => Gt (asI d) fun b => owW ε2[i]? fun l2 ds2 => Gt (ixN ds2.length z) fun j => P (.nx (ε2.set i (some (.ow l2 (ds2.set j (.int (g a b)))))))) (fun x ε2 => P (.ex x ε2))) (fun x ε1 => P (.ex x ε1)) := U.Rn_putA
theorem frI_at {a : Int} {P : Int → Prop} : frI (some (some (.fr (.int a)))) P = P a := U.frI_at
theorem Rn_aug {g : Int → Int → Int} : Rn (sAug i g f) ε P = frI ε[i]? fun a => W f ε (fun d ε1 => Gt (asI d) fun b => P (.nx (ε1.set i (some (.fr (.int (g a b))))))) (fun x ε1 => P (.ex x ε1)) := U.Rn_aug
theorem Rn_own : Rn (sOwn i fs) ε P = W fs ε (fun d ε1 => P (.nx (ε1.set i (some (.ow false d))))) (fun x ε1 => P (.ex x ε1)) := U.Rn_own
theorem Rn_ret : Rn (sRet f) ε P = W f ε (fun d ε1 => P (.rt d ε1)) (fun x ε1 => P (.ex x ε1)) := U.Rn_ret
theorem Rn_expr : Rn (sExpr f) ε P = W f ε (fun d ε1 => P (.nx ε1)) (fun x ε1 => P (.ex x ε1)) := U.Rn_expr
theorem Rn_if : Rn (sIf c g h) ε P = W c ε (fun b ε1 => if b = true then Rn g ε1 P else Rn h ε1 P) (fun x ε1 => P (.ex x ε1)) := U.Rn_if
theorem Rn_asg {tg : D → VL.Env → Option VL.Env} : Rn (sAsg f tg) ε P = W f ε (fun d ε1 => Gt (tg d ε1) fun ε2 => P (.nx ε2)) (fun x ε1 => P (.ex x ε1)) := U.Rn_asg
theorem two_at {a b : D} {P : D → D → Prop} : two [a, b] P = P a b := U.two_at
theorem three_at {a b c : D} {P : D → D → D → Prop} : three [a, b, c] P = P a b c := U.three_at
theorem Rn_par : Rn (sPar i j fs) ε P = W fs ε (fun ds ε1 => two ds fun a b => P (.nx ((ε1.set i (some (.fr a))).set j (some (.fr b))))) (fun x ε1 => P (.ex x ε1)) := U.Rn_par
theorem Rn_par3 : Rn (sPar3 i j k fs) ε P = W fs ε (fun ds ε1 => three ds fun a b c => P (.nx (((ε1.set i (some (.fr a))).set j (some (.fr b))).set k (some (.fr c))))) (fun x ε1 => P (.ex x ε1)) := U.Rn_par3
theorem Rn_put : Rn (sPut i f fk) ε P = W f ε (fun d ε1 => Gt (rdS i ε1) fun _ => W fk ε1 (fun kd ε2 => Gt (asI kd) fun z => owW ε2[i]? fun l ds => Gt (ixN ds.length z) fun j => P (.nx (ε2.set i (some (.ow l (ds.set j d)))))) (fun x ε1 => P (.ex x ε1))) (fun x ε1 => P (.ex x ε1)) := U.Rn_put
theorem Rn_raise {x : Str} {fds : List (Str × Nat)} : Rn (sRaise x fds fs) ε P = W fs ε (fun ds ε1 => ds.length = fds.length ∧ Gt (getF ds fds []) fun gs => P (.ex ⟨x, gs⟩ ε1)) (fun x ε1 => P (.ex x ε1)) := U.Rn_raise
theorem tryR_nx {tab : Str → Option Bool} : tryR i j tab P .mk (.nx ε) = P (.nx ε) := U.tryR_nx
theorem tryR_rt {tab : Str → Option Bool} {d : D} : tryR i j tab P .mk (.rt d ε) = P (.rt d ε) := U.tryR_rt
theorem tryR_ex {tab : Str → Option Bool} {x : Exn} : tryR i j tab P .mk (.ex x ε) = Gt (tab x.n) fun b => if b = true then P (.nx (((ε.set i none).set j (some (.fr (.exn x.n x.fs)))).set i none)) else P (.ex x ε) := U.tryR_ex
theorem Rn_try {tab : Str → Option Bool} : Rn (sTry i j tab g) ε P = Rn g ε (tryR i j tab P .mk) := U.Rn_try
theorem loopR_nx : loopR g P .mk (.nx ε) = Rn g ε P := U.loopR_nx
theorem loopR_ct : loopR g P .mk (.ct ε) = Rn g ε P := U.loopR_ct
theorem loopR_bk : loopR g P .mk (.bk ε) = P (.nx ε) := U.loopR_bk
theorem loopR_rt {d : D} : loopR g P .mk (.rt d ε) = P (.rt d ε) := U.loopR_rt
theorem loopR_ex {x : Exn} : loopR g P .mk (.ex x ε) = P (.ex x ε) := U.loopR_ex
theorem Rn_for {tg : D → VL.Env → Option VL.Env} : Rn (sFor fs tg g) ε P = W fs ε (fun ds ε1 => Rn (forD tg g ds) ε1 P) (fun x ε1 => P (.ex x ε1)) := U.Rn_for
theorem Rn_forNil {tg : D → VL.Env → Option VL.Env} : Rn (forD tg g []) ε P = P (.nx ε) := U.Rn_forNil
theorem Rn_forCons {tg : D → VL.Env → Option VL.Env} {d : D} {ds : List D} : Rn (forD tg g (d :: ds)) ε P = Gt (tg d ε) fun ε1 => Rn g ε1 (loopR (forD tg g ds) P .mk) := U.Rn_forCons
theorem againR_nx {I : VL.Env → Prop} : againR I P .mk (.nx ε) = I ε := U.againR_nx
theorem againR_ct {I : VL.Env → Prop} : againR I P .mk (.ct ε) = I ε := U.againR_ct
theorem againR_bk {I : VL.Env → Prop} : againR I P .mk (.bk ε) = P (.nx ε) := U.againR_bk
theorem againR_rt {I : VL.Env → Prop} {d : D} : againR I P .mk (.rt d ε) = P (.rt d ε) := U.againR_rt
theorem againR_ex {I : VL.Env → Prop} {x : Exn} : againR I P .mk (.ex x ε) = P (.ex x ε) := U.againR_ex
theorem for_inv {tg : D → VL.Env → Option VL.Env} (I : List D → VL.Env → Prop) {ds : List D} (h0 : I ds ε) (fin : ∀ ε, I [] ε → P (.nx ε)) (turn : ∀ d ds ε, I (d :: ds) ε → Gt (tg d ε) fun ε1 => Rn g ε1 (againR (I ds) P .mk)) : Rn (forD tg g ds) ε P := U.for_inv I h0 fin turn
theorem while_inv (I : Nat → VL.Env → Prop) {n : Nat} (h0 : I n ε)
    (turn : ∀ n ε, I n ε → W c ε (fun b ε1 => if b = true then Rn g ε1 (againR (fun ε2 => ∃ m, m < n ∧ I m ε2) P .mk) else P (.nx ε1)) (fun x ε1 => P (.ex x ε1))) : Rn (sWhile c g) ε P := U.while_inv I h0 turn
end stmts
section ends
variable {ε : VL.Env} {g : SF} {N n : Nat} {ds cs : List D}
theorem endV_rt {Q : D → Prop} {d : D} : endV Q .mk (.rt d ε) = Q d := U.endV_rt
theorem endV_nx {Q : D → Prop} : endV Q .mk (.nx ε) = Q .non := U.endV_nx
theorem endM_rt {Q : D → List D → Prop} {d : D} : endM Q .mk (.rt d ε) = Gt (lentOf ε) (Q d) := U.endM_rt
theorem endM_nx {Q : D → List D → Prop} : endM Q .mk (.nx ε) = Gt (lentOf ε) (Q .non) := U.endM_nx
theorem endX_rt {P : D → Prop} {X : Exn → Prop} {d : D} : endX P X .mk (.rt d ε) = P d := U.endX_rt
theorem endX_nx {P : D → Prop} {X : Exn → Prop} : endX P X .mk (.nx ε) = P .non := U.endX_nx
theorem endX_ex {P : D → Prop} {X : Exn → Prop} {x : Exn} : endX P X .mk (.ex x ε) = X x := U.endX_ex
theorem lentOf_at : lentOf (some (.ow true cs) :: ε) = some cs := U.lentOf_at
theorem Gt_fnV {Q : D → Prop} : Gt (fnV N n g ds) Q = (ds.length = n ∧ Rn g (envV N n ds) (endV Q .mk)) := U.Gt_fnV
theorem Gt_fnM {Q : D × List D → Prop} : Gt (fnM N n g cs ds) Q = (ds.length = n ∧ Rn g (envM N n cs ds) (endM (fun d c => Q (d, c)) .mk)) := U.Gt_fnM
theorem GX_fnX {P : D → Prop} {X : Exn → Prop} : GX (fnX N n g ds) P X = (ds.length = n ∧ Rn g (envV N n ds) (endX P X .mk)) := U.GX_fnX
theorem Gt_fnN {f : VL.Env → Option (Out (List D))} {Q : List D → Prop} : Gt (fnN N n f ds) Q = (ds.length = n ∧ W f (envV N n ds) (fun d _ => Q d) (fun _ _ => False)) := U.Gt_fnN
end ends
section envs
variable {ε : VL.Env} {s t : Option Slot} {d : D} {ds : List D} {l : Bool} {i : Nat}
theorem rdS_fr : rdS 0 (some (.fr d) :: ε) = some d := U.rdS_fr
theorem rdS_ow : rdS 0 (some (.ow l ds) :: ε) = some (.lst ds) := U.rdS_ow
theorem rdS_succ : rdS (i + 1) (s :: ε) = rdS i ε := U.rdS_succ
theorem isFr_fr : isFr (some (.fr d) :: ε) 0 = true := U.isFr_fr
theorem isFr_ow : isFr (some (.ow l ds) :: ε) 0 = false := U.isFr_ow
theorem isFr_succ : isFr (s :: ε) (i + 1) = isFr ε i := U.isFr_succ
theorem plainAt_fr : plainAt (some (.fr d) :: ε) 0 = true := U.plainAt_fr
theorem plainAt_none : plainAt (none :: ε) 0 = true := U.plainAt_none
theorem plainAt_succ : plainAt (s :: ε) (i + 1) = plainAt ε i := U.plainAt_succ
theorem lendE_nil : lendE [] = [] := U.lendE_nil
theorem lendE_fr : lendE (some (.fr d) :: ε) = some (.fr d) :: lendE ε := U.lendE_fr
theorem lendE_none : lendE (none :: ε) = none :: lendE ε := U.lendE_none
theorem lendE_ow : lendE (some (.ow l ds) :: ε) = some (.ow true ds) :: lendE ε := U.lendE_ow
theorem frE_nil : frE [] = [] := U.frE_nil
theorem frE_fr : frE (some (.fr d) :: ε) = some (.fr d) :: frE ε := U.frE_fr
theorem frE_none : frE (none :: ε) = none :: frE ε := U.frE_none
theorem frE_ow : frE (some (.ow l ds) :: ε) = none :: frE ε := U.frE_ow
theorem unlE_nil : unlE [] [] = [] := U.unlE_nil
theorem unlE_cons {ε2 : VL.Env} : unlE (s :: ε) (t :: ε2) = unl s t :: unlE ε ε2 := U.unlE_cons
theorem unl_fr : unl s (some (.fr d)) = some (.fr d) := U.unl_fr
theorem unl_ow {m : Bool} {es : List D} : unl (some (.ow l ds)) (some (.ow m es)) = some (.ow l es) := U.unl_ow
theorem unl_none : unl s none = none := U.unl_none
theorem hideE_nil : hideE ε [] = ε := U.hideE_nil
theorem hideE_cons {is : List Nat} : hideE ε (i :: is) = (hideE ε is).set i none := U.hideE_cons
theorem shownE_nil {ε2 : VL.Env} : shownE ε ε2 [] = ε2 := U.shownE_nil
theorem shownE_cons {ε2 : VL.Env} {is : List Nat} : shownE ε ε2 (i :: is) = (shownE ε ε2 is).set i (ε.getD i none) := U.shownE_cons
theorem gSetD_at : gSetD i d ε = some (ε.set i (some (.fr d))) := U.gSetD_at
theorem gNilD_at : gNilD [] ε = some ε := U.gNilD_at
theorem Gt_gCons {g : D → VL.Env → Option VL.Env} {h : List D → VL.Env → Option VL.Env} {P : VL.Env → Prop} : Gt (gConsD g h (d :: ds) ε) P = Gt (g d ε) fun ε1 => Gt (h ds ε1) P := U.Gt_gCons
end envs
section ops
variable {P : D → Prop} {i j : Int}
theorem oAdd_int : oAdd (.int i) (.int j) = some (.int (i + j)) := U.oAdd_int
theorem oSub_int : oSub (.int i) (.int j) = some (.int (i - j)) := U.oSub_int
theorem oNeg_int : oNeg (.int i) = some (.int (-i)) := U.oNeg_int
theorem Gt_mul : Gt (oMul (.int i) (.int j)) P = (mulOk i j = true ∧ P (.int (i * j))) := U.Gt_mul
theorem Gt_div : Gt (oDiv (.int i) (.int j)) P = ((0 < j ∧ j.natAbs.log2 < 9000) ∧ P (.int (i / j))) := U.Gt_div
theorem Gt_mod : Gt (oMod (.int i) (.int j)) P = (0 < j ∧ P (.int (i % j))) := U.Gt_mod
theorem Gt_pow : Gt (oPow (.int i) (.int j)) P = ((0 ≤ j ∧ j ≤ 1000000 ∧ i.natAbs < 2 ^ 64) ∧ P (.int (i ^ j.toNat))) := U.Gt_pow
theorem Gt_shl : Gt (oShl (.int i) (.int j)) P = ((0 ≤ j ∧ (Builtin.Int.intBits i : Int) + j ≤ 2 ^ 27) ∧ P (.int (i * 2 ^ j.toNat))) := U.Gt_shl
theorem oCmp_int {p : Int → Int → Bool} : oCmp p (.int i) (.int j) = some (.bl (p i j)) := U.oCmp_int
theorem asB_bl {b : Bool} : asB (.bl b) = some b := U.asB_bl
theorem asI_int : asI (.int i) = some i := U.asI_int
theorem tru_bl {b : Bool} : tru (.bl b) = some b := U.tru_bl
theorem tru_int : tru (.int i) = some (i != 0) := U.tru_int
theorem tru_non : tru .non = some false := U.tru_non
theorem bAbs_int : bAbs [.int i] = some (.int (if i < 0 then -i else i)) := U.bAbs_int
theorem bInt_int : bInt [.int i] = some (.int i) := U.bInt_int
theorem bInt_bl {b : Bool} : bInt [.bl b] = some (.int (if b then 1 else 0)) := U.bInt_bl
theorem bGcd_int : bGcd [.int i, .int j] = some (.int ((Nat.gcd i.natAbs j.natAbs : Nat) : Int)) := U.bGcd_int
theorem bLen_lst {xs : List D} : bLen [.lst xs] = some (.int xs.length) := U.bLen_lst
theorem bLen_frl {xs : List D} : bLen [.frl xs] = some (.int xs.length) := U.bLen_frl
theorem bLen_tup {xs : List D} : bLen [.tup xs] = some (.int xs.length) := U.bLen_tup
theorem oIsN_non : oIsN .non .non = some (.bl true) := U.oIsN_non
theorem oIsN_int : oIsN (.int i) .non = some (.bl false) := U.oIsN_int
theorem oIsN_tup {xs : List D} : oIsN (.tup xs) .non = some (.bl false) := U.oIsN_tup
theorem oIsN_lst {xs : List D} : oIsN (.lst xs) .non = some (.bl false) := U.oIsN_lst
theorem oNotN_non : oNotN .non .non = some (.bl false) := U.oNotN_non
theorem oNotN_int : oNotN (.int i) .non = some (.bl true) := U.oNotN_int
theorem oNotN_tup {xs : List D} : oNotN (.tup xs) .non = some (.bl true) := U.oNotN_tup
theorem oIx_lst {xs : List D} : oIx (.lst xs) (.int i) = atI xs i := U.oIx_lst
theorem oIx_frl {xs : List D} : oIx (.frl xs) (.int i) = atI xs i := U.oIx_frl
theorem oIx_tup {xs : List D} : oIx (.tup xs) (.int i) = atI xs i := U.oIx_tup
theorem bTuple_lst {xs : List D} : bTuple (.lst xs) = some (.tup xs) := U.bTuple_lst
theorem bTuple_frl {xs : List D} : bTuple (.frl xs) = some (.tup xs) := U.bTuple_frl
theorem bTuple_tup {xs : List D} : bTuple (.tup xs) = some (.tup xs) := U.bTuple_tup
theorem intsD_map {ns : List Int} : intsD (ns.map D.int) = some ns := U.intsD_map
theorem blsD_map {ns : List Bool} : blsD (ns.map D.bl) = some ns := U.blsD_map
theorem bSum_ints {ns : List Int} : bSum [.lst (ns.map D.int)] = some (.int ns.sum) := U.bSum_ints
theorem bAll_bls {ns : List Bool} : bAll [.lst (ns.map D.bl)] = some (.bl (ns.all id)) := U.bAll_bls
theorem parD_at {d c : D} : parD [d, c] = (rowD d).bind fun xs => (rowD c).map fun ys => parI xs ys := U.parD_at
theorem Gt_rng3 {i j k : Int} {PL : List D → Prop} : Gt (rng3 [.int i, .int j, .int k]) PL = ((k = -1 ∧ -(2 ^ 62) ≤ i ∧ i < 2 ^ 62 ∧ -(2 ^ 62) ≤ j ∧ j < 2 ^ 62) ∧ PL (downD i j)) := U.Gt_rng3
theorem numD_at {d : D} : numD [d] = (rowD d).map (numI 0) := U.numD_at
theorem rowD_lst {xs : List D} : rowD (.lst xs) = some xs := U.rowD_lst
theorem rowD_frl {xs : List D} : rowD (.frl xs) = some xs := U.rowD_frl
theorem rowD_tup {xs : List D} : rowD (.tup xs) = some xs := U.rowD_tup
theorem Gt_stepT {xs : List D} {k : Int} : Gt (stepD (.tup xs) (.int k)) P = ((k ≠ 0 ∧ k ≠ 1) ∧ P (.tup (pickL xs k))) := U.Gt_stepT
theorem Gt_stepL {xs : List D} {k : Int} : Gt (stepD (.lst xs) (.int k)) P = ((k ≠ 0 ∧ k ≠ 1) ∧ P (.lst (pickL xs k))) := U.Gt_stepL
theorem Gt_stepF {xs : List D} {k : Int} : Gt (stepD (.frl xs) (.int k)) P = ((k ≠ 0 ∧ k ≠ 1) ∧ P (.lst (pickL xs k))) := U.Gt_stepF
theorem itemsD_lst {xs : List D} : itemsD (.lst xs) = some xs := U.itemsD_lst
theorem itemsD_frl {xs : List D} : itemsD (.frl xs) = some xs := U.itemsD_frl
theorem itemsD_tup {xs : List D} : itemsD (.tup xs) = some xs := U.itemsD_tup
theorem asItems_lst {xs : List D} : asItems (.lst xs) = some xs := U.asItems_lst
theorem asItems_frl {xs : List D} : asItems (.frl xs) = some xs := U.asItems_frl
theorem asItems_tup {xs : List D} : asItems (.tup xs) = some xs := U.asItems_tup
theorem Gt_rng1 {PL : List D → Prop} : Gt (rng1 [.int j]) PL = ((-(2 ^ 62) ≤ j ∧ j < 2 ^ 62) ∧ PL (rngD 0 j)) := U.Gt_rng1
theorem Gt_rng2 {PL : List D → Prop} : Gt (rng2 [.int i, .int j]) PL = ((-(2 ^ 62) ≤ i ∧ i < 2 ^ 62 ∧ -(2 ^ 62) ≤ j ∧ j < 2 ^ 62) ∧ PL (rngD i j)) := U.Gt_rng2
theorem oCutA_lst {xs : List D} {lo hi : Option Int} : oCutA (.lst xs) lo hi = some (.lst (cutD xs lo hi)) := U.oCutA_lst
theorem oCutA_frl {xs : List D} {lo hi : Option Int} : oCutA (.frl xs) lo hi = some (.lst (cutD xs lo hi)) := U.oCutA_frl
theorem oCutA_tup {xs : List D} {lo hi : Option Int} : oCutA (.tup xs) lo hi = some (.tup (cutD xs lo hi)) := U.oCutA_tup
theorem lstD_lst {xs : List D} : lstD (.lst xs) = some xs := U.lstD_lst
theorem lstD_frl {xs : List D} : lstD (.frl xs) = some xs := U.lstD_frl
end ops
section comps
variable {own : List Nat} {gt : D → VL.Env → Option VL.Env} {ft : VL.Env → Option (Out Bool)} {fe : VL.Env → Option (Out D)} {d : D} {ds acc : List D} {ε : VL.Env} {Q : List D → VL.Env → Prop} {fi : VL.Env → Option (Out (List D))} {X : Exn → VL.Env → Prop}
theorem Cp_nil : Cp own gt ft fe [] acc ε Q = Q acc ε := U.Cp_nil
theorem Cp_cons : Cp own gt ft fe (d :: ds) acc ε Q = Gt (gt d (lendE ε)) fun ε1 => W ft ε1 (fun b ε2 => if b = true then W fe ε2 (fun x ε3 => acc.length < sizeLine ∧ Cp own gt ft fe ds (acc ++ [x]) (unlE ε (hideE ε3 own)) Q) (fun _ _ => False) else Cp own gt ft fe ds acc (unlE ε (hideE ε2 own)) Q) (fun _ _ => False) := U.Cp_cons
theorem W_nComp {P : List D → VL.Env → Prop} : W (nComp own fi gt ft fe) ε P X = W fi ε (fun ds ε1 => own.all (plainAt ε1) = true ∧ Cp own gt ft fe ds [] (hideE ε1 own) (fun xs ε2 => P xs (shownE ε1 ε2 own))) X := U.W_nComp
theorem comp_inv (I : List D → List D → VL.Env → Prop) (h0 : I ds acc ε) (fin : ∀ acc ε, I [] acc ε → Q acc ε)
    (turn : ∀ d ds acc ε, I (d :: ds) acc ε → Gt (gt d (lendE ε)) fun ε1 => W ft ε1 (fun b ε2 => if b = true then W fe ε2 (fun x ε3 => acc.length < sizeLine ∧ I ds (acc ++ [x]) (unlE ε (hideE ε3 own))) (fun _ _ => False) else I ds acc (unlE ε (hideE ε2 own))) (fun _ _ => False)) : Cp own gt ft fe ds acc ε Q := U.comp_inv I h0 fin turn
theorem comp_map {α : Type} (c g : α → D) (p : List α) (hl : p.length ≤ sizeLine) (step : ∀ a, a ∈ p → Gt (gt (c a) (lendE ε)) fun ε1 => W ft ε1 (fun b ε2 => if b = true then W fe ε2 (fun x ε3 => x = g a ∧ unlE ε (hideE ε3 own) = ε) (fun _ _ => False) else False) (fun _ _ => False)) (q : Q (p.map g) ε) : Cp own gt ft fe (p.map c) [] ε Q := U.comp_map c g p hl step q
end comps
end VL
end

section
set_option Elab.async false
set_option linter.all false
set_option maxRecDepth 100000
set_option maxHeartbeats 4000000
/-! VT: more rules, and the step `subst_eqs`: walks a mirrored body. -/
namespace VL
open PySem L2
variable [LamN]
section
variable {ε : VL.Env} {d d0 d1 d2 d3 : D} {ds : List D} {l : Bool} {i : Nat}
theorem gTupD_at {n : Nat} {h : List D → VL.Env → Option VL.Env} {P : VL.Env → Prop} : Gt (gTupD n h (.tup ds) ε) P = (ds.length = n ∧ Gt (h ds ε) P) := by
  show U.Gt _ _ = (_ ∧ U.Gt _ _)
  unfold gTupD
  by_cases h : ds.length = n
  · simp [h]
  · simp [h, U.Gt]
theorem atI_0 : atI (d0 :: ds) 0 = some d0 := by
  unfold atI ixN
  rw [if_pos (Int.le_refl 0), if_pos (by simp only [List.length_cons]; omega)]
  rfl
theorem atI_1 : atI (d0 :: d1 :: ds) 1 = some d1 := by
  unfold atI ixN
  rw [if_pos (by decide), if_pos (by simp only [List.length_cons]; omega)]
  rfl
theorem atI_2 : atI (d0 :: d1 :: d2 :: ds) 2 = some d2 := by
  unfold atI ixN
  rw [if_pos (by decide), if_pos (by simp only [List.length_cons]; omega)]
  rfl
theorem atI_3 : atI (d0 :: d1 :: d2 :: d3 :: ds) 3 = some d3 := by
  unfold atI ixN
  rw [if_pos (by decide), if_pos (by simp only [List.length_cons]; omega)]
  rfl
theorem ixN_lit {n k : Nat} {j : Int} (h : j = (k : Int)) (hk : k < n) : ixN n j = some k := by
  subst h
  unfold ixN
  rw [if_pos (by omega), if_pos (by omega)]
  simp
theorem ixN_of {n : Nat} {j : Int} (h : 0 ≤ j) (hk : j < n) : ixN n j = some j.toNat := by
  unfold ixN
  rw [if_pos h, if_pos hk]
theorem atI_of {xs : List D} {j : Int} {d : D} (h : 0 ≤ j) (e : xs[j.toNat]? = some d) : atI xs j = some d := by
  obtain ⟨hl, _⟩ := List.getElem?_eq_some_iff.mp e
  unfold atI
  rw [ixN_of h (by omega)]
  exact e
theorem ixN_3_0 : ixN 3 0 = some 0 := rfl
theorem ixN_3_1 : ixN 3 1 = some 1 := rfl
theorem ixN_3_2 : ixN 3 2 = some 2 := rfl
theorem two_le {a : Nat} : (a ≤ sizeLine) = (a ≤ sizeLine) := rfl
theorem le_sizeLine {a : Nat} (h : a ≤ 1000) : (a ≤ sizeLine) = True := by
  rw [sizeLine_eq]; simp; omega
theorem lt_sizeLine {a : Nat} (h : a < 1000) : (a < sizeLine) = True := by
  rw [sizeLine_eq]; simp; omega
theorem isNon_int {i : Int} : isNon (.int i) = some false := rfl
theorem oIsN_bl {b : Bool} : oIsN (.bl b) .non = some (.bl false) := rfl
theorem oIsN_str {b : Str} : oIsN (.str b) .non = some (.bl false) := rfl
theorem oNotN_bl {b : Bool} : oNotN (.bl b) .non = some (.bl true) := rfl
theorem oNotN_str {b : Str} : oNotN (.str b) .non = some (.bl true) := rfl
theorem oNotN_lst {xs : List D} : oNotN (.lst xs) .non = some (.bl true) := rfl
theorem envV_at {N n : Nat} : envV N n ds = ds.map (fun d => some (.fr d)) ++ List.replicate (N - n) none := rfl
theorem envM_at {N n : Nat} {cs : List D} : envM N n cs ds = some (.ow true cs) :: (ds.map (fun d => some (.fr d)) ++ List.replicate (N - (n + 1)) none) := rfl
end
/-! ### equality of ints and pairs -/
theorem bAbs_nat {i : Int} : bAbs [.int i] = some (.int (i.natAbs : Int)) := by
  show some (D.int _) = _
  congr 2
  split <;> omega
omit [LamN] in
theorem log2_small {n : Nat} (h : n < 18446744073709551616) : (n.log2 < 9000) = True := by
  by_cases h0 : n = 0
  · subst h0; simp
  · have := (Nat.log2_lt h0).mpr (show n < 2 ^ 64 from h)
    simp; omega
theorem shaped_int {i : Int} : SeqAt.shaped (.int i) = true := rfl
theorem oEq_int {i j : Int} : oEq (.int i) (.int j) = some (.bl (decide (i = j))) := by
  simp [oEq, toPy, shaped_int, PyData.eqv]
  by_cases h : i = j <;> simp [h]
theorem oNe_int {i j : Int} : oNe (.int i) (.int j) = some (.bl (!decide (i = j))) := by
  simp [oNe, toPy, shaped_int, PyData.eqv]
  by_cases h : i = j <;> simp [h]
end VL
end

section
set_option Elab.async false
set_option linter.all false
set_option maxRecDepth 100000
set_option maxHeartbeats 4000000
/-! VQ: repr and == of data. -/
namespace VL
open PySem L2
/-! ### what repr gives: always a plain text -/
theorem strOk_app (a b : Str) : PyData.strOk (a ++ b) = (PyData.strOk a && PyData.strOk b) := by
  unfold PyData.strOk
  rw [Str.cps_append, Array.all_append]
theorem strOk_ofString (s : String) : PyData.strOk (Str.ofString s) = true := by
  unfold PyData.strOk
  rw [Array.all_eq_true_iff_forall_mem]
  intro x hx
  have h : (Str.ofString s).cps.toList = s.toList.map Char.toNat := PyProof.Rows.signs_ofString s
  rw [Array.mem_def, h] at hx
  obtain ⟨c, _, rfl⟩ := List.mem_map.mp hx
  have h := c.valid
  simp only [UInt32.isValidChar, Nat.isValidChar] at h
  have ht : c.toNat = c.val.toNat := rfl
  simp only [decide_eq_true_eq]
  omega
theorem strOk_textFrom : ∀ (ts : List Str) (k : Nat) (acc : Str), (∀ t ∈ ts, PyData.strOk t = true) → PyData.strOk acc = true → PyData.strOk (textFrom k acc ts) = true
  | [], k, acc, _, h => h
  | t :: ts, k, acc, ht, h => by
    refine strOk_textFrom ts (k + 1) _ (fun u hu => ht u (List.mem_cons_of_mem _ hu)) ?_
    rw [strOk_app, strOk_app, h, ht t List.mem_cons_self]
    split <;> (first | rfl | (simp; exact strOk_ofString _))
theorem strOk_join (sep : Str) (hs : PyData.strOk sep = true) : ∀ (ts : List Str), (∀ t ∈ ts, PyData.strOk t = true) → PyData.strOk (Str.join sep ts) = true
  | [], _ => by unfold Str.join; decide +kernel
  | [x], h => h x List.mem_cons_self
  | x :: y :: r, h => by
    show PyData.strOk (x ++ sep ++ Str.join sep (y :: r)) = true
    rw [strOk_app, strOk_app, h x List.mem_cons_self, hs, strOk_join sep hs (y :: r) fun t ht => h t (List.mem_cons_of_mem _ ht)]
    rfl
theorem len_textFrom : ∀ (ts : List Str) (k : Nat) (acc : Str), (textFrom k acc ts).length ≤ acc.length + (ts.map fun t => t.length + 2).sum
  | [], k, acc => by simp [textFrom]
  | t :: ts, k, acc => by
    have h := len_textFrom ts (k + 1) (acc ++ (if k > 0 then ", " else "" : String) ++ t)
    have e : (acc ++ (if k > 0 then ", " else "" : String) ++ t).length ≤ acc.length + 2 + t.length := by
      rw [strLen_append, strLen_append]
      split
      · have : ((", " : String) : Str).length = 2 := rfl
        omega
      · have : (("" : String) : Str).length = 0 := rfl
        omega
    simp only [List.map_cons, List.sum_cons]
    show (textFrom (k + 1) _ ts).length ≤ _
    omega
theorem len_join : ∀ (ts : List Str), (Str.join ", " ts).length ≤ (ts.map fun t => t.length + 2).sum
  | [] => by simp [Str.join, Str.empty, Str.length]
  | [x] => by simp [Str.join]
  | x :: y :: r => by
    have h := len_join (y :: r)
    show (x ++ ", " ++ Str.join ", " (y :: r)).length ≤ _
    have e2 : ((", " : String) : Str).length = 2 := rfl
    rw [strLen_append, strLen_append, e2]
    simp only [List.map_cons, List.sum_cons] at h ⊢
    omega
mutual
/-- data whose repr is known to be short and plain -/
def tame : D → Bool
  | .non => true
  | .bl _ => true
  | .int i => decide (i.natAbs.log2 < 1920)
  | .str s => PyData.strOk s && PyData.strOk (reprText s)
  | .lst xs => tameL xs
  | .frl xs => tameL xs
  | .tup xs => tameL xs
  | _ => false
def tameL : List D → Bool
  | [] => true
  | d :: ds => tame d && tameL ds
end
mutual
/-- a bound of the length of the repr -/
def wide : D → Nat
  | .int _ => 1921
  | .str s => (reprText s).length
  | .lst xs => wideL xs + 2
  | .frl xs => wideL xs + 2
  | .tup xs => wideL xs + 3
  | _ => 5
def wideL : List D → Nat
  | [] => 0
  | d :: ds => wide d + 2 + wideL ds
end
mutual
def deepD : D → Nat
  | .lst xs => deepL xs + 1
  | .frl xs => deepL xs + 1
  | .tup xs => deepL xs + 1
  | _ => 0
def deepL : List D → Nat
  | [] => 0
  | d :: ds => max (deepD d) (deepL ds)
end
theorem shown_int_len {i : Int} (h : i.natAbs.log2 < 1920) : (PyData.int i).shown.length ≤ 1921 := by
  have := int_text_length_le (by decide) h
  show (Str.ofString (toString i)).length ≤ _
  rw [PySem.ofString_length]
  exact this
mutual
theorem toPy_tame : ∀ {d : D}, tame d = true → ∃ p, toPy d = some p ∧ p.showable = true ∧ p.canLay0 = true ∧ p.hasDict = false ∧ p.depth = deepD d ∧ p.shown.length ≤ wide d ∧ PyData.strOk p.shown = true
  | .non, _ => ⟨.none, rfl, rfl, rfl, rfl, rfl, by decide +kernel, by decide +kernel⟩
  | .bl b, _ => ⟨.bool b, rfl, rfl, rfl, rfl, rfl, by cases b <;> decide +kernel, by cases b <;> decide +kernel⟩
  | .int i, h => by
    have h : i.natAbs.log2 < 1920 := of_decide_eq_true (by simpa [tame] using h)
    exact ⟨.int i, rfl, by simp [PyData.showable, h], rfl, rfl, by simp [PyData.depth, deepD], by simp only [wide]; exact shown_int_len h, strOk_ofString _⟩
  | .str s, h => by
    have h : PyData.strOk s = true ∧ PyData.strOk (reprText s) = true := by simpa [tame] using h
    exact ⟨.str s, by simp [toPy], by simp [PyData.showable], by simp [PyData.canLay0, h.1], by simp [PyData.hasDict], by simp [PyData.depth, deepD], by simp [wide, PyData.shown], by simpa [PyData.shown] using h.2⟩
  | .lst xs, h => by
    obtain ⟨ps, e, a, b, c, d, f, g⟩ := toPyL_tame (ds := xs) (by simpa [tame] using h)
    refine ⟨.list ps, by simp [toPy, e], by simpa [PyData.showable] using a, by simpa [PyData.canLay0] using b, by simpa [PyData.hasDict] using c, by simp [PyData.depth, deepD, d], ?_, ?_⟩
    · simp only [PyData.shown, wide, listText]
      have := len_textFrom (PyData.shownAll ps) 0 "["
      have e1 : (("[" : String) : Str).length = 1 := rfl
      have e2 : (("]" : String) : Str).length = 1 := rfl
      rw [strLen_append]
      omega
    · simp only [PyData.shown, listText]
      rw [strOk_app, strOk_textFrom _ _ _ g (by decide +kernel)]
      decide +kernel
  | .frl xs, h => by
    obtain ⟨ps, e, a, b, c, d, f, g⟩ := toPyL_tame (ds := xs) (by simpa [tame] using h)
    refine ⟨.list ps, by simp [toPy, e], by simpa [PyData.showable] using a, by simpa [PyData.canLay0] using b, by simpa [PyData.hasDict] using c, by simp [PyData.depth, deepD, d], ?_, ?_⟩
    · simp only [PyData.shown, wide, listText]
      have := len_textFrom (PyData.shownAll ps) 0 "["
      have e1 : (("[" : String) : Str).length = 1 := rfl
      have e2 : (("]" : String) : Str).length = 1 := rfl
      rw [strLen_append]
      omega
    · simp only [PyData.shown, listText]
      rw [strOk_app, strOk_textFrom _ _ _ g (by decide +kernel)]
      decide +kernel
  | .tup xs, h => by
    obtain ⟨ps, e, a, b, c, d, f, g⟩ := toPyL_tame (ds := xs) (by simpa [tame] using h)
    refine ⟨.tuple ps, by simp [toPy, e], by simpa [PyData.showable] using a, by simpa [PyData.canLay0] using b, by simpa [PyData.hasDict] using c, by simp [PyData.depth, deepD, d], ?_, ?_⟩
    · simp only [PyData.shown, wide, tupleText]
      have := len_join (PyData.shownAll ps)
      have e1 : (("(" : String) : Str).length = 1 := rfl
      rw [strLen_append, strLen_append]
      split
      · have e2 : ((",)" : String) : Str).length = 2 := rfl
        omega
      · have e2 : ((")" : String) : Str).length = 1 := rfl
        omega
    · simp only [PyData.shown, tupleText]
      rw [strOk_app, strOk_app, strOk_join _ (by decide +kernel) _ g]
      split <;> decide +kernel
theorem toPyL_tame : ∀ {ds : List D}, tameL ds = true → ∃ ps, toPyL ds = some ps ∧ PyData.showableAll ps = true ∧ PyData.canLayAll0 ps = true ∧ PyData.hasDictAll ps = false ∧ PyData.depthAll ps = deepL ds ∧ ((PyData.shownAll ps).map fun t => t.length + 2).sum ≤ wideL ds ∧ ∀ t ∈ PyData.shownAll ps, PyData.strOk t = true
  | [], _ => ⟨[], rfl, rfl, rfl, rfl, rfl, by simp [PyData.shownAll, wideL], by simp [PyData.shownAll]⟩
  | d :: ds, h => by
    have h : tame d = true ∧ tameL ds = true := by simpa [tameL] using h
    obtain ⟨p, e0, a0, b0, c0, d0, f0, g0⟩ := toPy_tame h.1
    obtain ⟨ps, e, a, b, c, dd, f, g⟩ := toPyL_tame h.2
    refine ⟨p :: ps, by simp [toPyL, e0, e], by simp [PyData.showableAll, a0, a], by simp [PyData.canLayAll0, b0, b], by simp [PyData.hasDictAll, c0, c], by simp [PyData.depthAll, deepL, d0, dd], ?_, ?_⟩
    · simp only [PyData.shownAll, wideL, List.map_cons, List.sum_cons]
      omega
    · intro t ht
      simp only [PyData.shownAll, List.mem_cons] at ht
      rcases ht with rfl | ht
      · exact g0
      · exact g t ht
end
/-- the repr of tame data -/
noncomputable def reprS (d : D) : Str := ((toPy d).map PyData.shown).getD Str.empty
theorem bRepr_tame {d : D} (h : tame d = true) (h2 : deepD d ≤ 64) (h3 : wide d ≤ 16777216) : bRepr [d] = some (.str (reprS d)) ∧ PyData.strOk (reprS d) = true := by
  obtain ⟨p, e, a, b, c, dd, f, g⟩ := toPy_tame h
  refine ⟨?_, by unfold reprS; rw [e]; exact g⟩
  unfold bRepr reprS
  simp only [e]
  rw [if_pos ⟨a, c, by omega, by rw [sizeLine_eq]; omega⟩]
  rfl
theorem shaped_tame {d : D} {p : PyData} (h : tame d = true) (h2 : deepD d ≤ 64) (e0 : toPy d = some p) : SeqAt.shaped p = true := by
  obtain ⟨p', e, a, b, c, dd, f, g⟩ := toPy_tame h
  rw [e0] at e
  cases e
  unfold SeqAt.shaped
  simp [b]
  omega
theorem toPy_str {s : Str} : toPy (.str s) = some (.str s) := by simp [toPy]
theorem shaped_str {s : Str} (h : PyData.strOk s = true) : SeqAt.shaped (.str s) = true := by
  unfold SeqAt.shaped
  simp [PyData.canLay0, h, PyData.depth]
theorem str_beq {s t : Str} : (s == t) = decide (s = t) := by
  by_cases h : s = t
  · subst h; simp
  · simp [h]
theorem oEq_str {s t : Str} (hs : PyData.strOk s = true) (ht : PyData.strOk t = true) : oEq (.str s) (.str t) = some (.bl (decide (s = t))) := by
  unfold oEq
  rw [toPy_str, toPy_str]
  dsimp only
  rw [if_pos ⟨shaped_str hs, shaped_str ht⟩]
  simp [PyData.eqv, str_beq]
theorem oNe_str {s t : Str} (hs : PyData.strOk s = true) (ht : PyData.strOk t = true) : oNe (.str s) (.str t) = some (.bl (!decide (s = t))) := by
  unfold oNe
  rw [toPy_str, toPy_str]
  dsimp only
  rw [if_pos ⟨shaped_str hs, shaped_str ht⟩]
  simp [PyData.eqv, str_beq]
mutual
theorem eqv_refl : ∀ p : PyData, p.canLay0 = true → PyData.eqv p p = true
  | .none, _ => by simp [PyData.eqv]
  | .bool _, _ => by simp [PyData.eqv]
  | .int _, _ => by simp [PyData.eqv]
  | .str _, _ => by simp [PyData.eqv]
  | .list xs, h => by simp only [PyData.eqv]; exact eqvAll_refl xs (by simpa [PyData.canLay0] using h)
  | .tuple xs, h => by simp only [PyData.eqv]; exact eqvAll_refl xs (by simpa [PyData.canLay0] using h)
  | .dict _, h => by simp [PyData.canLay0] at h
theorem eqvAll_refl : ∀ ps : List PyData, PyData.canLayAll0 ps = true → PyData.eqvAll ps ps = true
  | [], _ => by simp [PyData.eqvAll]
  | x :: xs, h => by
    have h : x.canLay0 = true ∧ PyData.canLayAll0 xs = true := by simpa [PyData.canLayAll0] using h
    simp [PyData.eqvAll, eqv_refl x h.1, eqvAll_refl xs h.2]
end
theorem oEq_self {d : D} (h : tame d = true) (h2 : deepD d ≤ 64) : oEq d d = some (.bl true) := by
  obtain ⟨p, e, a, b, c, dd, f, g⟩ := toPy_tame h
  unfold oEq
  rw [e]
  dsimp only
  rw [if_pos ⟨shaped_tame h h2 e, shaped_tame h h2 e⟩, eqv_refl p b]
theorem oNe_self {d : D} (h : tame d = true) (h2 : deepD d ≤ 64) : oNe d d = some (.bl false) := by
  obtain ⟨p, e, a, b, c, dd, f, g⟩ := toPy_tame h
  unfold oNe
  rw [e]
  dsimp only
  rw [if_pos ⟨shaped_tame h h2 e, shaped_tame h h2 e⟩, eqv_refl p b]
  rfl
mutual
/-- == of data, without what bars it -/
def deq : D → D → Bool
  | .non, .non => true
  | .bl a, .bl b => a == b
  | .bl a, .int j => (if a then 1 else 0) == j
  | .int i, .bl b => i == (if b then 1 else 0)
  | .int i, .int j => i == j
  | .str x, .str y => x == y
  | .lst xs, .lst ys => deqL xs ys
  | .lst xs, .frl ys => deqL xs ys
  | .frl xs, .lst ys => deqL xs ys
  | .frl xs, .frl ys => deqL xs ys
  | .tup xs, .tup ys => deqL xs ys
  | _, _ => false
def deqL : List D → List D → Bool
  | [], [] => true
  | x :: xs, y :: ys => deq x y && deqL xs ys
  | _, _ => false
end
mutual
theorem eqv_deq : ∀ {a b : D} {p q : PyData}, toPy a = some p → toPy b = some q → p.canLay0 = true → q.canLay0 = true → PyData.eqv p q = deq a b
  | a, b, p, q, ea, eb, hp, hq => by
    cases a <;> cases b <;> simp only [toPy, Option.some.injEq, Option.map_eq_some_iff, reduceCtorEq] at ea eb
    all_goals (first | (subst ea; subst eb; simp [PyData.eqv, deq]; done) | skip)
    all_goals (first | (obtain ⟨ps, e1, rfl⟩ := ea) | skip)
    all_goals (first | (obtain ⟨qs, e2, rfl⟩ := eb) | skip)
    all_goals (first | (subst ea; simp [PyData.eqv, deq]; done) | (subst eb; simp [PyData.eqv, deq]; done) | (simp [PyData.eqv, deq]; done) | skip)
    all_goals (simp only [PyData.eqv, deq]; exact eqvAll_deq e1 e2 (by simpa [PyData.canLay0] using hp) (by simpa [PyData.canLay0] using hq))
theorem eqvAll_deq : ∀ {as bs : List D} {ps qs : List PyData}, toPyL as = some ps → toPyL bs = some qs → PyData.canLayAll0 ps = true → PyData.canLayAll0 qs = true → PyData.eqvAll ps qs = deqL as bs
  | [], [], ps, qs, ea, eb, hp, hq => by
    simp only [toPyL, Option.some.injEq] at ea eb
    subst ea; subst eb
    simp [PyData.eqvAll, deqL]
  | [], b :: bs, ps, qs, ea, eb, hp, hq => by
    simp only [toPyL, Option.some.injEq] at ea eb
    subst ea
    split at eb
    · cases eb; simp [PyData.eqvAll, deqL]
    · cases eb
  | a :: as, [], ps, qs, ea, eb, hp, hq => by
    simp only [toPyL, Option.some.injEq] at ea eb
    subst eb
    split at ea
    · cases ea; simp [PyData.eqvAll, deqL]
    · cases ea
  | a :: as, b :: bs, ps, qs, ea, eb, hp, hq => by
    simp only [toPyL] at ea eb
    split at ea
    · rename_i p ps' e1 e2
      cases ea
      split at eb
      · rename_i q qs' e3 e4
        cases eb
        have hp : p.canLay0 = true ∧ PyData.canLayAll0 ps' = true := by simpa [PyData.canLayAll0] using hp
        have hq : q.canLay0 = true ∧ PyData.canLayAll0 qs' = true := by simpa [PyData.canLayAll0] using hq
        simp only [PyData.eqvAll, deqL]
        rw [eqv_deq e1 e3 hp.1 hq.1, eqvAll_deq e2 e4 hp.2 hq.2]
      · cases eb
    · cases ea
end
mutual
/-- data that == may look at -/
def lay : D → Bool
  | .non => true
  | .bl _ => true
  | .int _ => true
  | .str s => PyData.strOk s
  | .lst xs => layL xs
  | .frl xs => layL xs
  | .tup xs => layL xs
  | _ => false
def layL : List D → Bool
  | [] => true
  | d :: ds => lay d && layL ds
end
mutual
theorem toPy_lay : ∀ {d : D}, lay d = true → ∃ p, toPy d = some p ∧ p.canLay0 = true ∧ p.depth = deepD d
  | .non, _ => ⟨.none, rfl, rfl, rfl⟩
  | .bl b, _ => ⟨.bool b, rfl, rfl, rfl⟩
  | .int i, h => ⟨.int i, rfl, rfl, rfl⟩
  | .str s, h => ⟨.str s, by simp [toPy], by simpa [PyData.canLay0, lay] using h, by simp [PyData.depth, deepD]⟩
  | .lst xs, h => by
    obtain ⟨ps, e, a, b⟩ := toPyL_lay (ds := xs) (by simpa [lay] using h)
    exact ⟨.list ps, by simp [toPy, e], by simpa [PyData.canLay0] using a, by simp [PyData.depth, deepD, b]⟩
  | .frl xs, h => by
    obtain ⟨ps, e, a, b⟩ := toPyL_lay (ds := xs) (by simpa [lay] using h)
    exact ⟨.list ps, by simp [toPy, e], by simpa [PyData.canLay0] using a, by simp [PyData.depth, deepD, b]⟩
  | .tup xs, h => by
    obtain ⟨ps, e, a, b⟩ := toPyL_lay (ds := xs) (by simpa [lay] using h)
    exact ⟨.tuple ps, by simp [toPy, e], by simpa [PyData.canLay0] using a, by simp [PyData.depth, deepD, b]⟩
theorem toPyL_lay : ∀ {ds : List D}, layL ds = true → ∃ ps, toPyL ds = some ps ∧ PyData.canLayAll0 ps = true ∧ PyData.depthAll ps = deepL ds
  | [], _ => ⟨[], rfl, rfl, rfl⟩
  | d :: ds, h => by
    have h : lay d = true ∧ layL ds = true := by simpa [layL] using h
    obtain ⟨p, e0, a0, b0⟩ := toPy_lay h.1
    obtain ⟨ps, e, a, b⟩ := toPyL_lay h.2
    exact ⟨p :: ps, by simp [toPyL, e0, e], by simp [PyData.canLayAll0, a0, a], by simp [PyData.depthAll, deepL, b0, b]⟩
end
theorem shaped_lay {d : D} {p : PyData} (h : lay d = true) (h2 : deepD d ≤ 64) (e0 : toPy d = some p) : SeqAt.shaped p = true ∧ p.canLay0 = true := by
  obtain ⟨p', e, a, b⟩ := toPy_lay h
  rw [e0] at e
  cases e
  unfold SeqAt.shaped
  simp [a]
  omega
theorem oEq_lay {a b : D} (ha : lay a = true) (hb : lay b = true) (h1 : deepD a ≤ 64) (h2 : deepD b ≤ 64) : oEq a b = some (.bl (deq a b)) := by
  obtain ⟨p, e1, c1, _⟩ := toPy_lay ha
  obtain ⟨q, e2, c2, _⟩ := toPy_lay hb
  unfold oEq
  rw [e1, e2]
  dsimp only
  rw [if_pos ⟨(shaped_lay ha h1 e1).1, (shaped_lay hb h2 e2).1⟩, eqv_deq e1 e2 c1 c2]
theorem oNe_lay {a b : D} (ha : lay a = true) (hb : lay b = true) (h1 : deepD a ≤ 64) (h2 : deepD b ≤ 64) : oNe a b = some (.bl (!deq a b)) := by
  obtain ⟨p, e1, c1, _⟩ := toPy_lay ha
  obtain ⟨q, e2, c2, _⟩ := toPy_lay hb
  unfold oNe
  rw [e1, e2]
  dsimp only
  rw [if_pos ⟨(shaped_lay ha h1 e1).1, (shaped_lay hb h2 e2).1⟩, eqv_deq e1 e2 c1 c2]
end VL
end

section
set_option linter.all false
/-! VM: arithmetic: primes, powers, sizes. -/
namespace VM
def Prime (p : Nat) : Prop := 2 ≤ p ∧ ∀ d, d ∣ p → d = 1 ∨ d = p
theorem Prime.coprime {p a : Nat} (h : Prime p) (n : ¬ p ∣ a) : Nat.Coprime p a := by
  have h1 := h.2 _ (Nat.gcd_dvd_left p a)
  rcases h1 with e | e
  · exact e
  · exact absurd (e ▸ Nat.gcd_dvd_right p a) n
theorem Prime.mul {p a b : Nat} (h : Prime p) (d : p ∣ a * b) : p ∣ a ∨ p ∣ b := by
  by_cases n : p ∣ a
  · exact .inl n
  · exact .inr ((h.coprime n).dvd_of_dvd_mul_left d)
theorem Prime.pow {p a : Nat} (h : Prime p) : ∀ {k : Nat}, p ∣ a ^ k → p ∣ a
  | 0, d => by
    rw [Nat.pow_zero] at d
    have := Nat.le_of_dvd (by decide) d
    have := h.1
    omega
  | k + 1, d => by
    rw [Nat.pow_succ] at d
    rcases h.mul d with e | e
    · exact h.pow e
    · exact e
/-- by trial up to the root -/
theorem prime_of {p r : Nat} (h2 : 2 ≤ p) (hr : p < r * r) (h : ∀ d, 2 ≤ d → d < r → p % d ≠ 0) : Prime p := by
  refine ⟨h2, fun d hd => ?_⟩
  obtain ⟨e, rfl⟩ := hd
  have hd0 : d ≠ 0 := fun z => by subst z; omega
  have he0 : e ≠ 0 := fun z => by subst z; omega
  by_cases h1 : d = 1
  · exact .inl h1
  by_cases h3 : e = 1
  · exact .inr (by rw [h3]; omega)
  exfalso
  by_cases hdr : d < r
  · exact h d (by omega) hdr (Nat.mul_mod_right d e)
  · by_cases her : e < r
    · exact h e (by omega) her (Nat.mul_mod_left d e)
    · have : r * r ≤ d * e := Nat.mul_le_mul (by omega) (by omega)
      omega
def trial : Nat → Nat → Nat → Bool
  | 0, _, _ => true
  | n + 1, d, p => p % d != 0 && trial n (d + 1) p
theorem trial_ok : ∀ {n d p : Nat}, trial n d p = true → ∀ c, d ≤ c → c < d + n → p % c ≠ 0
  | 0, d, p, _, c, h1, h2 => by omega
  | n + 1, d, p, h, c, h1, h2 => by
    simp only [trial, Bool.and_eq_true, bne_iff_ne, ne_eq] at h
    by_cases e : c = d
    · rw [e]; exact h.1
    · exact trial_ok h.2 c (by omega) (by omega)
theorem prime2 : Prime 2 := prime_of (r := 2) (by decide) (by decide) fun d h1 h2 => by omega
theorem prime3 : Prime 3 := prime_of (r := 2) (by decide) (by decide) fun d h1 h2 => by omega
theorem prime5 : Prime 5 := prime_of (r := 3) (by decide) (by decide) fun d h1 h2 => by
  have : d = 2 := by omega
  subst this; decide
/-- p times a power is no power -/
theorem no_root {p : Nat} (h : Prime p) {k : Nat} (hk : 2 ≤ k) : ∀ x r : Nat, x ≠ 0 → p * x ^ k ≠ r ^ k := by
  intro x
  induction x using Nat.strongRecOn with
  | ind x ih =>
  intro r hx e
  have hp := h.1
  have h1 : p ∣ r := h.pow (k := k) (e ▸ Nat.dvd_mul_right p _)
  obtain ⟨s, rfl⟩ := h1
  obtain ⟨j, rfl⟩ : ∃ j, k = j + 1 := ⟨k - 1, by omega⟩
  rw [Nat.mul_pow, Nat.pow_succ p j, Nat.mul_comm (p ^ j) p, Nat.mul_assoc] at e
  have e2 : x ^ (j + 1) = p ^ j * s ^ (j + 1) := Nat.eq_of_mul_eq_mul_left (by omega) e
  have h2 : p ∣ x := h.pow (k := j + 1) (by
    rw [e2]
    obtain ⟨i, rfl⟩ : ∃ i, j = i + 1 := ⟨j - 1, by omega⟩
    rw [Nat.pow_succ, Nat.mul_comm (p ^ i) p, Nat.mul_assoc]
    exact Nat.dvd_mul_right _ _)
  obtain ⟨y, rfl⟩ := h2
  have hy : y ≠ 0 := fun z => hx (by rw [z, Nat.mul_zero])
  refine ih y ?_ s hy ?_
  · have : 2 * y ≤ p * y := Nat.mul_le_mul_right y hp
    omega
  · rw [Nat.mul_pow, Nat.pow_succ p j, Nat.mul_assoc] at e2
    exact Nat.eq_of_mul_eq_mul_left (Nat.pow_pos (by omega)) e2
theorem pow_inj {a b k : Nat} (hk : k ≠ 0) (e : a ^ k = b ^ k) : a = b := by
  rcases Nat.lt_trichotomy a b with h | h | h
  · have := Nat.pow_lt_pow_left h hk; omega
  · exact h
  · have := Nat.pow_lt_pow_left h hk; omega
/-- no power strictly between two neighbours -/
theorem no_between {n k a : Nat} (hk : k ≠ 0) (h1 : a ^ k < n) (h2 : n < (a + 1) ^ k) : ∀ r, r ^ k ≠ n := fun r e => by
  subst e
  by_cases h : r ≤ a
  · have := Nat.pow_le_pow_left h k; omega
  · have := Nat.pow_le_pow_left (show a + 1 ≤ r by omega) k; omega
theorem pow_mono {a b : Nat} (ha : 1 ≤ a) (h : b ≤ c) : a ^ b ≤ a ^ c := Nat.pow_le_pow_right ha h
theorem lt_pow2 {a b m n : Nat} (ha : a < 2 ^ m) (hb : b < 2 ^ n) : a * b < 2 ^ (m + n) := by
  rw [Nat.pow_add]
  rcases Nat.eq_zero_or_pos b with z | z
  · subst z; rw [Nat.mul_zero]; exact Nat.mul_pos (Nat.pow_pos (by decide)) (Nat.pow_pos (by decide))
  · exact Nat.lt_of_lt_of_le (Nat.mul_lt_mul_of_pos_right ha z) (Nat.mul_le_mul_left _ (Nat.le_of_lt hb))
theorem pow_lt_pow2 {a m : Nat} (ha : a < 2 ^ m) (n : Nat) (hn : n ≠ 0) : a ^ n < 2 ^ (m * n) := by
  rw [Nat.pow_mul]
  exact Nat.pow_lt_pow_left ha hn
theorem lt_2pow_log (n : Nat) : n < 2 ^ (n.log2 + 1) := Nat.lt_log2_self
end VM
end

section
set_option Elab.async false
set_option linter.all false
set_option maxRecDepth 100000
set_option maxHeartbeats 4000000
/-! VB: sizes of ints. -/
namespace VL
open PySem L2
abbrev bits (i : Int) : Nat := Builtin.Int.intBits i
theorem bits_le {i : Int} {a : Nat} (h : i.natAbs < 2 ^ a) : bits i ≤ a := bits_lt h
theorem bits_iff {i : Int} {a : Nat} : bits i ≤ a ↔ i.natAbs < 2 ^ a := ⟨fun h => Nat.lt_of_lt_of_le lt_bits (Nat.pow_le_pow_right (by decide) h), bits_le⟩
theorem bits_mono {i j : Int} (h : i.natAbs ≤ j.natAbs) : bits i ≤ bits j := bits_le (Nat.lt_of_le_of_lt h lt_bits)
theorem bits_add {i j : Int} {m n : Nat} (hi : bits i ≤ m) (hj : bits j ≤ n) : bits (i + j) ≤ max m n + 1 := by
  refine bits_le ?_
  have h1 := Nat.lt_of_lt_of_le (bits_iff.mp hi) (Nat.pow_le_pow_right (n := 2) (by decide) (Nat.le_max_left m n))
  have h2 := Nat.lt_of_lt_of_le (bits_iff.mp hj) (Nat.pow_le_pow_right (n := 2) (by decide) (Nat.le_max_right m n))
  rw [Nat.pow_succ]
  have := Int.natAbs_add_le i j
  omega
theorem bits_neg {i : Int} : bits (-i) = bits i := Nat.le_antisymm (bits_mono (by rw [Int.natAbs_neg]; exact Nat.le_refl _)) (bits_mono (by rw [Int.natAbs_neg]; exact Nat.le_refl _))
theorem bits_sub {i j : Int} {m n : Nat} (hi : bits i ≤ m) (hj : bits j ≤ n) : bits (i - j) ≤ max m n + 1 := by
  rw [Int.sub_eq_add_neg]
  exact bits_add hi (by rw [bits_neg]; exact hj)
theorem bits_mul {i j : Int} {m n : Nat} (hi : bits i ≤ m) (hj : bits j ≤ n) : bits (i * j) ≤ m + n := by
  refine bits_le ?_
  rw [Int.natAbs_mul]
  exact VM.lt_pow2 (bits_iff.mp hi) (bits_iff.mp hj)
theorem bits_pow {i : Int} {m : Nat} (hi : bits i ≤ m) {n : Nat} (hn : n ≠ 0) : bits (i ^ n) ≤ m * n := by
  refine bits_le ?_
  rw [Int.natAbs_pow]
  exact VM.pow_lt_pow2 (bits_iff.mp hi) n hn
theorem bits_abs {i : Int} {m : Nat} (hi : bits i ≤ m) : bits (if i < 0 then -i else i) ≤ m := by
  split
  · rw [bits_neg]; exact hi
  · exact hi
theorem bits_natAbs {i : Int} {m : Nat} (hi : bits i ≤ m) : bits (i.natAbs : Int) ≤ m := Nat.le_trans (bits_mono (by rw [Int.natAbs_natCast]; exact Nat.le_refl _)) hi
theorem mulOk_bits {i j : Int} {m n : Nat} (hi : bits i ≤ m) (hj : bits j ≤ n) (h : m + n ≤ 134217728) : mulOk i j = true := by
  unfold mulOk
  have hi : Builtin.Int.intBits i ≤ m := hi
  have hj : Builtin.Int.intBits j ≤ n := hj
  exact decide_eq_true (by omega)
theorem bits_lit {i : Int} {a : Nat} (h : decide (i.natAbs < 2 ^ a) = true) : bits i ≤ a := bits_le (of_decide_eq_true h)
theorem log2_of_bits {i : Int} {a : Nat} (h : bits i ≤ a) : i.natAbs.log2 ≤ a := by
  by_cases h0 : i.natAbs = 0
  · rw [h0]; exact Nat.zero_le _
  · have := (Nat.log2_lt h0).mpr (bits_iff.mp h)
    omega
theorem emod_natAbs {a b : Int} (h : 0 < b) : (a % b).natAbs < b.natAbs := by
  have h1 := Int.emod_nonneg a (show b ≠ 0 by omega)
  have h2 := Int.emod_lt_of_pos a h
  omega
theorem bits_mod {a b : Int} {m : Nat} (h : 0 < b) (hb : bits b ≤ m) : bits (a % b) ≤ m := bits_le (Nat.lt_trans (emod_natAbs h) (bits_iff.mp hb))
theorem bits_div {a b : Int} {m : Nat} (h : 0 < b) (ha : bits a ≤ m) : bits (a / b) ≤ m := by
  refine Nat.le_trans (bits_mono (j := a) ?_) ha
  by_cases h0 : a < 0
  · have h1 : a ≤ a / b := by
      refine (Int.le_ediv_iff_mul_le h).mpr ?_
      have : a * b ≤ a * 1 := Int.mul_le_mul_of_nonpos_left (by omega) (by omega)
      omega
    have h2 : a / b < 0 := Int.ediv_neg_of_neg_of_pos h0 h
    omega
  · have h1 := Int.ediv_le_self b (show 0 ≤ a by omega)
    have h2 := Int.ediv_nonneg (show 0 ≤ a by omega) (show 0 ≤ b by omega)
    omega
theorem bits_small {i : Int} (h1 : -18446744073709551616 < i) (h2 : i < 18446744073709551616) : bits i ≤ 64 := bits_le (by omega)
/-- the mixing of a draw stays small -/
theorem mix_small {m t B C E : Int} (m0 : 0 ≤ m) (m1 : m ≤ 2147483647) (t0 : 0 ≤ t) (t1 : t ≤ 1000000) (B0 : 0 ≤ B) (B1 : B ≤ 1000000) (C0 : 0 ≤ C) (C1 : C ≤ 1000000) (E0 : 0 ≤ E) (E1 : E ≤ 1000000) :
    (m * (2 * t + B) + C * t * t + E).natAbs < 18446744073709551616 := by
  have h1 : m * (2 * t + B) ≤ 2147483647 * 3000000 := Int.mul_le_mul m1 (by omega) (by omega) (by decide)
  have h2 : C * t ≤ 1000000 * 1000000 := Int.mul_le_mul C1 t1 t0 (by decide)
  have h2' : 0 ≤ C * t := Int.mul_nonneg C0 t0
  have h3 : C * t * t ≤ (1000000 * 1000000) * 1000000 := Int.mul_le_mul h2 t1 t0 (by decide)
  have h4 : 0 ≤ m * (2 * t + B) := Int.mul_nonneg m0 (by omega)
  have h5 : 0 ≤ C * t * t := Int.mul_nonneg h2' t0
  omega

section
variable [LamN]
theorem rngD_nil {lo hi : Int} (h : hi ≤ lo) : rngD lo hi = [] := by
  unfold rngD
  have : (hi - lo).toNat = 0 := by omega
  rw [this]
  rfl
theorem rngD_cons {lo hi : Int} (h : lo < hi) : rngD lo hi = .int lo :: rngD (lo + 1) hi := by
  unfold rngD
  obtain ⟨n, hn⟩ : ∃ n : Nat, (hi - lo).toNat = n + 1 := ⟨(hi - lo).toNat - 1, by omega⟩
  have h2 : (hi - (lo + 1)).toNat = n := by omega
  rw [hn, h2, List.range_succ_eq_map, List.map_cons, List.map_map]
  congr 1
  · simp
  · apply List.map_congr_left
    intro a _
    simp only [Function.comp]
    congr 1
    omega
/-- for over a range -/
theorem range_inv {ε : VL.Env} {g : SF} {P : R → Prop} {tg : D → VL.Env → Option VL.Env} {lo hi : Int} (I : Int → VL.Env → Prop) (h : lo ≤ hi) (h0 : I lo ε) (fin : ∀ ε, I hi ε → P (.nx ε))
    (turn : ∀ i ε, lo ≤ i → i < hi → I i ε → Gt (tg (.int i) ε) fun ε1 => Rn g ε1 (againR (I (i + 1)) P .mk)) : Rn (forD tg g (rngD lo hi)) ε P := by
  refine for_inv (fun ds ε => ∃ i, lo ≤ i ∧ i ≤ hi ∧ ds = rngD i hi ∧ I i ε) ⟨lo, Int.le_refl _, h, rfl, h0⟩ ?_ ?_
  · rintro ε ⟨i, h1, h2, h3, h4⟩
    by_cases e : i = hi
    · subst e; exact fin _ h4
    · rw [rngD_cons (by omega)] at h3; cases h3
  · rintro d ds ε ⟨i, h1, h2, h3, h4⟩
    by_cases e : i = hi
    · rw [e, rngD_nil (Int.le_refl _)] at h3; cases h3
    · rw [rngD_cons (by omega)] at h3
      cases h3
      obtain ⟨ε1, e1, r, e2, p⟩ := turn i ε h1 (by omega) h4
      refine ⟨ε1, e1, r, e2, ?_⟩
      cases r with
      | nx ε2 => exact ⟨i + 1, by omega, by omega, rfl, p⟩
      | ct ε2 => exact ⟨i + 1, by omega, by omega, rfl, p⟩
      | bk ε2 => exact p
      | rt d ε2 => exact p
      | ex x ε2 => exact p
theorem bBits_int {i : Int} : bBits (.int i) = some (.int (bits i : Nat)) := rfl
def isInt : D → Bool
  | .int _ => true
  | _ => false
def isRow : D → Bool
  | .lst _ => true
  | .tup _ => true
  | _ => false
/-- of a kind whose type is known -/
def kind : D → Bool
  | .non => true
  | .bl _ => true
  | .int _ => true
  | .str _ => true
  | .lst _ => true
  | .tup _ => true
  | .dic _ => true
  | _ => false
end
section
variable [LamN]
/-- isinstance(d, int) -/
def is_int : D → Bool
  | .bl _ => true
  | .int _ => true
  | _ => false
/-- isinstance(d, bool) -/
def is_bool : D → Bool
  | .bl _ => true
  | _ => false
/-- isinstance(d, str) -/
def is_str : D → Bool
  | .str _ => true
  | _ => false
/-- isinstance(d, list) -/
def is_list : D → Bool
  | .lst _ => true
  | _ => false
/-- isinstance(d, tuple) -/
def is_tuple : D → Bool
  | .tup _ => true
  | _ => false
/-- isinstance(d, dict) -/
def is_dict : D → Bool
  | .dic _ => true
  | _ => false
theorem kit_NoneType_int : kitB "NoneType" "int" = some false := by decide +kernel
theorem kit_NoneType_bool : kitB "NoneType" "bool" = some false := by decide +kernel
theorem kit_NoneType_str : kitB "NoneType" "str" = some false := by decide +kernel
theorem kit_NoneType_list : kitB "NoneType" "list" = some false := by decide +kernel
theorem kit_NoneType_tuple : kitB "NoneType" "tuple" = some false := by decide +kernel
theorem kit_NoneType_dict : kitB "NoneType" "dict" = some false := by decide +kernel
theorem kit_bool_int : kitB "bool" "int" = some true := by decide +kernel
theorem kit_bool_bool : kitB "bool" "bool" = some true := by decide +kernel
theorem kit_bool_str : kitB "bool" "str" = some false := by decide +kernel
theorem kit_bool_list : kitB "bool" "list" = some false := by decide +kernel
theorem kit_bool_tuple : kitB "bool" "tuple" = some false := by decide +kernel
theorem kit_bool_dict : kitB "bool" "dict" = some false := by decide +kernel
theorem kit_int_int : kitB "int" "int" = some true := by decide +kernel
theorem kit_int_bool : kitB "int" "bool" = some false := by decide +kernel
theorem kit_int_str : kitB "int" "str" = some false := by decide +kernel
theorem kit_int_list : kitB "int" "list" = some false := by decide +kernel
theorem kit_int_tuple : kitB "int" "tuple" = some false := by decide +kernel
theorem kit_int_dict : kitB "int" "dict" = some false := by decide +kernel
theorem kit_str_int : kitB "str" "int" = some false := by decide +kernel
theorem kit_str_bool : kitB "str" "bool" = some false := by decide +kernel
theorem kit_str_str : kitB "str" "str" = some true := by decide +kernel
theorem kit_str_list : kitB "str" "list" = some false := by decide +kernel
theorem kit_str_tuple : kitB "str" "tuple" = some false := by decide +kernel
theorem kit_str_dict : kitB "str" "dict" = some false := by decide +kernel
theorem kit_list_int : kitB "list" "int" = some false := by decide +kernel
theorem kit_list_bool : kitB "list" "bool" = some false := by decide +kernel
theorem kit_list_str : kitB "list" "str" = some false := by decide +kernel
theorem kit_list_list : kitB "list" "list" = some true := by decide +kernel
theorem kit_list_tuple : kitB "list" "tuple" = some false := by decide +kernel
theorem kit_list_dict : kitB "list" "dict" = some false := by decide +kernel
theorem kit_tuple_int : kitB "tuple" "int" = some false := by decide +kernel
theorem kit_tuple_bool : kitB "tuple" "bool" = some false := by decide +kernel
theorem kit_tuple_str : kitB "tuple" "str" = some false := by decide +kernel
theorem kit_tuple_list : kitB "tuple" "list" = some false := by decide +kernel
theorem kit_tuple_tuple : kitB "tuple" "tuple" = some true := by decide +kernel
theorem kit_tuple_dict : kitB "tuple" "dict" = some false := by decide +kernel
theorem kit_dict_int : kitB "dict" "int" = some false := by decide +kernel
theorem kit_dict_bool : kitB "dict" "bool" = some false := by decide +kernel
theorem kit_dict_str : kitB "dict" "str" = some false := by decide +kernel
theorem kit_dict_list : kitB "dict" "list" = some false := by decide +kernel
theorem kit_dict_tuple : kitB "dict" "tuple" = some false := by decide +kernel
theorem kit_dict_dict : kitB "dict" "dict" = some true := by decide +kernel
theorem isi_int {d : D} (h : kind d = true) : bIsi1 [d, .opq (.ty "int")] = some (.bl (is_int d)) := by
  cases d <;> first | (exact absurd h Bool.false_ne_true) | skip
  case non => simp only [bIsi1, tyN, Option.bind_some, kit_NoneType_int, Option.map_some]; rfl
  case bl => simp only [bIsi1, tyN, Option.bind_some, kit_bool_int, Option.map_some]; rfl
  case int => simp only [bIsi1, tyN, Option.bind_some, kit_int_int, Option.map_some]; rfl
  case str => simp only [bIsi1, tyN, Option.bind_some, kit_str_int, Option.map_some]; rfl
  case lst => simp only [bIsi1, tyN, Option.bind_some, kit_list_int, Option.map_some]; rfl
  case tup => simp only [bIsi1, tyN, Option.bind_some, kit_tuple_int, Option.map_some]; rfl
  case dic => simp only [bIsi1, tyN, Option.bind_some, kit_dict_int, Option.map_some]; rfl
theorem isi_bool {d : D} (h : kind d = true) : bIsi1 [d, .opq (.ty "bool")] = some (.bl (is_bool d)) := by
  cases d <;> first | (exact absurd h Bool.false_ne_true) | skip
  case non => simp only [bIsi1, tyN, Option.bind_some, kit_NoneType_bool, Option.map_some]; rfl
  case bl => simp only [bIsi1, tyN, Option.bind_some, kit_bool_bool, Option.map_some]; rfl
  case int => simp only [bIsi1, tyN, Option.bind_some, kit_int_bool, Option.map_some]; rfl
  case str => simp only [bIsi1, tyN, Option.bind_some, kit_str_bool, Option.map_some]; rfl
  case lst => simp only [bIsi1, tyN, Option.bind_some, kit_list_bool, Option.map_some]; rfl
  case tup => simp only [bIsi1, tyN, Option.bind_some, kit_tuple_bool, Option.map_some]; rfl
  case dic => simp only [bIsi1, tyN, Option.bind_some, kit_dict_bool, Option.map_some]; rfl
theorem isi_str {d : D} (h : kind d = true) : bIsi1 [d, .opq (.ty "str")] = some (.bl (is_str d)) := by
  cases d <;> first | (exact absurd h Bool.false_ne_true) | skip
  case non => simp only [bIsi1, tyN, Option.bind_some, kit_NoneType_str, Option.map_some]; rfl
  case bl => simp only [bIsi1, tyN, Option.bind_some, kit_bool_str, Option.map_some]; rfl
  case int => simp only [bIsi1, tyN, Option.bind_some, kit_int_str, Option.map_some]; rfl
  case str => simp only [bIsi1, tyN, Option.bind_some, kit_str_str, Option.map_some]; rfl
  case lst => simp only [bIsi1, tyN, Option.bind_some, kit_list_str, Option.map_some]; rfl
  case tup => simp only [bIsi1, tyN, Option.bind_some, kit_tuple_str, Option.map_some]; rfl
  case dic => simp only [bIsi1, tyN, Option.bind_some, kit_dict_str, Option.map_some]; rfl
theorem isi_list {d : D} (h : kind d = true) : bIsi1 [d, .opq (.ty "list")] = some (.bl (is_list d)) := by
  cases d <;> first | (exact absurd h Bool.false_ne_true) | skip
  case non => simp only [bIsi1, tyN, Option.bind_some, kit_NoneType_list, Option.map_some]; rfl
  case bl => simp only [bIsi1, tyN, Option.bind_some, kit_bool_list, Option.map_some]; rfl
  case int => simp only [bIsi1, tyN, Option.bind_some, kit_int_list, Option.map_some]; rfl
  case str => simp only [bIsi1, tyN, Option.bind_some, kit_str_list, Option.map_some]; rfl
  case lst => simp only [bIsi1, tyN, Option.bind_some, kit_list_list, Option.map_some]; rfl
  case tup => simp only [bIsi1, tyN, Option.bind_some, kit_tuple_list, Option.map_some]; rfl
  case dic => simp only [bIsi1, tyN, Option.bind_some, kit_dict_list, Option.map_some]; rfl
theorem isi_tuple {d : D} (h : kind d = true) : bIsi1 [d, .opq (.ty "tuple")] = some (.bl (is_tuple d)) := by
  cases d <;> first | (exact absurd h Bool.false_ne_true) | skip
  case non => simp only [bIsi1, tyN, Option.bind_some, kit_NoneType_tuple, Option.map_some]; rfl
  case bl => simp only [bIsi1, tyN, Option.bind_some, kit_bool_tuple, Option.map_some]; rfl
  case int => simp only [bIsi1, tyN, Option.bind_some, kit_int_tuple, Option.map_some]; rfl
  case str => simp only [bIsi1, tyN, Option.bind_some, kit_str_tuple, Option.map_some]; rfl
  case lst => simp only [bIsi1, tyN, Option.bind_some, kit_list_tuple, Option.map_some]; rfl
  case tup => simp only [bIsi1, tyN, Option.bind_some, kit_tuple_tuple, Option.map_some]; rfl
  case dic => simp only [bIsi1, tyN, Option.bind_some, kit_dict_tuple, Option.map_some]; rfl
theorem isi_dict {d : D} (h : kind d = true) : bIsi1 [d, .opq (.ty "dict")] = some (.bl (is_dict d)) := by
  cases d <;> first | (exact absurd h Bool.false_ne_true) | skip
  case non => simp only [bIsi1, tyN, Option.bind_some, kit_NoneType_dict, Option.map_some]; rfl
  case bl => simp only [bIsi1, tyN, Option.bind_some, kit_bool_dict, Option.map_some]; rfl
  case int => simp only [bIsi1, tyN, Option.bind_some, kit_int_dict, Option.map_some]; rfl
  case str => simp only [bIsi1, tyN, Option.bind_some, kit_str_dict, Option.map_some]; rfl
  case lst => simp only [bIsi1, tyN, Option.bind_some, kit_list_dict, Option.map_some]; rfl
  case tup => simp only [bIsi1, tyN, Option.bind_some, kit_tuple_dict, Option.map_some]; rfl
  case dic => simp only [bIsi1, tyN, Option.bind_some, kit_dict_dict, Option.map_some]; rfl
theorem isiT_row {d : D} (h : kind d = true) {S : String} (e : tyN d = some S) : kitL S ["list", "tuple"] = some (isRow d) := by
  cases d <;> first | (exact absurd h Bool.false_ne_true) | (cases e; skip)
  case non => simp only [kitL, kit_NoneType_list, kit_NoneType_tuple]; rfl
  case bl => simp only [kitL, kit_bool_list, kit_bool_tuple]; rfl
  case int => simp only [kitL, kit_int_list, kit_int_tuple]; rfl
  case str => simp only [kitL, kit_str_list, kit_str_tuple]; rfl
  case lst => simp only [kitL, kit_list_list, kit_list_tuple]; rfl
  case tup => simp only [kitL, kit_tuple_list, kit_tuple_tuple]; rfl
  case dic => simp only [kitL, kit_dict_list, kit_dict_tuple]; rfl
theorem tyN_kind {d : D} (h : kind d = true) : ∃ S, tyN d = some S ∧ kitL S ["list", "tuple"] = some (isRow d) := by
  cases d <;> first | (exact absurd h Bool.false_ne_true) | exact ⟨_, rfl, isiT_row h rfl⟩
end
section
variable [LamN]
theorem gx_ok {o : Option Rs} {d : D} (h : GX o (· = d) (fun _ => False)) : o = some (.ok d) := by
  obtain ⟨r, e, p⟩ := h
  cases r with
  | ok d' => rw [e]; exact congrArg (fun d => some (Except.ok d)) p
  | error x => exact p.elim
theorem gx_error {o : Option Rs} {x : Exn} (h : GX o (fun _ => False) (· = x)) : o = some (.error x) := by
  obtain ⟨r, e, p⟩ := h
  cases r with
  | ok d' => exact p.elim
  | error y => rw [e]; exact congrArg (fun d => some (Except.error d)) p
end
section
variable [LamN]
theorem getF_1 {f : Str} {d : D} : getF [d] [(f, 1)] [] = some [(f, d)] := rfl
end
theorem tame_pair {a b : Int} {m : Nat} (hm : m < 1920) (ha : bits a ≤ m) (hb : bits b ≤ m) : tame (.tup [.int a, .int b]) = true ∧ deepD (.tup [.int a, .int b]) ≤ 64 ∧ wide (.tup [.int a, .int b]) ≤ 16777216 := by
  have h1 := log2_of_bits ha
  have h2 := log2_of_bits hb
  refine ⟨?_, ?_, ?_⟩
  · simp [tame, tameL]; omega
  · simp [deepD, deepL]
  · simp [wide, wideL]
section
variable [LamN]
theorem cutD_take {xs : List D} {k : Nat} : cutD xs none (some (k : Int)) = xs.take k := by
  unfold cutD
  rw [show HT.sIx xs.length 0 none = 0 from rfl, List.drop_zero, HT.sIx_nat, Nat.sub_zero]
  by_cases h : k ≤ xs.length
  · rw [Nat.min_eq_left h]
  · rw [Nat.min_eq_right (by omega), List.take_of_length_le (Nat.le_refl _), List.take_of_length_le (by omega)]
theorem numI_map {p : List Int} : ∀ {k : Nat}, numI k (p.map D.int) = (p.zipIdx k).map fun x => D.tup [.int (x.2 : Nat), .int x.1] := by
  induction p with
  | nil => intro k; rfl
  | cons a p ih => intro k; show _ :: numI (k + 1) (p.map D.int) = _; rw [ih]; rfl
theorem cutD_le {xs : List D} {k : Nat} (h : xs.length ≤ k) : cutD xs none (some (k : Int)) = xs := by
  refine cutD_whole ⟨?_, ?_⟩
  · rfl
  · rw [HT.sIx_nat]; omega
end
end VL
end

section
set_option Elab.async false
set_option linter.all false
set_option maxRecDepth 100000
set_option maxHeartbeats 4000000
/-! VXK: own exceptions made by a call with keywords, at the machine's level. -/
namespace PySem
namespace VXK
open PySem PySem.HandSPX Builtin Builtin.ObjectAttr
section
variable {M : Model} {A : Around} {E : Value → Shared → Prop} {h : Heap} {g : Array GenState} {d : Drawn} {t : Nat} {os : OsState} {kw : List (Str × Value)}
variable {nm q : Str} {C N : Addr} {bs bm bmB : List Value} {hdct : Bool} {sn : List Str} {sub : List Value} {ab : Bool} {col : Option Bool} {dd : Option Addr} {k0 k1 k2 k3 k5 : Option Value} {B newId initId : String}
theorem chk_new (F : ExcBaseFacts B newId initId bmB) (hT : ∀ X : String, bm.contains (.type X) = bmB.contains (.type X)) {rest : List Value} {Q : Unit → Shared → Prop} (hC : h.get? C = some (excClassObj nm q C N bs bm hdct sn sub ab col dd k0 k1 k2 k3 k5 newId)) (hq : Q () ⟨h, g, d, t, os⟩) :
    wpAny M A (checkBuiltinCall newId ⟨.ref C :: rest, kw⟩) Q E ⟨h, g, d, t, os⟩ := by
  have cB : (Value.ref C :: bm).contains (.type B) = true := by rw [List.contains_cons, hT, F.hasB, Bool.or_true]
  have nS := F.noStar
  simp only [checkBuiltinCall, F.newKind, F.newSplit, F.newRow]
  repeat (first | refine wpAny_loadPart_at hC ?_ | (refine wpAny_isSubtype_exc hC ?_; rw [cB]) | refine wpAny_staticBase_exc hC ?_ | refine wpAny_madeBy_exc hC ?_ | simp only [bne_self_eq_false, Bool.false_eq_true, if_false] | wp_step)
  exact hq
end
section
variable {prog : Program} {w : World} {A : Around} {E : Value → Shared → Prop} {R : Result → Shared → Prop} {h : Heap} {g : Array GenState} {d : Drawn} {t : Nat} {os : OsState} {kw : List (Str × Value)}
variable {nm q : Str} {C N : Addr} {bs bm bmB : List Value} {hdct : Bool} {sn : List Str} {sub : List Value} {ab : Bool} {col : Option Bool} {dd : Option Addr} {k0 k1 k2 k3 k5 : Option Value} {B newId initId : String}
theorem new_kw (F : ExcBaseFacts B newId initId bmB) (hT : ∀ X : String, bm.contains (.type X) = bmB.contains (.type X)) {rest : List Value} (hC : h.get? C = some (excClassObj nm q C N bs bm hdct sn sub ab col dd k0 k1 k2 k3 k5 newId)) (hrest : rest.length ≤ sizeLine)
    (hq : R (.ok (.ret (.ref (h.objs.size + 1)))) ⟨(h.push { cls := .type "tuple", data := .seq rest.toArray }).push (excO C h.objs.size), g, d, t, os⟩) : codeAny (model prog w) A (.builtin newId ⟨.ref C :: rest, kw⟩) R ⟨h, g, d, t, os⟩ := by
  have en := F.ends
  have cB : (Value.ref C :: bm).contains (.type B) = true := by rw [List.contains_cons, hT, F.hasB, Bool.or_true]
  have cA : (Value.ref C :: bm).contains (.type "AttributeError") = false := by rw [List.contains_cons, hT, F.noAttr]; rfl
  have cN : (Value.ref C :: bm).contains (.type "NameError") = false := by rw [List.contains_cons, hT, F.noName]; rfl
  refine codeAny_builtinAt F.entry ?_
  unfold Builtin.«BaseException.__new__»
  refine wpAt_bind ?_
  show wpAt _ _ _ (stack >>= _) _ _ _
  refine wpAt_bind (wpAt_stack fun p below => wpAt_of_wpAny ?_)
  wp_walk
  refine wpAt_of_wpAny ?_
  rw [F.owner]
  repeat (first | with_reducible refine wpAny_madeHere_exc F.canon hC ?_ | with_reducible refine wpAny_loadPart_at hC ?_ | (with_reducible refine wpAny_isSubtype_exc hC ?_; first | rw [cB] | rw [cA] | rw [cN]) | wp_step)
  show R _ _
  rw [Heap.size_push]
  exact hq
theorem type_call_kw (F : ExcBaseFacts B newId initId bmB) (hT : ∀ X : String, bm.contains (.type X) = bmB.contains (.type X)) {rest : List Value} {fI : Addr} {Q : Fin → Shared → Prop} (hC : h.get? C = some (excClassObj nm q C N bs bm hdct sn sub ab col dd k0 k1 k2 k3 k5 newId))
    (hi : W.Looks (model prog w) h (typeLookup (.ref C) "__init__") (some (.ref fI))) (hb : ∀ self, W.Looks (model prog w) h (bindSpecial (.ref fI) self) (.ref fI, [self])) (hrest : rest.length ≤ sizeLine)
    (hq : codeAny (model prog w) A (.call (.ref fI) ⟨.ref (h.objs.size + 1) :: rest, kw⟩) (fun r s' => match r with | .ok (.ret v) => v = .none ∧ Q (.done (.ret (.ref (h.objs.size + 1)))) s' | .ok _ => False | .error e => E e s') ⟨(h.push (W.kdv_tup rest)).push (excO C h.objs.size), g, d, t, os⟩) :
    wpAny (model prog w) A (Builtin.«type.__call__» ⟨.ref C :: rest, kw⟩) Q E ⟨h, g, d, t, os⟩ := by
  repeat (first | with_reducible refine wpAny_loadPart_at hC ?_ | with_reducible refine wpAny_madeBy_exc hC ?_ | wp_step)
  refine codeAny_call_builtin_code (Code.quiet_builtin _ F.quiet) (chk_new F hT hC ?_)
  refine new_kw F hT hC hrest ?_
  show wpAny _ _ _ _ _ _
  have k : ∀ b o, h.get? b = some o → ((h.push (W.kdv_tup rest)).push (excO C h.objs.size)).get? b = some o := fun b o e => Heap.get?_push_of_some _ (Heap.get?_push_of_some _ e)
  have hC1 := k _ _ hC
  have gt : ((h.push (W.kdv_tup rest)).push (excO C h.objs.size)).get? (h.objs.size + 1) = some (excO C h.objs.size) := by heap_get
  have cc : (Value.ref C :: bm).contains (.ref C) = true := by simp
  have i1 := hi.keeps k
  have b1 := (hb (.ref (h.objs.size + 1))).keeps k
  unfold isInstance
  repeat (first | with_reducible refine wpAny_loadPart_at gt ?_ | (with_reducible refine wpAny_isSubtype_exc hC1 ?_; rw [cc]) | wp_step)
  show wpAny _ _ (typeLookup (.ref C) _) _ _ _
  refine i1.at ?_
  refine wpAny_holding (wpAny_bind (b1.at ?_))
  refine wpAny_bind (wpAny_call (codeAny_mono hq fun r s' z => ?_))
  rcases r with e | (v | _ | _ | _) <;> first | exact z | exact z.elim | skip
  obtain ⟨rfl, z⟩ := z
  first
    | exact wpAny_pure (wpAny_pure z)
    | (wp_walk; exact z)
theorem call_kw (F : ExcBaseFacts B newId initId bmB) (hT : ∀ X : String, bm.contains (.type X) = bmB.contains (.type X)) {rest : List Value} {fI : Addr} (hC : h.get? C = some (excClassObj nm q C N bs bm hdct sn sub ab col dd k0 k1 k2 k3 k5 newId))
    (hi : W.Looks (model prog w) h (typeLookup (.ref C) "__init__") (some (.ref fI))) (hb : ∀ self, W.Looks (model prog w) h (bindSpecial (.ref fI) self) (.ref fI, [self])) (hrest : rest.length ≤ sizeLine)
    (hq : codeAny (model prog w) (A.under (.builtin "type.__call__" ⟨.ref C :: rest, kw⟩)) (.call (.ref fI) ⟨.ref (h.objs.size + 1) :: rest, kw⟩) (W.InitBack (h.objs.size + 1) R) ⟨(h.push (W.kdv_tup rest)).push (excO C h.objs.size), g, d, t, os⟩) :
    codeAny (model prog w) A (.call (.ref C) ⟨rest, kw⟩) R ⟨h, g, d, t, os⟩ := by
  have f1 := tc_lookup
  have f2 := tc_bind (.ref C)
  have ty : (⟨h, g, d, t, os⟩ : Shared).TypeIs (.ref C) "type" := ⟨_, hC, rfl⟩
  refine codeAny_of_tree ?_
  show wpAny _ _ (callAny (.ref C) _) _ _ _
  repeat (any_goals (first | assumption | with_reducible refine wpAny_loadPart_at hC ?_ | wp_step))
  refine ⟨rfl, ?_⟩
  refine codeAny_call_builtin_at (Code.quiet_builtin _ (by decide +kernel)) entry_typeCall (wpAny_check_type_call_sub hC (type_call_kw F hT hC hi hb hrest ?_))
  refine codeAny_mono hq fun r s' z => ?_
  rcases r with e | (v | _ | _ | _) <;> exact z
end
end VXK
end PySem
end

section
set_option Elab.async false
set_option linter.all false
set_option maxRecDepth 100000
set_option maxHeartbeats 4000000
/-! VXV: X(..) of an own exception as a value: made, kept, not raised. -/
namespace VL
open PySem L2 NdefX
variable [LamN]
section
variable {X : Cx} {pins : List (Addr × Obj)} {σ : L2.St} {H : Hp} {s : Shared} {a C d : Addr} {fs : List (Str × V)}
theorem ext_ne {φ ψ : Heap → Prop} {o : HO} (e : o = .ext φ) : (∀ x, o ≠ .own x) ∧ (∀ xs, o ≠ .tup xs) ∧ (∀ p u, o ≠ .frz p u) ∧ (∀ ps, o ≠ .tbl ps) := by
  subst e
  exact ⟨fun _ z => (nomatch z), fun _ z => (nomatch z), fun _ _ z => (nomatch z), fun _ z => (nomatch z)⟩
/-- a made exception, told as a kept one -/
theorem inv_exv (I : L2.Inv X pins σ H s) (ea : H a = some (exo a C (some d))) (ed : H d = some (exd d fs)) : L2.Inv X pins σ (upd (upd H a (exV a C d)) d (.xd fs)) s := by
  obtain ⟨t1, he⟩ := exo_at I.hok ea
  obtain ⟨mA, hns, hr⟩ := exd_at I.hok ed
  have hda : d ≠ a := fun z => by
    subst z
    obtain ⟨o, es, ep, ho, hd, _⟩ := hns
    rw [he] at ho
    cases ho
    cases hd
  have na := ext_ne (ψ := fun _ => True) (o := exo a C (some d)) rfl
  have nd := ext_ne (ψ := fun _ => True) (o := exd d fs) rfl
  have keepH : ∀ b o, H b = some o → o ≠ exo a C (some d) ∧ o ≠ exd d fs → upd (upd H a (exV a C d)) d (.xd fs) b = some o := fun b o e ⟨n1, n2⟩ => by
    have c1 : b ≠ a := fun z => by subst z; rw [ea] at e; exact n1 (Option.some.inj e).symm
    have c2 : b ≠ d := fun z => by subst z; rw [ed] at e; exact n2 (Option.some.inj e).symm
    rw [upd_ne c2, upd_ne c1, e]
  refine I.call' (ch := []) (s' := s) rfl ?_ ?_ I.bare (by intro b z; cases z)
  · exact {
      keep := fun b o e _ _ _ => e
      slot := fun b o e _ _ _ => ⟨o.slots, e⟩
      free := fun b o e n _ => by
        have c1 : b ≠ a := fun z => by subst z; rw [ea] at n; cases n
        have c2 : b ≠ d := fun z => by subst z; rw [ed] at n; cases n
        rw [upd_ne c2, upd_ne c1, n]
      there := fun b o e _ => ⟨o, e⟩
      tups := fun b xs e => keepH b _ e ⟨fun z => na.2.1 _ z.symm, fun z => nd.2.1 _ z.symm⟩
      frzs := fun b o u e => keepH b _ e ⟨fun z => na.2.2.1 _ _ z.symm, fun z => nd.2.2.1 _ _ z.symm⟩
      tbls := fun b ps e => ⟨#[], by rw [keepH b _ e ⟨fun z => na.2.2.2 _ z.symm, fun z => nd.2.2.2 _ z.symm⟩]; simp⟩ }
  · intro b o z
    by_cases c2 : b = d
    · subst c2
      rw [upd_same] at z
      cases z
      exact ⟨mA, hns, hr⟩
    · rw [upd_ne c2] at z
      by_cases c1 : b = a
      · subst c1
        rw [upd_same] at z
        cases z
        exact exV_ok he rfl rfl rfl
      · rw [upd_ne c1] at z
        exact (I.hok b o z).stay (fun c v _ y => y) (fun c hc => keepH c _ hc ⟨fun z => na.1 _ z.symm, fun z => nd.1 _ z.symm⟩) (fun c xs hc => keepH c _ hc ⟨fun z => na.2.1 _ z.symm, fun z => nd.2.1 _ z.symm⟩)
end
/-- X(e, .., k = v, ..) of an own exception: n values, m keywords -/
def tMkE (C : Addr) (n m : Nat) (sp : Sp) (gV : List V → List V → List V) (t tk : TA) : TE := fun σ H Q => t σ H fun vs H1 => tk σ H1 fun zs H2 => vs.length = n ∧ zs.length = m ∧ n ≤ 1000 ∧
  ∀ a, H2 a = none → sp (gV (.ref a :: vs) zs) (upd H2 a (exo a C none)) (fun v H3 => v = .non ∧ ((∃ d fs, H3 a = some (exo a C (some d)) ∧ H3 d = some (exd d fs) ∧ Q (.ref a) (upd (upd H3 a (exV a C d)) d (.xd fs))) ∨ (H3 a = some (exo a C none) ∧ Q (.ref a) H3))) (fun _ _ _ => False)
section
variable {X : Cx} {CX : CXT} {k n : Nat} {fI C : Addr} {fd : FuncData} {ps ks : List Str} {sp : Sp} {x : Str} {p pos : Pos} {e : Expr} {es : List Expr} {kws : List Keyword} {t tk : TA} {g : List Value → List Value → List Value} {gV : List V → List V → List V}
theorem run_exv {pins : List (Addr × Obj)} {σ : L2.St} {H : Hp} {s : Shared} {Q : VK} {us ws : List Value} {vs zs : List V} (T : OexC X.K C) (iC : PySem.W.findIn X.K (.ref C) "__init__" = some (some (.ref fI))) (tI : PySem.W.typeIn X.K (.ref fI) = some (.type "function"))
    (F : FnOk X.prog X.w X.K X.mg X.base CX k fI fd ps sp) (hr : Room (k + 1) X.A) (hb : KBn X.K fd ps (n + 1) ks g gV) (hx : Passes CX X (fun _ _ _ => False)) (I : L2.Inv X pins σ H s) (r : Vals vs us) (rz : Vals zs ws) (l1 : vs.length = n) (l2 : zs.length = ks.length) (l3 : n ≤ 1000)
    (h : ∀ a, H a = none → sp (gV (.ref a :: vs) zs) (upd H a (exo a C none)) (fun v H3 => v = .non ∧ ((∃ d fs, H3 a = some (exo a C (some d)) ∧ H3 d = some (exd d fs) ∧ Q (.ref a) (upd (upd H3 a (exV a C d)) d (.xd fs))) ∨ (H3 a = some (exo a C none) ∧ Q (.ref a) H3))) (fun _ _ _ => False)) :
    wpAny (model X.prog X.w) X.A (call (.ref C) us (ks.zip ws)) (EP X pins σ Q) X.xe s := by
  obtain ⟨nm, q, N, bs, bm, sn, sub, ab, col, dd, k0, k1, k2, k3, k5, hC, hbm⟩ := T.cls
  obtain ⟨hp, g0, dr, tok, os⟩ := s
  have hsz : hp.objs.size ≤ hp.objs.size + 1 := Nat.le_succ _
  have hn : H (hp.objs.size + 1) = none := I.hok.fresh hsz
  have hq := h (hp.objs.size + 1) hn
  have kk : ∀ b o, hp.get? b = some o → ((hp.push (PySem.W.kdv_tup us)).push (PySem.HandSPX.excO C hp.objs.size)).get? b = some o := fun b o e => Heap.get?_push_of_some _ (Heap.get?_push_of_some _ e)
  have hget : ((hp.push (PySem.W.kdv_tup us)).push (PySem.HandSPX.excO C hp.objs.size)).get? (hp.objs.size + 1) = some (PySem.HandSPX.excO C hp.objs.size) := by heap_get
  have I2 : L2.Inv X pins σ (upd H (hp.objs.size + 1) (exo (hp.objs.size + 1) C none)) ⟨(hp.push (PySem.W.kdv_tup us)).push (PySem.HandSPX.excO C hp.objs.size), g0, dr, tok, os⟩ :=
    I.laid (t' := tok) (a := hp.objs.size + 1) (o := exo (hp.objs.size + 1) C none) (h' := (hp.push (PySem.W.kdv_tup us)).push (PySem.HandSPX.excO C hp.objs.size)) kk hsz (exo_ok hget)
  have r1 : Vals (V.ref (hp.objs.size + 1) :: vs) (Value.ref (hp.objs.size + 1) :: us) := .cons rfl r
  have r2 := hb.rel r1 rz
  have e1 : (Value.ref (hp.objs.size + 1) :: us).length = n + 1 := r1.length.symm.trans (congrArg Nat.succ l1)
  have e2 : ws.length = ks.length := rz.length.symm.trans l2
  have hus : us.length ≤ sizeLine := by
    rw [← r.length, sizeLine_eq]
    omega
  refine wpAny_call (PySem.VXK.call_kw PySem.F.excBase_ValueError (fun Y => PySem.HandSPX.refsVE_contains Y bm hbm) (I.kIn _ _ hC) (PySem.W.looks_findIn I.kIn iC) (fun self => PySem.W.bind_fn I.kIn self tI) hus
    (codeAny_mono (F.run _ X.stack _ _ ⟨Value.ref (hp.objs.size + 1) :: us, ks.zip ws⟩ (g (Value.ref (hp.objs.size + 1) :: us) ws) _ _ (fun _ _ _ => False) (hr.make C us (ks.zip ws)) (I2.env0.make C us (ks.zip ws)) (hb.to _ (Value.ref (hp.objs.size + 1) :: us) ws I2.kIn e1 e2) r2 hq) fun r s' hq' => ?_))
  cases r with
  | error er => exact hx pins σ _ _ er s' I2 hq'
  | ok fl =>
    cases fl with
    | ret u =>
      obtain ⟨v, H3, I3, rv, ev, q2⟩ := I2.after hq'
      subst ev
      rcases q2 with ⟨d, fs, ea, ed, q3⟩ | ⟨ea, q3⟩
      · exact ⟨rv, V.ref (hp.objs.size + 1), _, inv_exv I3 ea ed, rfl, q3⟩
      · exact ⟨rv, V.ref (hp.objs.size + 1), _, I3, rfl, q3⟩
    | next => exact False.elim hq'
    | brk => exact False.elim hq'
    | cont => exact False.elim hq'
/-- X(k = v, ..) -/
theorem pe_exvK (T : OexC X.K C) (iC : PySem.W.findIn X.K (.ref C) "__init__" = some (some (.ref fI))) (tI : PySem.W.typeIn X.K (.ref fI) = some (.type "function")) (F : FnOk X.prog X.w X.K X.mg X.base CX k fI fd ps sp) (hr : Room (k + 1) X.A) (hb : KBn X.K fd ps 1 ks g gV) (hx : Passes CX X (fun _ _ _ => False)) (hg : Gl X x) (hm : X.mg x = some (.ref C)) (hkw : PK X kws tk)
    (hall : (backToKw pos (keywordEach kws X.env)).all (·.1.isSome) = true := by rfl) (hks : (backToKw pos (keywordEach kws X.env)).filterMap (·.1) = ks := by rfl) (hdb : (x == ("__debug__" : Str)) = false := by decide)
    (hpl : ((backTo pos (starEach [] X.env)).any (·.1) || (backToKw pos (keywordEach kws X.env)).any (·.1.isNone)) = false := by rfl) :
    PE X (.Call (.Name x p) [] kws pos) (tMkE C 0 ks.length sp gV tNil tk) := by
  refine ⟨fun pins s σ H Q I h => ?_⟩
  refine wpAny_Call_Name_kw (ld_glob I hg hm ?_ hdb)
  refine PySem.W.callWith_KW0 (h₀ := X.base) I.ok.mod.kin T.kC hall ?_ hpl
  refine thn (hkw.run pos pins s σ H _ I h) fun ws s2 ⟨zs, H2, I2, rz, l1, l2, l3, q2⟩ => ⟨I2.kIn, ?_⟩
  rw [hks]
  exact run_exv (us := []) (vs := []) T iC tI F hr hb hx I2 .nil rz rfl l2 (by decide) q2
/-- X(e, ..) -/
theorem pe_exv (T : OexC X.K C) (iC : PySem.W.findIn X.K (.ref C) "__init__" = some (some (.ref fI))) (tI : PySem.W.typeIn X.K (.ref fI) = some (.type "function")) (F : FnOk X.prog X.w X.K X.mg X.base CX k fI fd ps sp) (hr : Room (k + 1) X.A) (hb : KBn X.K fd ps (n + 1) [] g gV) (hx : Passes CX X (fun _ _ _ => False)) (hg : Gl X x) (hm : X.mg x = some (.ref C)) (ha : PA X (e :: es) t)
    (hdb : (x == ("__debug__" : Str)) = false := by decide) (he : starEach (e :: es) X.env = (false, eval e X.env) :: starEach es X.env := by rfl) (hpl : (backTo pos (starEach es X.env)).any (·.1) = false := by rfl) :
    PE X (.Call (.Name x p) (e :: es) [] pos) (tMkE C n 0 sp gV t tNil) := by
  refine ⟨fun pins s σ H Q I h => ?_⟩
  refine wpAny_Call_Name_kw (ld_glob I hg hm ?_ hdb)
  refine PySem.W.callWith_K (h₀ := X.base) I.ok.mod.kin T.kC (thn (ha.run pos pins s σ H _ I h) fun us s1 ⟨vs, H1, I1, r, q⟩ => ⟨I1.kIn, ?_⟩) he hpl
  obtain ⟨l1, l2, l3, q2⟩ := q
  exact run_exv (ws := []) (zs := []) (ks := []) T iC tI F hr hb hx I1 r .nil l1 rfl l3 q2
/-- X() -/
theorem pe_exv0 (T : OexC X.K C) (iC : PySem.W.findIn X.K (.ref C) "__init__" = some (some (.ref fI))) (tI : PySem.W.typeIn X.K (.ref fI) = some (.type "function")) (F : FnOk X.prog X.w X.K X.mg X.base CX k fI fd ps sp) (hr : Room (k + 1) X.A) (hb : KBn X.K fd ps 1 [] g gV) (hx : Passes CX X (fun _ _ _ => False)) (hg : Gl X x) (hm : X.mg x = some (.ref C))
    (hdb : (x == ("__debug__" : Str)) = false := by decide) : PE X (.Call (.Name x p) [] [] pos) (tMkE C 0 0 sp gV tNil tNil) := by
  refine ⟨fun pins s σ H Q I h => ?_⟩
  refine wpAny_Call_Name_kw (ld_glob I hg hm ?_ hdb)
  obtain ⟨l1, l2, l3, q2⟩ := h
  have z := run_exv (us := []) (vs := []) (ws := []) (zs := []) (ks := []) T iC tI F hr hb hx I .nil .nil rfl rfl (by decide) q2
  exact PySem.W.callWith_K0 I.kIn T.kC z
end
end VL
end

section
set_option Elab.async false
set_option linter.all false
set_option maxRecDepth 100000
set_option maxHeartbeats 4000000
/-! VXD: X(..) of an own exception as a value, as data. -/
namespace VL
open PySem L2 NdefX
variable [LamN]
/-- X(..), n values by place, then the keywords ks: the arguments are kept as the fields fds -/
def XvB (P : Program) (w : World) (K : PySem.W.Frag) (mg : Str → Option Value) (base : Heap) (k : Nat) (x : Str) (fds : List (Str × Nat)) (n : Nat) (ks : List Str) (gD : List D → List D → List D) : Prop :=
  fds.length ≤ 100 ∧ n ≤ 1000 ∧ ∃ (C fI : Addr) (fd : FuncData) (N ps : List Str) (g : List Value → List Value → List Value) (gV : List V → List V → List V), FnOk P w K mg base (L2.CX P w) k fI fd ("self" :: ps) (spInit C N ps (tFs K fds)) ∧ OexC K C ∧ PySem.W.findIn K (.ref C) "__init__" = some (some (.ref fI)) ∧ PySem.W.typeIn K (.ref fI) = some (.type "function") ∧
    KBn K fd ("self" :: ps) (n + 1) ks g gV ∧ mg x = some (.ref C) ∧ (∀ p ∈ fds, PySem.W.findIn K (.ref C) p.1 = some none) ∧ ps.length = fds.length ∧
    ∀ F a vs zs ds es, ds.length = n → es.length = ks.length → RepL K mg F vs ds → RepL K mg F zs es → ∃ us, gV (.ref a :: vs) zs = .ref a :: us ∧ RepL K mg F us (gD ds es)
def eMkE (x : Str) (fds : List (Str × Nat)) (n m : Nat) (gD : List D → List D → List D) (f1 f2 : VL.Env → Option (Out (List D))) : VL.Env → Option (Out D) := bnd f1 fun ds => bnd f2 fun es => lift (if ds.length = n ∧ es.length = m ∧ (gD ds es).length = fds.length then (getF (gD ds es) fds []).map fun gs => .exn x gs else none)
theorem mk_exv {C a : Addr} {fds : List (Str × Nat)} {K : PySem.W.Frag} {σ : L2.St} {H : Hp} {Q : VK} {gs : List (Str × V)} (T : OexC K C) (hl : fds.length ≤ 100) (hn : ∀ p ∈ fds, PySem.W.findIn K (.ref C) p.1 = some none) (h0 : σ[(0 : Nat)]? = some (some (.ref a)))
    (hg : fldR σ fds [] = some gs) (ha : H a = none) (q1 : fds ≠ [] → ∀ d, H d = none → d ≠ a → Q (.ref a) (upd (upd H a (exV a C d)) d (.xd gs))) (q0 : fds = [] → Q (.ref a) (upd H a (exo a C none))) :
    tFs K fds { nx := fun _ H' => (fun v H3 => v = V.non ∧ ((∃ d fs, H3 a = some (exo a C (some d)) ∧ H3 d = some (exd d fs) ∧ Q (.ref a) (upd (upd H3 a (exV a C d)) d (.xd fs))) ∨ (H3 a = some (exo a C none) ∧ Q (.ref a) H3))) .non H', rt := fun _ _ => False } σ (upd H a (exo a C none)) := by
  cases fds with
  | nil => exact ⟨rfl, .inr ⟨upd_same, q0 rfl⟩⟩
  | cons pf r =>
    obtain ⟨f, i⟩ := pf
    unfold fldR at hg
    split at hg
    · rename_i v ev
      refine ⟨v, ev, .ref a, h0, a, C, rfl, T, hn (f, i) List.mem_cons_self, .inl ⟨upd_same, fun dx hd hda => ?_⟩⟩
      have hd0 : H dx = none := by rw [upd_ne hda] at hd; exact hd
      have k1 : (upd (upd (upd H a (exo a C none)) dx (exd dx [(f, v)])) a (exo a C (some dx))) dx = some (exd dx [(f, v)]) := by rw [upd_ne hda, upd_same]
      refine tFs_old T hda h0 r [(f, v)] gs _ (fun p hp => hn p (List.mem_cons_of_mem _ hp)) hg (by simp at hl ⊢; omega) upd_same k1 ?_
      refine ⟨rfl, .inl ⟨dx, gs, by rw [upd_ne (Ne.symm hda), upd_same], upd_same, ?_⟩⟩
      have z : upd (upd (upd (upd (upd (upd H a (exo a C none)) dx (exd dx [(f, v)])) a (exo a C (some dx))) dx (exd dx gs)) a (exV a C dx)) dx (.xd gs) = upd (upd H a (exV a C dx)) dx (.xd gs) := by
        funext b
        by_cases e : b = dx
        · subst e; rw [upd_same, upd_same]
        · rw [upd_ne e, upd_ne e]
          by_cases e2 : b = a
          · subst e2; rw [upd_same, upd_same]
          · rw [upd_ne e2, upd_ne e, upd_ne e2, upd_ne e, upd_ne e2, upd_ne e2]
      rw [z]
      exact q1 (by simp) dx hd0 hda
    · cases hg
section
variable {X : Cx} {B : Bs} {e : Expr} {es : List Expr} {kws : List Keyword} {t tk : TA} {f1 f2 : VL.Env → Option (Out (List D))} {p pos : Pos} {P : Program} {w : World} {K : PySem.W.Frag} {mg : Str → Option Value} {base : Heap}
theorem den_exv {x : Str} {fds : List (Str × Nat)} {n : Nat} {ks N ps : List Str} {gD : List D → List D → List D} {C : Addr} {gV : List V → List V → List V} (hl : fds.length ≤ 100) (hn : n ≤ 1000) (T : OexC K C) (hm : mg x = some (.ref C)) (hf : ∀ p ∈ fds, PySem.W.findIn K (.ref C) p.1 = some none) (hps : ps.length = fds.length)
    (hgv : ∀ F a vs zs ds es, ds.length = n → es.length = ks.length → RepL K mg F vs ds → RepL K mg F zs es → ∃ us, gV (.ref a :: vs) zs = .ref a :: us ∧ RepL K mg F us (gD ds es)) (d1 : DenA K mg B t f1) (d2 : DenA K mg B tk f2) :
    Den K mg B (tMkE C n ks.length (spInit C N ps (tFs K fds)) gV t tk) (eMkE x fds n ks.length gD f1 f2) := fun ε σ F H Q r ok e p => by
  rcases bnd_some e with ⟨y, ε', e1, rfl⟩ | ⟨ds, ε1, e1, e⟩
  · exact d1 ε σ F H _ _ ok e1 p
  refine d1 ε σ F H _ _ ok e1 fun vs F1 H1 ok1 s1 r1 => ?_
  rcases bnd_some e with ⟨y, ε', e2, rfl⟩ | ⟨zs, ε2, e2, e⟩
  · exact d2 ε1 σ F1 H1 _ _ ok1 e2 (XPost.mono p s1)
  refine d2 ε1 σ F1 H1 _ _ ok1 e2 fun ws F2 H2 ok2 s2 r2 => ?_
  obtain ⟨d, ed, rfl⟩ := lift_some e
  split at ed
  · rename_i hlen
    obtain ⟨c1, c2, c3⟩ := hlen
    obtain ⟨gs, eg, rfl⟩ := Option.map_eq_some_iff.mp ed
    refine ⟨r1.length.trans c1, r2.length.trans c2, hn, fun a ha => ?_⟩
    obtain ⟨us, eu, ru⟩ := hgv F2 a vs ws ds zs c1 c2 (r1.mono s2) r2
    have hul : us.length = fds.length := ru.length.trans c3
    obtain ⟨gv, ev, rv⟩ := getF_rep (N := N) (a := a) (ws := [none]) ru fds [] [] gs .nil eg
    rw [eu]
    refine ⟨by simp [hul, hps], a, us, rfl, upd_same, ?_⟩
    have n1 := ext_ne (ψ := fun _ => True) (o := exo a C none) rfl
    refine mk_exv T hl hf rfl ev ha (fun _ d hd hda => ?_) (fun h0 => ?_)
    · have n2 := ext_ne (ψ := fun _ => True) (o := exV a C d) rfl
      have o1 := ok2.laid ha (exV a C d) n2.2.2.2
      have hd' : (upd H2 a (exV a C d)) d = none := by rw [upd_ne hda]; exact hd
      have o2 := o1.laid hd' (.xd gv)
      have sm := (same_laid ok2 ha (exV a C d)).trans (same_laid o1 hd' (.xd gv))
      exact p _ _ _ o2 (s1.trans (s2.trans sm)) (.exn hm (by rw [upd_ne (Ne.symm hda), upd_same]) upd_same (rv.mono sm))
    · subst h0
      have eg' : gs = [] := by cases eg; rfl
      subst eg'
      have o1 := ok2.laid ha (exo a C none) n1.2.2.2
      exact p _ _ _ o1 (s1.trans (s2.trans (same_laid ok2 ha _))) (.exo hm upd_same)
  · cases ed
theorem ve_exv {x : Str} {k n : Nat} {fds : List (Str × Nat)} {gD : List D → List D → List D} (G : XvB P w K mg base k x fds n [] gD) (hr : Room (k + 1) X.A) (hg : Gl X x) (ha : VA X B (e :: es) t f1)
    (hX : X.prog = P ∧ X.w = w ∧ X.K = K ∧ X.mg = mg ∧ X.base = base := by exact ⟨rfl, rfl, rfl, rfl, rfl⟩) (hdb : (x == ("__debug__" : Str)) = false := by decide)
    (he : starEach (e :: es) X.env = (false, eval e X.env) :: starEach es X.env := by rfl) (hpl : (backTo pos (starEach es X.env)).any (·.1) = false := by rfl) :
    VE X B (.Call (.Name x p) (e :: es) [] pos) (tSemE K mg B (eMkE x fds n 0 gD f1 aNil)) (eMkE x fds n 0 gD f1 aNil) := by
  obtain ⟨rfl, rfl, rfl, rfl, rfl⟩ := hX
  obtain ⟨hl, hn, C, fI, fd, N, ps, g, gV, F, T, iC, tI, hb, hm, hf, hps, hgv⟩ := G
  exact VE.toSem ⟨_, pe_exv T iC tI F hr hb passL hg hm ha.pa hdb he hpl, den_exv (ks := []) hl hn T hm hf hps hgv ha.den va_nil.den⟩
theorem ve_exvK {x : Str} {k m : Nat} {fds : List (Str × Nat)} {ks : List Str} {gD : List D → List D → List D} (G : XvB P w K mg base k x fds 0 ks gD) (hr : Room (k + 1) X.A) (hg : Gl X x) (ha : VKw X B kws t f1) (hm0 : ks.length = m := by rfl)
    (hX : X.prog = P ∧ X.w = w ∧ X.K = K ∧ X.mg = mg ∧ X.base = base := by exact ⟨rfl, rfl, rfl, rfl, rfl⟩) (hall : (backToKw pos (keywordEach kws X.env)).all (·.1.isSome) = true := by rfl) (hks : (backToKw pos (keywordEach kws X.env)).filterMap (·.1) = ks := by rfl)
    (hdb : (x == ("__debug__" : Str)) = false := by decide) (hpl : ((backTo pos (starEach [] X.env)).any (·.1) || (backToKw pos (keywordEach kws X.env)).any (·.1.isNone)) = false := by rfl) :
    VE X B (.Call (.Name x p) [] kws pos) (tSemE K mg B (eMkE x fds 0 m gD aNil f1)) (eMkE x fds 0 m gD aNil f1) := by
  obtain ⟨rfl, rfl, rfl, rfl, rfl⟩ := hX
  subst hm0
  obtain ⟨hl, hn, C, fI, fd, N, ps, g, gV, F, T, iC, tI, hb, hm, hf, hps, hgv⟩ := G
  exact VE.toSem ⟨_, pe_exvK T iC tI F hr hb passL hg hm ha.pk hall hks hdb hpl, den_exv hl hn T hm hf hps hgv va_nil.den ha.den⟩
theorem ve_exv0 {x : Str} {k : Nat} {fds : List (Str × Nat)} {gD : List D → List D → List D} (G : XvB P w K mg base k x fds 0 [] gD) (hr : Room (k + 1) X.A) (hg : Gl X x)
    (hX : X.prog = P ∧ X.w = w ∧ X.K = K ∧ X.mg = mg ∧ X.base = base := by exact ⟨rfl, rfl, rfl, rfl, rfl⟩) (hdb : (x == ("__debug__" : Str)) = false := by decide) :
    VE X B (.Call (.Name x p) [] [] pos) (tSemE K mg B (eMkE x fds 0 0 gD aNil aNil)) (eMkE x fds 0 0 gD aNil aNil) := by
  obtain ⟨rfl, rfl, rfl, rfl, rfl⟩ := hX
  obtain ⟨hl, hn, C, fI, fd, N, ps, g, gV, F, T, iC, tI, hb, hm, hf, hps, hgv⟩ := G
  exact VE.toSem ⟨_, pe_exv0 T iC tI F hr hb passL hg hm hdb, den_exv (ks := []) hl hn T hm hf hps hgv va_nil.den va_nil.den⟩
/-- isinstance(x, T), x a kept exception of a class of ns, T a built-in class that all of them are -/
structure IsT (K : PySem.W.Frag) (mg : Str → Option Value) (ns : List Str) (Ty : String) : Prop where
  all : ∀ n ∈ ns, ∃ D, mg n = some (.ref D) ∧ ExcC K D ∧ PySem.W.kitOne K (.ref D) (.type Ty) = some true
def bIsT (ns : List Str) (Ty : String) : List D → Option D
  | [.exn n _, .opq (.ty T)] => if n ∈ ns ∧ T = Ty then some (.bl true) else none
  | _ => none
theorem cd_isT {ns : List Str} {Ty : String} (T : IsT K mg ns Ty) : CallH K mg (rIsV K) (bIsT ns Ty) := fun H vs ds d Q r e q => by
  unfold bIsT at e
  split at e
  · rename_i n fs T'
    split at e
    · rename_i hn
      obtain ⟨hn, rfl⟩ := hn
      cases e
      obtain ⟨v, u, rfl, r1, r2⟩ := r.two
      obtain ⟨D, h1, h2, h3⟩ := T.all n hn
      obtain ⟨a, rfl, ho⟩ := rep_exn r1 h1
      cases r2
      exact ⟨_, _, _, _, true, rfl, ho, h2, .ty _, h3, q _ fun _ => .bl _⟩
    · cases e
  · cases e
end
end VL
end

section
set_option Elab.async false
set_option linter.all false
set_option maxRecDepth 100000
set_option maxHeartbeats 4000000
/-! VXR: repr of values with dicts in them. -/
namespace VL
open PySem PySem.Spec PyProof.Rows L2
variable [LamN]
def keyPy : Key → PyData
  | .inl i => .int i
  | .inr x => .str x
mutual
def toPyX : D → Option PyData
  | .non => some .none
  | .bl b => some (.bool b)
  | .int i => some (.int i)
  | .str s => some (.str s)
  | .lst xs => (toPyXL xs).map .list
  | .tup xs => (toPyXL xs).map .tuple
  | .dic kvs => (toPyXK kvs).map .dict
  | .frl _ => none
  | .obj _ _ => none
  | .cls _ => none
  | .exn _ _ => none
  | .opq _ => none
def toPyXL : List D → Option (List PyData)
  | [] => some []
  | d :: ds => match toPyX d, toPyXL ds with
    | some a, some b => some (a :: b)
    | _, _ => none
def toPyXK : List (Key × D) → Option (List (PyData × PyData))
  | [] => some []
  | (k, d) :: ds => match toPyX d, toPyXK ds with
    | some a, some b => some ((keyPy k, a) :: b)
    | _, _ => none
end
/-- the module table stands ahead of all -/
def SysM (K : PySem.W.Frag) : Prop := ∃ o, K.lookup PySem.sysModules = some o
section
variable {X : Cx} {pins : List (Addr × Obj)} {σ : L2.St} {H : Hp} {s : Shared}
theorem key_reads {h : Heap} {k : Key} {v : Value} (p : keyIs k v = true) : ∃ cs, Reads h v (keyPy k) cs ∧ PySem.sysModules ∉ cs := by
  rcases keyIs_shape p with ⟨i, t, rfl, rfl⟩ | ⟨x, t, rfl, rfl⟩
  · exact ⟨_, .int i t, by simp⟩
  · exact ⟨_, .str x t, by simp⟩
theorem sys_free (S : SysM X.K) (I : L2.Inv X pins σ H s) : H PySem.sysModules = none := by
  obtain ⟨o, h⟩ := S
  exact (I.bs _ _ (I.ok.mod.kin _ _ h)).2
mutual
theorem rep_reads (S : SysM X.K) (I : L2.Inv X pins σ H s) : ∀ {d : D} {v : V} {p : PyData} {u : Value}, Rep X.K X.mg H v d → toPyX d = some p → RelV v u → ∃ as, Reads s.heap u p as ∧ PySem.sysModules ∉ as
  | .non, _, _, _, .non, h, r => by simp only [toPyX, Option.some.injEq] at h; subst h; cases r; exact ⟨_, .none, by simp⟩
  | .bl b, _, _, _, .bl _, h, r => by simp only [toPyX, Option.some.injEq] at h; subst h; cases r; exact ⟨_, .bool b, by simp⟩
  | .int i, _, _, _, .int _, h, r => by simp only [toPyX, Option.some.injEq] at h; subst h; obtain ⟨t, rfl⟩ := r; exact ⟨_, .int i t, by simp⟩
  | .str x, _, _, _, .str _, h, r => by simp only [toPyX, Option.some.injEq] at h; subst h; obtain ⟨t, rfl⟩ := r; exact ⟨_, .str x t, by simp⟩
  | .lst xs, _, _, _, .lst (a := a) hl q, h, r => by
    simp only [toPyX, Option.map_eq_some_iff] at h
    obtain ⟨ps, e, rfl⟩ := h
    cases r
    obtain ⟨its, rv, ⟨o, n, ho, hc, _, hd⟩, _⟩ := I.list (SqL.of hl)
    obtain ⟨as, hr, hn⟩ := repL_reads S I q e rv
    refine ⟨_, Reads.list ho hc hd hr, fun z => ?_⟩
    rcases List.mem_cons.mp z with z | z
    · rw [← z, sys_free S I] at hl; cases hl
    · exact hn z
  | .tup xs, _, _, _, .tup hl q, h, r => by
    simp only [toPyX, Option.map_eq_some_iff] at h
    obtain ⟨ps, e, rfl⟩ := h
    cases r
    obtain ⟨its, rv, ⟨o, ho, hc, n, hd⟩, _⟩ := I.tuple hl
    obtain ⟨as, hr, hn⟩ := repL_reads S I q e rv
    exact ⟨_, Reads.tuple ho hc hd hr, hn⟩
  | .dic kvs, _, _, _, .dic (a := a) hl q, h, r => by
    simp only [toPyX, Option.map_eq_some_iff] at h
    obtain ⟨ps, e, rfl⟩ := h
    cases r
    obtain ⟨hz, hS, vs, rk, o, es, ep, ho, hx, hd, _, hp, _⟩ := dk_of I.hok hl
    obtain ⟨as, bs, h1, h2, h3, h4⟩ := repK_reads S I q e rk hp
    refine ⟨_, Reads.dict ho hx.1 hd h1 h2, fun z => ?_⟩
    rcases List.mem_append.mp z with z | z
    · rcases List.mem_cons.mp z with z | z
      · rw [← z] at hS; simp at hS
      · exact h3 z
    · exact h4 z
  | .frl _, _, _, _, _, h, _ => by simp [toPyX] at h
  | .obj _ _, _, _, _, _, h, _ => by simp [toPyX] at h
  | .cls _, _, _, _, _, h, _ => by simp [toPyX] at h
  | .exn _ _, _, _, _, _, h, _ => by simp [toPyX] at h
  | .opq _, _, _, _, _, h, _ => by simp [toPyX] at h
theorem repL_reads (S : SysM X.K) (I : L2.Inv X pins σ H s) : ∀ {ds : List D} {vs : List V} {ps : List PyData} {us : List Value}, RepL X.K X.mg H vs ds → toPyXL ds = some ps → Vals vs us → ∃ as, ReadsAll s.heap us ps as ∧ PySem.sysModules ∉ as
  | [], _, _, _, .nil, h, r => by simp only [toPyXL, Option.some.injEq] at h; subst h; cases r; exact ⟨_, .nil, by simp⟩
  | d :: ds, _, _, _, .cons q t, h, r => by
    simp only [toPyXL] at h
    split at h
    · rename_i a b ea eb
      cases h
      cases r with
      | cons r1 r2 =>
        obtain ⟨as, h1, n1⟩ := rep_reads S I q ea r1
        obtain ⟨bs, h2, n2⟩ := repL_reads S I t eb r2
        exact ⟨_, .cons h1 h2, fun z => (List.mem_append.mp z).elim n1 n2⟩
    · cases h
theorem repK_reads (S : SysM X.K) (I : L2.Inv X pins σ H s) : ∀ {ds : List (Key × D)} {kvs : List (Key × V)} {ps : List (PyData × PyData)} {vs : List (Key × Value)} {es : List DictEntry}, RepK X.K X.mg H kvs ds → toPyXK ds = some ps → KV kvs vs → Pairs (mixKind X.prog X.w) es vs →
    ∃ as bs, ReadsAll s.heap (es.map (·.key)) (ps.map (·.1)) as ∧ ReadsAll s.heap (es.map (·.val)) (ps.map (·.2)) bs ∧ PySem.sysModules ∉ as ∧ PySem.sysModules ∉ bs
  | [], _, _, _, _, .nil, h, r, pr => by
    simp only [toPyXK, Option.some.injEq] at h; subst h; cases r; cases pr; exact ⟨_, _, .nil, .nil, by simp, by simp⟩
  | (k, d) :: ds, _, _, _, _, .cons q t, h, r, pr => by
    simp only [toPyXK] at h
    split at h
    · rename_i a b ea eb
      cases h
      cases r with
      | cons r1 r2 =>
        cases pr with
        | cons p1 p2 p3 =>
          obtain ⟨e1, r1⟩ := r1
          obtain ⟨bs, h2, n2⟩ := rep_reads S I q ea r1
          obtain ⟨as', bs', h3, h4, n3, n4⟩ := repK_reads S I t eb r2 p3
          rw [← p2] at h2
          obtain ⟨cs, h1, n1⟩ := key_reads (h := s.heap) (show keyIs k _ = true from by rw [show k = _ from e1]; exact p1)
          exact ⟨_, _, .cons h1 h3, .cons h2 h4, fun z => (List.mem_append.mp z).elim n1 n3, fun z => (List.mem_append.mp z).elim n2 n4⟩
    · cases h
end
end
def rReprX (K : PySem.W.Frag) (mg : Str → Option Value) : List V → Hp → VK → Prop := fun xs H Q => ∃ v d p, xs = [v] ∧ Rep K mg H v d ∧ toPyX d = some p ∧ p.showable = true ∧ p.depth ≤ 100 ∧ p.shown.length ≤ sizeLine ∧ Q (.str p.shown) H
theorem call_reprX {X : Cx} (S : SysM X.K) (gd : X.A.guards = some []) (hu : X.A.units + 200 < cLine) : CallR X (.builtin "repr") (rReprX X.K X.mg) := by
  intro pins s σ H xs us Q I r h
  obtain ⟨v, d, p, rfl, rp, ep, hs, hdep, hl, q⟩ := h
  obtain ⟨u, rfl, ru⟩ := vals1 r
  obtain ⟨as, rd, hn⟩ := rep_reads S I rp ep ru
  have fin : ∀ (s' : Shared) (t : Tok), L2.Inv X pins σ H s' → EP X pins σ Q (.str p.shown t) s' := fun s' t J => ⟨.str p.shown, H, J, ⟨t, rfl⟩, q⟩
  cases rd with
  | none =>
    rw [show (PyData.none).shown = ("None" : Str) by simp only [PyData.shown]] at fin
    exact PySem.P.repr_of_none (fin _ _ (I.tok _))
  | bool b =>
    rw [show (PyData.bool b).shown = (if b then ("True" : Str) else "False") by simp only [PyData.shown]] at fin
    refine PySem.P.repr_of_bool ?_
    cases b <;> exact fin _ _ (I.tok _)
  | int i t =>
    rw [show (PyData.int i).shown = ((toString i : String) : Str) by simp only [PyData.shown]] at fin
    exact PySem.P.repr_of_int (by simpa [PyData.showable] using hs) (fin _ _ (I.tok _))
  | str x t =>
    rw [show (PyData.str x).shown = reprText x by simp only [PyData.shown]] at fin hl
    exact PySem.P.repr_of_str (fin _ _ (I.tok _)) hl
  | list h1 h2 h3 h4 => exact PySem.repr_of_reads' (.list h1 h2 h3 h4) hs (fun _ => hn) gd (by omega) (fun _ _ e => e) (fun h' t tk k => fin _ _ (I.kept k)) hl
  | tuple h1 h2 h3 h4 => exact PySem.repr_of_reads' (.tuple h1 h2 h3 h4) hs (fun _ => hn) gd (by omega) (fun _ _ e => e) (fun h' t tk k => fin _ _ (I.kept k)) hl
  | dict h1 h2 h3 h4 h5 => exact PySem.repr_of_reads' (.dict h1 h2 h3 h4 h5) hs (fun _ => hn) gd (by omega) (fun _ _ e => e) (fun h' t tk k => fin _ _ (I.kept k)) hl
def bReprX : List D → Option D
  | [d] => match toPyX d with
    | some p => if p.showable = true ∧ p.depth ≤ 100 ∧ p.shown.length ≤ sizeLine then some (.str p.shown) else none
    | none => none
  | _ => none
theorem cd_reprX {K : PySem.W.Frag} {mg : Str → Option Value} : CallH K mg (rReprX K mg) bReprX := fun H vs ds d Q r e q => by
  unfold bReprX at e
  split at e
  · rename_i x
    split at e
    · rename_i p ep
      split at e
      · rename_i hc
        cases e
        obtain ⟨v, rfl, r1⟩ : ∃ v, vs = [v] ∧ Rep K mg H v x := by
          cases r with | cons a b => cases b; exact ⟨_, rfl, a⟩
        exact ⟨v, x, p, rfl, r1, ep, hc.1, hc.2.1, hc.2.2, q _ fun _ => .str _⟩
      · cases e
    · cases e
  · cases e
end VL
namespace VL
theorem lookup_mem {α β : Type} [BEq α] [LawfulBEq α] : ∀ {l : List (α × β)} {a : α} {b : β}, l.lookup a = some b → (a, b) ∈ l
  | [], _, _, h => by cases h
  | (k, v) :: r, a, b, h => by
    rw [List.lookup_cons] at h
    by_cases e : (a == k) = true
    · rw [e] at h
      cases h
      rw [eq_of_beq e]
      exact List.mem_cons_self
    · rw [Bool.eq_false_iff.mpr e] at h
      exact List.mem_cons_of_mem _ (lookup_mem h)
end VL
namespace VL
open PySem L2
variable [LamN]
theorem vt_truK {X : Cx} {B : Bs} {K : PySem.W.Frag} {a : Expr} {ta : TE} {fa : VL.Env → Option (Out D)} (hK : X.K = K) (ha : VE X B a ta fa) (he : ∀ whole, isTrue a X.env whole = (do let v ← whole; standAt a.pos; holding [v] (truthy v)) := by intro _; rfl) :
    VT X B a (fun σ H Q => ta σ H fun x H1 => ∃ k, TruV K x H1 k ∧ Q k H1) (tTru fa) := hK ▸ vt_tru ha he
theorem ve_dicS {X : Cx} {B : Bs} {pos : Pos} {x : Str} {j : Int} {k1 k2} {p1 p2 : Pos} : VE X B (.Dict [some (.Constant (.str x) k1 p1)] [.Constant (.int j) k2 p2] pos) (tDisp [(tC (.str x), tC (.int j))]) (eK (.dic [(.inr x, .int j)])) :=
  ⟨pe_disp (pps_cons pe_str pe_int pps_nil) rfl rfl (by simp) (by simp), fun ε σ F H Q r ok e p => by
  cases e
  intro a ha
  refine ⟨upd_same, [(.inr x, .int j)], rfl, by simp, ?_⟩
  have hm : mergeK [] [((.inr x : Key), V.int j)] = [(.inr x, .int j)] := rfl
  rw [hm]
  have eu : upd (upd H a (.dK [])) a (.dK [(.inr x, V.int j)]) = upd H a (.dK [(.inr x, .int j)]) := by
    funext b
    by_cases hb : b = a
    · subst hb; rw [upd_same, upd_same]
    · rw [upd_ne hb, upd_ne hb, upd_ne hb]
  rw [eu]
  exact p _ _ _ (ok.laid ha _) (same_laid ok ha _) (.dic upd_same (.cons (.int _) .nil))⟩
end VL
end

section
set_option Elab.async false
set_option linter.all false
set_option maxRecDepth 100000
set_option maxHeartbeats 4000000
/-! VHC: the top's run told in several declarations: a state is written down between two of them. -/
noncomputable section
namespace HC
open PySem PySem.W PySem.Calls PyProof.Rows HandSHeadRun
section
variable (st : SharedT → Thread → Option (SharedT × Thread)) (n0 : Nat) (ann : Option Value)
/-- a segment, to its end -/
def segF (b : Nat) : Nat → SharedT → Thread → Option (Flow × SharedT × Code × Pos)
  | 0, _, _ => none
  | m + 1, s, t => match endAt b t with
    | some f => some (f, s, t.code, t.pos)
    | none => match stepOk n0 ann t with
      | false => none
      | true => match st s t with
        | some (s', t') => frS s' fun s' => segF b m s' t'
        | none => none
/-- so many steps of the top -/
def goK : Nat → SharedT → Thread → Option (SharedT × Thread)
  | 0, s, t => some (s, t)
  | m + 1, s, t => match through t with
    | true => none
    | false => match stepOk n0 ann t with
      | false => none
      | true => match st s t with
        | some (s', t') => frS s' fun s' => goK m s' t'
        | none => none
end
theorem segF_ok {tb : String → Option Builtin} {p : Program} {w : World} {n0 : Nat} {ann : Option Value} {b : Nat} : ∀ {m : Nat} {s s' : SharedT} {t : Thread} {f : Flow} {c : Code} {q : Pos}, segF (stepT (denote tb) p w) n0 ann b m s t = some (f, s', c, q) → segRun tb p w n0 ann b m s.abs t = some (f, s'.abs, c, q)
  | 0, _, _, _, _, _, _, h => by cases h
  | m + 1, s, s', t, f, c, q, h => by
    unfold segF at h
    unfold segRun
    cases he : endAt b t with
    | some x => rw [he] at h; cases h; rfl
    | none =>
      rw [he] at h
      cases hk : stepOk n0 ann t with
      | false => rw [hk] at h; cases h
      | true =>
        rw [hk] at h
        cases hs : stepT (denote tb) p w s t with
        | none => rw [hs] at h; cases h
        | some r =>
          obtain ⟨s₂, t₂⟩ := r
          rw [hs] at h
          have h3 : (frS s₂ fun s' => segF (stepT (denote tb) p w) n0 ann b m s' t₂) = some (f, s', c, q) := h
          rw [frS_eq] at h3
          rw [stepT_spec hs]
          exact segF_ok h3
theorem goK_ok {tb : String → Option Builtin} {p : Program} {w : World} {n0 : Nat} {ann : Option Value} : ∀ {m : Nat} {s s' : SharedT} {t t' : Thread}, goK (stepT (denote tb) p w) n0 ann m s t = some (s', t') → topGo tb p w n0 ann m s.abs t = some (s'.abs, t')
  | 0, _, _, _, _, h => by cases h; rfl
  | m + 1, s, s', t, t', h => by
    unfold goK at h
    unfold topGo
    cases he : through t with
    | true => rw [he] at h; cases h
    | false =>
      rw [he] at h
      cases hk : stepOk n0 ann t with
      | false => rw [hk] at h; cases h
      | true =>
        rw [hk] at h
        cases hs : stepT (denote tb) p w s t with
        | none => rw [hs] at h; cases h
        | some r =>
          obtain ⟨s₂, t₂⟩ := r
          rw [hs] at h
          have h3 : (frS s₂ fun s' => goK (stepT (denote tb) p w) n0 ann m s' t₂) = some (s', t') := h
          rw [frS_eq] at h3
          rw [stepT_spec hs]
          exact goK_ok h3
/-! ### the opening -/
def opF (st : Program → SharedT → Thread → Option (SharedT × Thread)) (fence : Program → Shared → Option Shared) (M : Nat) (p : Program) : Option (SharedT × Option Value) := match impF (st (opening p)) M (startT (opening p)) (start (opening p)).2 with
  | some s => (match fence p s.abs with
    | some s0 => (match s0.heap.isNs mainGlobals && s0.gens.size == 0 with
      | true => (match treeOf s0 with
        | some x => some (x, s0.heap.nsMap mainGlobals "__annotations__")
        | none => none)
      | false => none)
    | none => none)
  | none => none
theorem opF_ok {M : Nat} {p : Program} {w : World} {x : SharedT} {ann : Option Value} (h : opF (fun q => stepT (denote treeTable) q w) fenceModules? M p = some (x, ann)) :
    fencedOpening treeTable p w M = some x.abs ∧ (x.abs.heap.isNs mainGlobals && x.abs.gens.size == 0) = true ∧ x.abs.heap.nsMap mainGlobals "__annotations__" = ann ∧ x.abs.heap.objs.size = x.n := by
  unfold opF at h
  cases e1 : impF (stepT (denote treeTable) (opening p) w) M (startT (opening p)) (start (opening p)).2 with
  | none => rw [e1] at h; cases h
  | some s =>
    rw [e1] at h
    dsimp only at h
    have a1 := impF_ok e1
    rw [startT_eq] at a1
    cases e2 : fenceModules? p s.abs with
    | none => rw [e2] at h; cases h
    | some z =>
      rw [e2] at h
      dsimp only at h
      cases e3 : z.heap.isNs mainGlobals && z.gens.size == 0 with
      | false => rw [e3] at h; cases h
      | true =>
        rw [e3] at h
        dsimp only at h
        cases e4 : treeOf z with
        | none => rw [e4] at h; cases h
        | some y =>
          rw [e4] at h
          dsimp only at h
          obtain ⟨rfl, rfl⟩ := Prod.mk.inj (Option.some.inj h)
          obtain ⟨ex, en⟩ := treeOf_eq e4
          rw [ex]
          refine ⟨?_, e3, rfl, en⟩
          unfold fencedOpening
          rw [a1]
          exact e2
/-- the state behind the opening -/
def s0F (M : Nat) (p : Program) (w : World) : SharedT := match opF (fun q => stepQ (denQ tabQ) q w) fenceQ M p with
  | some (x, _) => x
  | none => ⟨.nil, 0, {}, #[], {}, 0, {}⟩
theorem op_of {M : Nat} {p : Program} {w : World} {ann : Option Value} (h : (opF (fun q => stepQ (denQ tabQ) q w) fenceQ M p).map (·.2) = some ann) :
    ∃ x, opF (fun q => stepQ (denQ tabQ) q w) fenceQ M p = some (x, ann) ∧ x.abs = (s0F M p w).abs ∧ x.n = (s0F M p w).n := by
  obtain ⟨⟨x, a⟩, hx, he⟩ := Option.map_eq_some_iff.mp h
  have he : a = ann := he
  subst he
  have e : s0F M p w = x := by unfold s0F; rw [hx]
  exact ⟨x, hx, by rw [e], by rw [e]⟩
/-! ### reached -/
def Rch (p : Program) (w : World) (n0 : Nat) (ann : Option Value) (s0 : Shared) (N : Nat) (s : Shared) (t : Thread) : Prop := ∀ M r, topRun treeTable p w n0 ann M s t = some r → topRun treeTable p w n0 ann (N + M) s0 (topStub p) = some r
section
variable {p : Program} {w : World} {n0 : Nat} {ann : Option Value} {s0 : Shared} {N : Nat} {s s' : SharedT} {t t' : Thread} {env : Env} {q : Pos} {c : Code} {pos pos' : Pos} {b l rest : List Stmt}
theorem Rch.go {m : Nat} (h : goK (stepQ (denQ tabQ) p w) n0 ann m s (topStub p) = some (s', t')) : Rch p w n0 ann s.abs m s'.abs t' := fun M r k => by
  rw [← stepQ_eq, ← denQ_eq, ← tabQ_eq] at h
  exact go_top (goK_ok h) k
theorem Rch.block {m : Nat} (R : Rch p w n0 ann s0 N s.abs ⟨denote treeTable (.body b env), c, pos, [topFrame q]⟩) (h : segF (stepQ (denQ tabQ) p w) n0 ann 1 m s (blockOf b env c pos [topFrame q]) = some (.next, s', c, pos')) :
    Rch p w n0 ann s0 (N + m) s'.abs (restOf b env c pos' [topFrame q]) := fun M r k => by
  rw [← stepQ_eq, ← denQ_eq, ← tabQ_eq] at h
  rw [show N + m + M = N + (m + M) by omega]
  exact R _ r (piece_block (segF_ok h) k)
theorem Rch.piece {m : Nat} (R : Rch p w n0 ann s0 N s.abs (restOf (l ++ rest) env c pos [topFrame q])) (h : segF (stepQ (denQ tabQ) p w) n0 ann 1 m s (piecesOf l env c pos [topFrame q]) = some (.next, s', c, pos')) :
    Rch p w n0 ann s0 (N + m) s'.abs (restOf rest env c pos' [topFrame q]) := fun M r k => by
  rw [← stepQ_eq, ← denQ_eq, ← tabQ_eq] at h
  rw [show N + m + M = N + (m + M) by omega]
  exact R _ r (piece_app (segF_ok h) k)
end
/-! ### the head -/
theorem left_cut {p q : Program} {loose : List Str} {Xt : Shared → Bool} {α : Type} {Yf : Shared → α} {Ya : World → α} {N0 N M L : Nat} {S0 S1 : World → SharedT} {ann : Option Value} {n0 : Nat} {env : Env} {fp pos : Pos} {c : Code}
    (hO : ∀ w, ∃ x, opF (fun q => stepQ (denQ tabQ) q w) fenceQ N0 p = some (x, ann) ∧ x.abs = (S0 w).abs ∧ x.n = (S0 w).n) (hn : ∀ w, (S0 w).n = n0)
    (hR : ∀ w, Rch p w n0 ann (S0 w).abs N (S1 w).abs (restOf [] env c pos [topFrame fp]))
    (fin : ∀ w, (goF (stepQ (denQ tabQ) p w) n0 ann M (S1 w) ⟨doneF .next, c, pos, [topFrame fp]⟩).map (fun s1 => (looksF p (S0 w).abs.heap s1.abs, seenQ q loose (importedModules p.main.body) Xt s1.abs, Yf s1.abs)) = some (true, openGood q loose, Ya w))
    (l1 : N0 ≤ L) (l2 : N + M ≤ L) : LeftO p q loose Xt Yf Ya L true := fun w => by
  obtain ⟨x, o, ox, on⟩ := hO w
  rw [← stepQ_eq, ← denQ_eq, ← tabQ_eq, ← fenceQ_eq] at o
  obtain ⟨a, b, d, e⟩ := opF_ok o
  rw [ox] at a b d e
  rw [on] at e
  obtain ⟨s1, hs, hv⟩ := Option.map_eq_some_iff.mp (fin w)
  obtain ⟨l3, l45⟩ := Prod.mk.inj hv
  obtain ⟨l4, l5⟩ := Prod.mk.inj l45
  rw [← stepQ_eq, ← denQ_eq, ← tabQ_eq] at hs
  have r := hR w M s1.abs (goF_ok hs)
  have r := topRun_mono (L - (N + M)) _ _ _ _ r
  rw [show N + M + (L - (N + M)) = L by omega] at r
  have a' : fencedOpening treeTable p w L = some (S0 w).abs := by
    unfold fencedOpening at a ⊢
    obtain ⟨z, hz, hz2⟩ := Option.bind_eq_some_iff.mp a
    have := importEnds_mono (L - N0) _ _ _ _ hz
    rw [show N0 + (L - N0) = L by omega] at this
    rw [this]
    exact hz2
  have l1' : (staticsOk (importedModules p.main.body) (S0 w).abs.heap s1.abs.heap && namesBound p s1.abs.heap && gensDone s1.abs && laidKept (S0 w).abs.heap s1.abs.heap) = true := l3
  have t : topFrom treeTable p w L (S0 w).abs = some s1.abs := by
    unfold topFrom
    rw [b]
    show (topRun treeTable p w (S0 w).abs.heap.objs.size ((S0 w).abs.heap.nsMap mainGlobals "__annotations__") L (S0 w).abs (topStub p)).bind _ = _
    rw [d, e, hn w, r]
    show (match staticsOk (importedModules p.main.body) (S0 w).abs.heap s1.abs.heap && namesBound p s1.abs.heap && gensDone s1.abs && laidKept (S0 w).abs.heap s1.abs.heap with | true => some s1.abs | false => none) = _
    rw [l1']
  unfold openEnds
  rw [a']
  show (topFrom treeTable p w L (S0 w).abs).map _ = _
  rw [t]
  exact congrArg some (Prod.ext ((seenQ_eq q loose (importedModules p.main.body) Xt s1.abs).trans l4) l5)
/-- the end's equation at a world -/
def FinEq (r : OpenRow) (q : Program) (H : Hook) (ob : SharedT → H.α) (M : Nat) (loose : List PySem.Str) (n0 : Nat) (ann : Option Value) (c : Code) (pos fp : Pos) (S0 S1 : World → SharedT) (w : World) : Prop :=
  (goF (stepQ (denQ tabQ) r.prog w) n0 ann M (S1 w) ⟨doneF .next, c, pos, [topFrame fp]⟩).map (fun s1 => (looksF r.prog (S0 w).abs.heap s1.abs, seenQ q loose (importedModules r.prog.main.body) (fun s => xlAt q [] s && recOk r.toRowW.records s) s1.abs, ob s1)) = some (true, openGood q loose, H.val w)
theorem head_cut {r : OpenRow} {q : Program} {H : Hook} {ob : SharedT → H.α} {loose : List PySem.Str} {d : DefRec} {kwd : List (PySem.Str × PySem.Expr)} (ho : ∀ s : SharedT, ob s = H.obs s.abs)
    {N0 N M : Nat} {S0 S1 : World → SharedT} {ann : Option Value} {n0 : Nat} {env : Env} {fp pos : Pos} {c : Code}
    (hO : ∀ w, ∃ x, opF (fun q => stepQ (denQ tabQ) q w) fenceQ N0 r.prog = some (x, ann) ∧ x.abs = (S0 w).abs ∧ x.n = (S0 w).n) (hn : ∀ w, (S0 w).n = n0)
    (hR : ∀ w, Rch r.prog w n0 ann (S0 w).abs N (S1 w).abs (restOf [] env c pos [topFrame fp]))
    (fin : ∀ w, FinEq r q H ob M loose n0 ann c pos fp S0 S1 w)
    (hdef : defOf q r.name = some (d, kwd)) (hp : r.prog.theDef r.name = some (d.params, d.body, d.scope)) (hk : kwWritten? d.params.kwonlyargs d.params.kw_defaults = some kwd)
    (hwr : (!r.writes || r.records.isEmpty) = true) (k1 : r.wellSaid = true) (ok : (chainsOk q && opensWell r.prog && (frees r.toRowW && r.within.isEmpty)) = true) (hb : r.prog.bare) (hw : r.toRowW.promised)
    (call : WalkO q loose (XL q []) H.says r.toRowW d kwd fun f vs => PySem.call f vs) : r.Holds := by
  have left : LeftO r.prog q loose (fun s => xlAt q [] s && recOk r.toRowW.records s) H.obs H.val (N0 + (N + M)) true :=
    left_cut hO hn hR (M := M) (fun w => by
      have z := fin w
      have eo : ob = fun s => H.obs s.abs := funext ho
      rw [eo] at z
      exact z) (by omega) (by omega)
  exact holds_open (r := r) (q := q) (loose := loose) (XP := XL q []) (YP := H.says) (d := d) (kwd := kwd) left H.of H.keeps (fun s z => xl_of s (Bool.and_eq_true_iff.mp z).1) XL.keeps hdef hp hk (fun s z => recFacts_of (Bool.and_eq_true_iff.mp z).2) hwr k1 ok hb hw call
end HC
end
end

section
set_option Elab.async false
set_option linter.all false
set_option maxRecDepth 100000
set_option maxHeartbeats 0
noncomputable section
namespace Hd
open PySem PySem.W PySem.Calls PyProof.Rows HandSHeadRun HC
abbrev pr : Program := PySem.Challenge.pw_askedatonce_k00_errors_of_questions_at_o
def s (x : String) (t : Nat) : Value := .str (PySem.Str.ofString x) t
def e (P : Params) (x : String) (t : Nat) (v : Value) : DictEntry := ⟨PyData.keyHash P (PySem.Str.ofString x), .str (PySem.Str.ofString x) t, v⟩
def tp (i : Nat) : Stmt := pr.main.body.getD i (.Pass ⟨0, 0, 0, 0⟩)
def ic (i j : Nat) : Stmt := (match tp i with | .ClassDef _ _ _ b .. => b | _ => []).getD j (.Pass ⟨0, 0, 0, 0⟩)
def fnD (s : Stmt) (qn : Str) (g : Addr) (cl : List (Str × Addr)) (df kd doc pm : Value) (an : Option Addr) (code ct : Value) (b : Addr) : FuncData := match s with
  | .FunctionDef n a body _ _ _ sc _ _ _ => { name := n, qualname := qn, params := a, body := .stmts body, scope := sc, globals := g, closure := cl, defaults := df, kwdefaults := kd, doc := doc, pyModule := pm, annotations := an, code := code, closureTuple := ct, builtins := b }
  | _ => default
def insL : List (Nat × Obj) → BT → BT
  | [], t => t
  | (a, o) :: r, t => insL r (t.ins a o)
-- boot objs 11 s0 objs 11 pre 12 block 0 fin 1 pieces [9, 186, 261, 261, 261, 261, 261, 261, 261, 261, 261, 261, 261, 261, 261, 261, 261, 261, 261, 263, 261, 259, 263, 9, 29, 35, 30, 26, 29, 33, 33, 35]
def n0 : Nat := 11
def annT : Option Value := (some (.ref 6))
def envT : Env := { scope := pr.main.scope, locals := mainNs, globals := mainNs, cells := [], code := (.ref 13), frame := some 14 }
def bT : List Stmt := behindTheImports pr
def cT : Code := .body bT envT
def fp : Pos := ⟨0, 0, 0, 0⟩
def S0 (w : World) : SharedT := s0F 4000 pr w
def T0 (w : World) : BT := (S0 w).tree
def o1_11 (P : Params) : Obj := ⟨(.type "tuple"), none, (.seq #[] 0), #[]⟩
def o1_12 (P : Params) : Obj := ⟨.none, none, (.fields #[]), #[]⟩
def o1_13 (P : Params) : Obj := ⟨(.type "code"), none, (.fields #[(s "<module>" 182), (s "<module>" 183), (s "/claim/cut.py" 184), (.int (1) 0), (.int (0) 0), (.int (0) 0), (.int (0) 0), (.int (0) 0), (.ref 11), (.bool false), (.int (181) 0), (.ref 12), .none, .none, .none, .none, (.int (185) 0), (.int (1) 0), (s "/claim/cut.py" 186)]), #[]⟩
def o1_14 (P : Params) : Obj := ⟨(.type "frame"), none, .plain, #[(some (.ref 13)), (some (.ref 3)), (some (.ref 3)), none, (some (s "__main__" 164)), none, (some (.ref 0))]⟩
def T1 (w : World) : BT := insL [(11, o1_11 w.params), (12, o1_12 w.params), (13, o1_13 w.params), (14, o1_14 w.params)] (T0 w)
def S1 (w : World) : SharedT := ⟨T1 w, 15, {}, (Array.mk []), ⟨0, 0, 0, 0⟩, 187, (startT (opening pr)).os⟩
def T2 (w : World) : BT := insL [] (T1 w)
def S2 (w : World) : SharedT := ⟨T2 w, 15, {}, (Array.mk []), ⟨0, 0, 0, 0⟩, 187, (startT (opening pr)).os⟩
def pos1 : Pos := ⟨0, 0, 0, 0⟩
def pos2 : Pos := ⟨0, 0, 0, 0⟩
theorem op0 (w : World) : (opF (fun q => stepQ (denQ tabQ) q w) fenceQ 4000 pr).map (·.2) = some annT := by
  kernel_rfl
theorem op (w : World) : ∃ x, opF (fun q => stepQ (denQ tabQ) q w) fenceQ 4000 pr = some (x, annT) ∧ x.abs = (S0 w).abs ∧ x.n = (S0 w).n := op_of (op0 w)
theorem opn (w : World) : (S0 w).n = n0 := by
  kernel_rfl
theorem pre (w : World) : goK (stepQ (denQ tabQ) pr w) n0 annT 12 (S0 w) (topStub pr) = some (S1 w, ⟨denQ tabQ cT, cT, pos1, [topFrame fp]⟩) := by
  kernel_rfl
theorem blk (w : World) : segF (stepQ (denQ tabQ) pr w) n0 annT 1 1 (S1 w) (blockOf bT envT cT pos1 [topFrame fp]) = some (.next, S2 w, cT, pos2) := by
  kernel_rfl
def o3_3 (P : Params) : Obj := ⟨(.type "dict"), none, (.dict #[e P "__name__" 165 (s "askedatonce.errors" 187), e P "__doc__" 166 .none, e P "__package__" 167 .none, e P "__loader__" 168 (.builtin "__main__.__loader__#opaque"), e P "__spec__" 169 .none, e P "__annotations__" 170 (.ref 6), e P "__builtins__" 171 (.ref 4), e P "__file__" 173 (s "/claim/cut.py" 172), e P "__cached__" 174 .none, e P "OnceError" 206 (.ref 24), e P "BadNumber" 233 (.ref 46), e P "BadFormat" 260 (.ref 67), e P "BadWay" 287 (.ref 88), e P "BadName" 314 (.ref 109), e P "BadForm" 341 (.ref 130), e P "BadProgram" 368 (.ref 151), e P "BadValues" 395 (.ref 172), e P "BadBox" 422 (.ref 193)] 18), #[]⟩
def o3_12 (P : Params) : Obj := ⟨.none, none, (.fields #[(.int (2) 0), (.int (0) 0), (.ref 20), (.int (4) 0), (.int (0) 0), (.ref 34), (.int (9) 0), (.int (0) 0), (.ref 55), (.int (14) 0), (.int (0) 0), (.ref 76), (.int (19) 0), (.int (0) 0), (.ref 97), (.int (24) 0), (.int (0) 0), (.ref 118), (.int (29) 0), (.int (0) 0), (.ref 139), (.int (34) 0), (.int (0) 0), (.ref 160), (.int (39) 0), (.int (0) 0), (.ref 181)]), #[]⟩
def o3_15 (P : Params) : Obj := ⟨(.type "tuple"), none, (.seq #[(.type "ValueError")] 0), #[]⟩
def o3_16 (P : Params) : Obj := ⟨(.type "builtin_function_or_method"), none, (.fields #[(.builtin "type.__prepare__"), (.type "type")]), #[]⟩
def o3_17 (P : Params) : Obj := ⟨(.type "dict"), none, (.dict #[e P "__module__" 196 (s "askedatonce.errors" 187), e P "__qualname__" 198 (s "OnceError" 197), e P "__firstlineno__" 200 (.int (2) 199), e P "__static_attributes__" 201 (.ref 22)] 4), #[]⟩
def o3_18 (P : Params) : Obj := ⟨(.type "tuple"), none, (.seq #[] 0), #[]⟩
def o3_19 (P : Params) : Obj := ⟨.none, none, (.fields #[]), #[]⟩
def o3_20 (P : Params) : Obj := ⟨(.type "code"), none, (.fields #[(s "OnceError" 191), (s "OnceError" 192), (s "/claim/cut.py" 193), (.int (2) 0), (.int (0) 0), (.int (0) 0), (.int (0) 0), (.int (0) 0), (.ref 18), (.bool false), (.int (181) 0), (.ref 19), .none, .none, .none, .none, (.int (194) 0), (.int (2) 0), (s "/claim/cut.py" 195)]), #[]⟩
def o3_21 (P : Params) : Obj := ⟨(.type "frame"), none, .plain, #[(some (.ref 20)), (some (.ref 3)), (some (.ref 17)), none, (some (s "askedatonce.errors" 187)), none, (some (.ref 0))]⟩
def o3_22 (P : Params) : Obj := ⟨(.type "tuple"), none, (.seq #[] 0), #[]⟩
def o3_23 (P : Params) : Obj := ⟨(.type "dict"), none, (.dict #[e P "__module__" 196 (s "askedatonce.errors" 187), e P "__firstlineno__" 200 (.int (2) 199), e P "__static_attributes__" 201 (.ref 22), e P "__weakref__" 203 (.ref 25), e P "__doc__" 204 .none] 3), #[]⟩
def o3_24 (P : Params) : Obj := ⟨(.type "type"), none, (.cls ⟨(PySem.Str.ofString "OnceError"), [(.type "ValueError")], [(.ref 24), (.type "ValueError"), (.type "Exception"), (.type "BaseException"), (.type "object")], 23, (PySem.Str.ofString "OnceError"), true, [], [(.ref 46), (.ref 67), (.ref 88), (.ref 109), (.ref 130), (.ref 151), (.ref 172), (.ref 193)], false, none, false⟩), #[(some (.ref 15)), none, (some (s "OnceError" 189)), (some (s "OnceError" 197)), (some (.builtin "ValueError.__new__")), (some (.bool true))]⟩
def o3_25 (P : Params) : Obj := ⟨(.type "getset_descriptor"), none, (.fields #[(s "__weakref__" 202), (.ref 24), (.builtin "ExceptionGroup.__weakref__"), .none]), #[]⟩
def o3_26 (P : Params) : Obj := ⟨(.type "super"), none, (.fields #[(.ref 24), (.ref 24), (.ref 24)]), #[]⟩
def o3_27 (P : Params) : Obj := ⟨(.type "builtin_function_or_method"), none, (.fields #[(.builtin "object.__init_subclass__"), (.ref 24)]), #[]⟩
def o3_28 (P : Params) : Obj := ⟨(.type "tuple"), none, (.seq #[(.ref 24)] 0), #[]⟩
def o3_29 (P : Params) : Obj := ⟨(.type "builtin_function_or_method"), none, (.fields #[(.builtin "type.__prepare__"), (.type "type")]), #[]⟩
def o3_30 (P : Params) : Obj := ⟨(.type "dict"), none, (.dict #[e P "__module__" 214 (s "askedatonce.errors" 187), e P "__qualname__" 216 (s "BadNumber" 215), e P "__firstlineno__" 218 (.int (4) 217), e P "__init__" 227 (.ref 43), e P "__static_attributes__" 229 (.ref 44), e P "__classcell__" 230 (.ref 31)] 6), #[]⟩
def o3_31 (P : Params) : Obj := ⟨(.type "cell"), none, (.cell (some (.ref 46))), #[]⟩
def o3_32 (P : Params) : Obj := ⟨(.type "tuple"), none, (.seq #[] 0), #[]⟩
def o3_33 (P : Params) : Obj := ⟨.none, none, (.fields #[(.int (6) 0), (.int (4) 0), (.ref 42)]), #[]⟩
def o3_34 (P : Params) : Obj := ⟨(.type "code"), none, (.fields #[(s "BadNumber" 209), (s "BadNumber" 210), (s "/claim/cut.py" 211), (.int (4) 0), (.int (0) 0), (.int (0) 0), (.int (0) 0), (.int (0) 0), (.ref 32), (.bool false), (.int (181) 0), (.ref 33), .none, .none, .none, .none, (.int (212) 0), (.int (4) 0), (s "/claim/cut.py" 213)]), #[]⟩
def o3_35 (P : Params) : Obj := ⟨(.type "frame"), none, .plain, #[(some (.ref 34)), (some (.ref 3)), (some (.ref 30)), none, (some (s "askedatonce.errors" 187)), none, (some (.ref 0))]⟩
def o3_36 (P : Params) : Obj := ⟨(.type "tuple"), none, (.seq #[(.ref 31)] 0), #[]⟩
def o3_37 (P : Params) : Obj := ⟨(.type "tuple"), none, (.seq #[(s "__class__" 222)] 0), #[]⟩
def o3_38 (P : Params) : Obj := ⟨.none, none, (.fields #[]), #[]⟩
def o3_39 (P : Params) : Obj := ⟨(.type "tuple"), none, (.seq #[(s "self" 223), (s "part" 224)] 0), #[]⟩
def o3_40 (P : Params) : Obj := ⟨(.type "tuple"), none, (.seq #[] 0), #[]⟩
def o3_41 (P : Params) : Obj := ⟨.none, none, (.func (fnD (ic 2 0) (PySem.Str.ofString "BadNumber.__init__") 0 [] .none .none .none .none none .none .none 0)), #[]⟩
def o3_42 (P : Params) : Obj := ⟨(.type "code"), none, (.fields #[(s "__init__" 219), (s "BadNumber.__init__" 220), (s "/claim/cut.py" 221), (.int (6) 0), (.int (2) 0), (.int (0) 0), (.int (0) 0), (.int (3) 0), (.ref 37), (.bool true), (.int (181) 0), (.ref 38), .none, (.ref 39), (.ref 40), (.ref 41), (.int (225) 0), (.int (6) 0), (s "/claim/cut.py" 226)]), #[]⟩
def o3_43 (P : Params) : Obj := ⟨(.type "function"), none, (.func (fnD (ic 2 0) (PySem.Str.ofString "BadNumber.__init__") 3 [((PySem.Str.ofString "__class__"), 31)] .none .none .none (s "askedatonce.errors" 187) none (.ref 42) (.ref 36) 0)), #[]⟩
def o3_44 (P : Params) : Obj := ⟨(.type "tuple"), none, (.seq #[(s "part" 228)] 0), #[]⟩
def o3_45 (P : Params) : Obj := ⟨(.type "dict"), none, (.dict #[e P "__module__" 214 (s "askedatonce.errors" 187), e P "__firstlineno__" 218 (.int (4) 217), e P "__init__" 227 (.ref 43), e P "__static_attributes__" 229 (.ref 44), e P "__doc__" 231 .none] 3), #[]⟩
def o3_46 (P : Params) : Obj := ⟨(.type "type"), none, (.cls ⟨(PySem.Str.ofString "BadNumber"), [(.ref 24)], [(.ref 46), (.ref 24), (.type "ValueError"), (.type "Exception"), (.type "BaseException"), (.type "object")], 45, (PySem.Str.ofString "BadNumber"), true, [], [], false, none, false⟩), #[(some (.ref 28)), none, (some (s "BadNumber" 207)), (some (s "BadNumber" 215)), (some (.builtin "ValueError.__new__")), (some (.bool true))]⟩
def o3_47 (P : Params) : Obj := ⟨(.type "super"), none, (.fields #[(.ref 46), (.ref 46), (.ref 46)]), #[]⟩
def o3_48 (P : Params) : Obj := ⟨(.type "builtin_function_or_method"), none, (.fields #[(.builtin "object.__init_subclass__"), (.ref 46)]), #[]⟩
def o3_49 (P : Params) : Obj := ⟨(.type "tuple"), none, (.seq #[(.ref 24)] 0), #[]⟩
def o3_50 (P : Params) : Obj := ⟨(.type "builtin_function_or_method"), none, (.fields #[(.builtin "type.__prepare__"), (.type "type")]), #[]⟩
def o3_51 (P : Params) : Obj := ⟨(.type "dict"), none, (.dict #[e P "__module__" 241 (s "askedatonce.errors" 187), e P "__qualname__" 243 (s "BadFormat" 242), e P "__firstlineno__" 245 (.int (9) 244), e P "__init__" 254 (.ref 64), e P "__static_attributes__" 256 (.ref 65), e P "__classcell__" 257 (.ref 52)] 6), #[]⟩
def o3_52 (P : Params) : Obj := ⟨(.type "cell"), none, (.cell (some (.ref 67))), #[]⟩
def o3_53 (P : Params) : Obj := ⟨(.type "tuple"), none, (.seq #[] 0), #[]⟩
def o3_54 (P : Params) : Obj := ⟨.none, none, (.fields #[(.int (11) 0), (.int (4) 0), (.ref 63)]), #[]⟩
def o3_55 (P : Params) : Obj := ⟨(.type "code"), none, (.fields #[(s "BadFormat" 236), (s "BadFormat" 237), (s "/claim/cut.py" 238), (.int (9) 0), (.int (0) 0), (.int (0) 0), (.int (0) 0), (.int (0) 0), (.ref 53), (.bool false), (.int (181) 0), (.ref 54), .none, .none, .none, .none, (.int (239) 0), (.int (9) 0), (s "/claim/cut.py" 240)]), #[]⟩
def o3_56 (P : Params) : Obj := ⟨(.type "frame"), none, .plain, #[(some (.ref 55)), (some (.ref 3)), (some (.ref 51)), none, (some (s "askedatonce.errors" 187)), none, (some (.ref 0))]⟩
def o3_57 (P : Params) : Obj := ⟨(.type "tuple"), none, (.seq #[(.ref 52)] 0), #[]⟩
def o3_58 (P : Params) : Obj := ⟨(.type "tuple"), none, (.seq #[(s "__class__" 249)] 0), #[]⟩
def o3_59 (P : Params) : Obj := ⟨.none, none, (.fields #[]), #[]⟩
def o3_60 (P : Params) : Obj := ⟨(.type "tuple"), none, (.seq #[(s "self" 250), (s "part" 251)] 0), #[]⟩
def o3_61 (P : Params) : Obj := ⟨(.type "tuple"), none, (.seq #[] 0), #[]⟩
def o3_62 (P : Params) : Obj := ⟨.none, none, (.func (fnD (ic 3 0) (PySem.Str.ofString "BadFormat.__init__") 0 [] .none .none .none .none none .none .none 0)), #[]⟩
def o3_63 (P : Params) : Obj := ⟨(.type "code"), none, (.fields #[(s "__init__" 246), (s "BadFormat.__init__" 247), (s "/claim/cut.py" 248), (.int (11) 0), (.int (2) 0), (.int (0) 0), (.int (0) 0), (.int (3) 0), (.ref 58), (.bool true), (.int (181) 0), (.ref 59), .none, (.ref 60), (.ref 61), (.ref 62), (.int (252) 0), (.int (11) 0), (s "/claim/cut.py" 253)]), #[]⟩
def o3_64 (P : Params) : Obj := ⟨(.type "function"), none, (.func (fnD (ic 3 0) (PySem.Str.ofString "BadFormat.__init__") 3 [((PySem.Str.ofString "__class__"), 52)] .none .none .none (s "askedatonce.errors" 187) none (.ref 63) (.ref 57) 0)), #[]⟩
def o3_65 (P : Params) : Obj := ⟨(.type "tuple"), none, (.seq #[(s "part" 255)] 0), #[]⟩
def o3_66 (P : Params) : Obj := ⟨(.type "dict"), none, (.dict #[e P "__module__" 241 (s "askedatonce.errors" 187), e P "__firstlineno__" 245 (.int (9) 244), e P "__init__" 254 (.ref 64), e P "__static_attributes__" 256 (.ref 65), e P "__doc__" 258 .none] 3), #[]⟩
def o3_67 (P : Params) : Obj := ⟨(.type "type"), none, (.cls ⟨(PySem.Str.ofString "BadFormat"), [(.ref 24)], [(.ref 67), (.ref 24), (.type "ValueError"), (.type "Exception"), (.type "BaseException"), (.type "object")], 66, (PySem.Str.ofString "BadFormat"), true, [], [], false, none, false⟩), #[(some (.ref 49)), none, (some (s "BadFormat" 234)), (some (s "BadFormat" 242)), (some (.builtin "ValueError.__new__")), (some (.bool true))]⟩
def o3_68 (P : Params) : Obj := ⟨(.type "super"), none, (.fields #[(.ref 67), (.ref 67), (.ref 67)]), #[]⟩
def o3_69 (P : Params) : Obj := ⟨(.type "builtin_function_or_method"), none, (.fields #[(.builtin "object.__init_subclass__"), (.ref 67)]), #[]⟩
def o3_70 (P : Params) : Obj := ⟨(.type "tuple"), none, (.seq #[(.ref 24)] 0), #[]⟩
def o3_71 (P : Params) : Obj := ⟨(.type "builtin_function_or_method"), none, (.fields #[(.builtin "type.__prepare__"), (.type "type")]), #[]⟩
def o3_72 (P : Params) : Obj := ⟨(.type "dict"), none, (.dict #[e P "__module__" 268 (s "askedatonce.errors" 187), e P "__qualname__" 270 (s "BadWay" 269), e P "__firstlineno__" 272 (.int (14) 271), e P "__init__" 281 (.ref 85), e P "__static_attributes__" 283 (.ref 86), e P "__classcell__" 284 (.ref 73)] 6), #[]⟩
def o3_73 (P : Params) : Obj := ⟨(.type "cell"), none, (.cell (some (.ref 88))), #[]⟩
def o3_74 (P : Params) : Obj := ⟨(.type "tuple"), none, (.seq #[] 0), #[]⟩
def o3_75 (P : Params) : Obj := ⟨.none, none, (.fields #[(.int (16) 0), (.int (4) 0), (.ref 84)]), #[]⟩
def o3_76 (P : Params) : Obj := ⟨(.type "code"), none, (.fields #[(s "BadWay" 263), (s "BadWay" 264), (s "/claim/cut.py" 265), (.int (14) 0), (.int (0) 0), (.int (0) 0), (.int (0) 0), (.int (0) 0), (.ref 74), (.bool false), (.int (181) 0), (.ref 75), .none, .none, .none, .none, (.int (266) 0), (.int (14) 0), (s "/claim/cut.py" 267)]), #[]⟩
def o3_77 (P : Params) : Obj := ⟨(.type "frame"), none, .plain, #[(some (.ref 76)), (some (.ref 3)), (some (.ref 72)), none, (some (s "askedatonce.errors" 187)), none, (some (.ref 0))]⟩
def o3_78 (P : Params) : Obj := ⟨(.type "tuple"), none, (.seq #[(.ref 73)] 0), #[]⟩
def o3_79 (P : Params) : Obj := ⟨(.type "tuple"), none, (.seq #[(s "__class__" 276)] 0), #[]⟩
def o3_80 (P : Params) : Obj := ⟨.none, none, (.fields #[]), #[]⟩
def o3_81 (P : Params) : Obj := ⟨(.type "tuple"), none, (.seq #[(s "self" 277), (s "value" 278)] 0), #[]⟩
def o3_82 (P : Params) : Obj := ⟨(.type "tuple"), none, (.seq #[] 0), #[]⟩
def o3_83 (P : Params) : Obj := ⟨.none, none, (.func (fnD (ic 4 0) (PySem.Str.ofString "BadWay.__init__") 0 [] .none .none .none .none none .none .none 0)), #[]⟩
def o3_84 (P : Params) : Obj := ⟨(.type "code"), none, (.fields #[(s "__init__" 273), (s "BadWay.__init__" 274), (s "/claim/cut.py" 275), (.int (16) 0), (.int (2) 0), (.int (0) 0), (.int (0) 0), (.int (3) 0), (.ref 79), (.bool true), (.int (181) 0), (.ref 80), .none, (.ref 81), (.ref 82), (.ref 83), (.int (279) 0), (.int (16) 0), (s "/claim/cut.py" 280)]), #[]⟩
def o3_85 (P : Params) : Obj := ⟨(.type "function"), none, (.func (fnD (ic 4 0) (PySem.Str.ofString "BadWay.__init__") 3 [((PySem.Str.ofString "__class__"), 73)] .none .none .none (s "askedatonce.errors" 187) none (.ref 84) (.ref 78) 0)), #[]⟩
def o3_86 (P : Params) : Obj := ⟨(.type "tuple"), none, (.seq #[(s "value" 282)] 0), #[]⟩
def o3_87 (P : Params) : Obj := ⟨(.type "dict"), none, (.dict #[e P "__module__" 268 (s "askedatonce.errors" 187), e P "__firstlineno__" 272 (.int (14) 271), e P "__init__" 281 (.ref 85), e P "__static_attributes__" 283 (.ref 86), e P "__doc__" 285 .none] 3), #[]⟩
def o3_88 (P : Params) : Obj := ⟨(.type "type"), none, (.cls ⟨(PySem.Str.ofString "BadWay"), [(.ref 24)], [(.ref 88), (.ref 24), (.type "ValueError"), (.type "Exception"), (.type "BaseException"), (.type "object")], 87, (PySem.Str.ofString "BadWay"), true, [], [], false, none, false⟩), #[(some (.ref 70)), none, (some (s "BadWay" 261)), (some (s "BadWay" 269)), (some (.builtin "ValueError.__new__")), (some (.bool true))]⟩
def o3_89 (P : Params) : Obj := ⟨(.type "super"), none, (.fields #[(.ref 88), (.ref 88), (.ref 88)]), #[]⟩
def o3_90 (P : Params) : Obj := ⟨(.type "builtin_function_or_method"), none, (.fields #[(.builtin "object.__init_subclass__"), (.ref 88)]), #[]⟩
def o3_91 (P : Params) : Obj := ⟨(.type "tuple"), none, (.seq #[(.ref 24)] 0), #[]⟩
def o3_92 (P : Params) : Obj := ⟨(.type "builtin_function_or_method"), none, (.fields #[(.builtin "type.__prepare__"), (.type "type")]), #[]⟩
def o3_93 (P : Params) : Obj := ⟨(.type "dict"), none, (.dict #[e P "__module__" 295 (s "askedatonce.errors" 187), e P "__qualname__" 297 (s "BadName" 296), e P "__firstlineno__" 299 (.int (19) 298), e P "__init__" 308 (.ref 106), e P "__static_attributes__" 310 (.ref 107), e P "__classcell__" 311 (.ref 94)] 6), #[]⟩
def o3_94 (P : Params) : Obj := ⟨(.type "cell"), none, (.cell (some (.ref 109))), #[]⟩
def o3_95 (P : Params) : Obj := ⟨(.type "tuple"), none, (.seq #[] 0), #[]⟩
def o3_96 (P : Params) : Obj := ⟨.none, none, (.fields #[(.int (21) 0), (.int (4) 0), (.ref 105)]), #[]⟩
def o3_97 (P : Params) : Obj := ⟨(.type "code"), none, (.fields #[(s "BadName" 290), (s "BadName" 291), (s "/claim/cut.py" 292), (.int (19) 0), (.int (0) 0), (.int (0) 0), (.int (0) 0), (.int (0) 0), (.ref 95), (.bool false), (.int (181) 0), (.ref 96), .none, .none, .none, .none, (.int (293) 0), (.int (19) 0), (s "/claim/cut.py" 294)]), #[]⟩
def o3_98 (P : Params) : Obj := ⟨(.type "frame"), none, .plain, #[(some (.ref 97)), (some (.ref 3)), (some (.ref 93)), none, (some (s "askedatonce.errors" 187)), none, (some (.ref 0))]⟩
def o3_99 (P : Params) : Obj := ⟨(.type "tuple"), none, (.seq #[(.ref 94)] 0), #[]⟩
def o3_100 (P : Params) : Obj := ⟨(.type "tuple"), none, (.seq #[(s "__class__" 303)] 0), #[]⟩
def o3_101 (P : Params) : Obj := ⟨.none, none, (.fields #[]), #[]⟩
def o3_102 (P : Params) : Obj := ⟨(.type "tuple"), none, (.seq #[(s "self" 304), (s "value" 305)] 0), #[]⟩
def o3_103 (P : Params) : Obj := ⟨(.type "tuple"), none, (.seq #[] 0), #[]⟩
def o3_104 (P : Params) : Obj := ⟨.none, none, (.func (fnD (ic 5 0) (PySem.Str.ofString "BadName.__init__") 0 [] .none .none .none .none none .none .none 0)), #[]⟩
def o3_105 (P : Params) : Obj := ⟨(.type "code"), none, (.fields #[(s "__init__" 300), (s "BadName.__init__" 301), (s "/claim/cut.py" 302), (.int (21) 0), (.int (2) 0), (.int (0) 0), (.int (0) 0), (.int (3) 0), (.ref 100), (.bool true), (.int (181) 0), (.ref 101), .none, (.ref 102), (.ref 103), (.ref 104), (.int (306) 0), (.int (21) 0), (s "/claim/cut.py" 307)]), #[]⟩
def o3_106 (P : Params) : Obj := ⟨(.type "function"), none, (.func (fnD (ic 5 0) (PySem.Str.ofString "BadName.__init__") 3 [((PySem.Str.ofString "__class__"), 94)] .none .none .none (s "askedatonce.errors" 187) none (.ref 105) (.ref 99) 0)), #[]⟩
def o3_107 (P : Params) : Obj := ⟨(.type "tuple"), none, (.seq #[(s "value" 309)] 0), #[]⟩
def o3_108 (P : Params) : Obj := ⟨(.type "dict"), none, (.dict #[e P "__module__" 295 (s "askedatonce.errors" 187), e P "__firstlineno__" 299 (.int (19) 298), e P "__init__" 308 (.ref 106), e P "__static_attributes__" 310 (.ref 107), e P "__doc__" 312 .none] 3), #[]⟩
def o3_109 (P : Params) : Obj := ⟨(.type "type"), none, (.cls ⟨(PySem.Str.ofString "BadName"), [(.ref 24)], [(.ref 109), (.ref 24), (.type "ValueError"), (.type "Exception"), (.type "BaseException"), (.type "object")], 108, (PySem.Str.ofString "BadName"), true, [], [], false, none, false⟩), #[(some (.ref 91)), none, (some (s "BadName" 288)), (some (s "BadName" 296)), (some (.builtin "ValueError.__new__")), (some (.bool true))]⟩
def o3_110 (P : Params) : Obj := ⟨(.type "super"), none, (.fields #[(.ref 109), (.ref 109), (.ref 109)]), #[]⟩
def o3_111 (P : Params) : Obj := ⟨(.type "builtin_function_or_method"), none, (.fields #[(.builtin "object.__init_subclass__"), (.ref 109)]), #[]⟩
def o3_112 (P : Params) : Obj := ⟨(.type "tuple"), none, (.seq #[(.ref 24)] 0), #[]⟩
def o3_113 (P : Params) : Obj := ⟨(.type "builtin_function_or_method"), none, (.fields #[(.builtin "type.__prepare__"), (.type "type")]), #[]⟩
def o3_114 (P : Params) : Obj := ⟨(.type "dict"), none, (.dict #[e P "__module__" 322 (s "askedatonce.errors" 187), e P "__qualname__" 324 (s "BadForm" 323), e P "__firstlineno__" 326 (.int (24) 325), e P "__init__" 335 (.ref 127), e P "__static_attributes__" 337 (.ref 128), e P "__classcell__" 338 (.ref 115)] 6), #[]⟩
def o3_115 (P : Params) : Obj := ⟨(.type "cell"), none, (.cell (some (.ref 130))), #[]⟩
def o3_116 (P : Params) : Obj := ⟨(.type "tuple"), none, (.seq #[] 0), #[]⟩
def o3_117 (P : Params) : Obj := ⟨.none, none, (.fields #[(.int (26) 0), (.int (4) 0), (.ref 126)]), #[]⟩
def o3_118 (P : Params) : Obj := ⟨(.type "code"), none, (.fields #[(s "BadForm" 317), (s "BadForm" 318), (s "/claim/cut.py" 319), (.int (24) 0), (.int (0) 0), (.int (0) 0), (.int (0) 0), (.int (0) 0), (.ref 116), (.bool false), (.int (181) 0), (.ref 117), .none, .none, .none, .none, (.int (320) 0), (.int (24) 0), (s "/claim/cut.py" 321)]), #[]⟩
def o3_119 (P : Params) : Obj := ⟨(.type "frame"), none, .plain, #[(some (.ref 118)), (some (.ref 3)), (some (.ref 114)), none, (some (s "askedatonce.errors" 187)), none, (some (.ref 0))]⟩
def o3_120 (P : Params) : Obj := ⟨(.type "tuple"), none, (.seq #[(.ref 115)] 0), #[]⟩
def o3_121 (P : Params) : Obj := ⟨(.type "tuple"), none, (.seq #[(s "__class__" 330)] 0), #[]⟩
def o3_122 (P : Params) : Obj := ⟨.none, none, (.fields #[]), #[]⟩
def o3_123 (P : Params) : Obj := ⟨(.type "tuple"), none, (.seq #[(s "self" 331), (s "value" 332)] 0), #[]⟩
def o3_124 (P : Params) : Obj := ⟨(.type "tuple"), none, (.seq #[] 0), #[]⟩
def o3_125 (P : Params) : Obj := ⟨.none, none, (.func (fnD (ic 6 0) (PySem.Str.ofString "BadForm.__init__") 0 [] .none .none .none .none none .none .none 0)), #[]⟩
def o3_126 (P : Params) : Obj := ⟨(.type "code"), none, (.fields #[(s "__init__" 327), (s "BadForm.__init__" 328), (s "/claim/cut.py" 329), (.int (26) 0), (.int (2) 0), (.int (0) 0), (.int (0) 0), (.int (3) 0), (.ref 121), (.bool true), (.int (181) 0), (.ref 122), .none, (.ref 123), (.ref 124), (.ref 125), (.int (333) 0), (.int (26) 0), (s "/claim/cut.py" 334)]), #[]⟩
def o3_127 (P : Params) : Obj := ⟨(.type "function"), none, (.func (fnD (ic 6 0) (PySem.Str.ofString "BadForm.__init__") 3 [((PySem.Str.ofString "__class__"), 115)] .none .none .none (s "askedatonce.errors" 187) none (.ref 126) (.ref 120) 0)), #[]⟩
def o3_128 (P : Params) : Obj := ⟨(.type "tuple"), none, (.seq #[(s "value" 336)] 0), #[]⟩
def o3_129 (P : Params) : Obj := ⟨(.type "dict"), none, (.dict #[e P "__module__" 322 (s "askedatonce.errors" 187), e P "__firstlineno__" 326 (.int (24) 325), e P "__init__" 335 (.ref 127), e P "__static_attributes__" 337 (.ref 128), e P "__doc__" 339 .none] 3), #[]⟩
def o3_130 (P : Params) : Obj := ⟨(.type "type"), none, (.cls ⟨(PySem.Str.ofString "BadForm"), [(.ref 24)], [(.ref 130), (.ref 24), (.type "ValueError"), (.type "Exception"), (.type "BaseException"), (.type "object")], 129, (PySem.Str.ofString "BadForm"), true, [], [], false, none, false⟩), #[(some (.ref 112)), none, (some (s "BadForm" 315)), (some (s "BadForm" 323)), (some (.builtin "ValueError.__new__")), (some (.bool true))]⟩
def o3_131 (P : Params) : Obj := ⟨(.type "super"), none, (.fields #[(.ref 130), (.ref 130), (.ref 130)]), #[]⟩
def o3_132 (P : Params) : Obj := ⟨(.type "builtin_function_or_method"), none, (.fields #[(.builtin "object.__init_subclass__"), (.ref 130)]), #[]⟩
def o3_133 (P : Params) : Obj := ⟨(.type "tuple"), none, (.seq #[(.ref 24)] 0), #[]⟩
def o3_134 (P : Params) : Obj := ⟨(.type "builtin_function_or_method"), none, (.fields #[(.builtin "type.__prepare__"), (.type "type")]), #[]⟩
def o3_135 (P : Params) : Obj := ⟨(.type "dict"), none, (.dict #[e P "__module__" 349 (s "askedatonce.errors" 187), e P "__qualname__" 351 (s "BadProgram" 350), e P "__firstlineno__" 353 (.int (29) 352), e P "__init__" 362 (.ref 148), e P "__static_attributes__" 364 (.ref 149), e P "__classcell__" 365 (.ref 136)] 6), #[]⟩
def o3_136 (P : Params) : Obj := ⟨(.type "cell"), none, (.cell (some (.ref 151))), #[]⟩
def o3_137 (P : Params) : Obj := ⟨(.type "tuple"), none, (.seq #[] 0), #[]⟩
def o3_138 (P : Params) : Obj := ⟨.none, none, (.fields #[(.int (31) 0), (.int (4) 0), (.ref 147)]), #[]⟩
def o3_139 (P : Params) : Obj := ⟨(.type "code"), none, (.fields #[(s "BadProgram" 344), (s "BadProgram" 345), (s "/claim/cut.py" 346), (.int (29) 0), (.int (0) 0), (.int (0) 0), (.int (0) 0), (.int (0) 0), (.ref 137), (.bool false), (.int (181) 0), (.ref 138), .none, .none, .none, .none, (.int (347) 0), (.int (29) 0), (s "/claim/cut.py" 348)]), #[]⟩
def o3_140 (P : Params) : Obj := ⟨(.type "frame"), none, .plain, #[(some (.ref 139)), (some (.ref 3)), (some (.ref 135)), none, (some (s "askedatonce.errors" 187)), none, (some (.ref 0))]⟩
def o3_141 (P : Params) : Obj := ⟨(.type "tuple"), none, (.seq #[(.ref 136)] 0), #[]⟩
def o3_142 (P : Params) : Obj := ⟨(.type "tuple"), none, (.seq #[(s "__class__" 357)] 0), #[]⟩
def o3_143 (P : Params) : Obj := ⟨.none, none, (.fields #[]), #[]⟩
def o3_144 (P : Params) : Obj := ⟨(.type "tuple"), none, (.seq #[(s "self" 358), (s "part" 359)] 0), #[]⟩
def o3_145 (P : Params) : Obj := ⟨(.type "tuple"), none, (.seq #[] 0), #[]⟩
def o3_146 (P : Params) : Obj := ⟨.none, none, (.func (fnD (ic 7 0) (PySem.Str.ofString "BadProgram.__init__") 0 [] .none .none .none .none none .none .none 0)), #[]⟩
def o3_147 (P : Params) : Obj := ⟨(.type "code"), none, (.fields #[(s "__init__" 354), (s "BadProgram.__init__" 355), (s "/claim/cut.py" 356), (.int (31) 0), (.int (2) 0), (.int (0) 0), (.int (0) 0), (.int (3) 0), (.ref 142), (.bool true), (.int (181) 0), (.ref 143), .none, (.ref 144), (.ref 145), (.ref 146), (.int (360) 0), (.int (31) 0), (s "/claim/cut.py" 361)]), #[]⟩
def o3_148 (P : Params) : Obj := ⟨(.type "function"), none, (.func (fnD (ic 7 0) (PySem.Str.ofString "BadProgram.__init__") 3 [((PySem.Str.ofString "__class__"), 136)] .none .none .none (s "askedatonce.errors" 187) none (.ref 147) (.ref 141) 0)), #[]⟩
def o3_149 (P : Params) : Obj := ⟨(.type "tuple"), none, (.seq #[(s "part" 363)] 0), #[]⟩
def o3_150 (P : Params) : Obj := ⟨(.type "dict"), none, (.dict #[e P "__module__" 349 (s "askedatonce.errors" 187), e P "__firstlineno__" 353 (.int (29) 352), e P "__init__" 362 (.ref 148), e P "__static_attributes__" 364 (.ref 149), e P "__doc__" 366 .none] 3), #[]⟩
def o3_151 (P : Params) : Obj := ⟨(.type "type"), none, (.cls ⟨(PySem.Str.ofString "BadProgram"), [(.ref 24)], [(.ref 151), (.ref 24), (.type "ValueError"), (.type "Exception"), (.type "BaseException"), (.type "object")], 150, (PySem.Str.ofString "BadProgram"), true, [], [], false, none, false⟩), #[(some (.ref 133)), none, (some (s "BadProgram" 342)), (some (s "BadProgram" 350)), (some (.builtin "ValueError.__new__")), (some (.bool true))]⟩
def o3_152 (P : Params) : Obj := ⟨(.type "super"), none, (.fields #[(.ref 151), (.ref 151), (.ref 151)]), #[]⟩
def o3_153 (P : Params) : Obj := ⟨(.type "builtin_function_or_method"), none, (.fields #[(.builtin "object.__init_subclass__"), (.ref 151)]), #[]⟩
def o3_154 (P : Params) : Obj := ⟨(.type "tuple"), none, (.seq #[(.ref 24)] 0), #[]⟩
def o3_155 (P : Params) : Obj := ⟨(.type "builtin_function_or_method"), none, (.fields #[(.builtin "type.__prepare__"), (.type "type")]), #[]⟩
def o3_156 (P : Params) : Obj := ⟨(.type "dict"), none, (.dict #[e P "__module__" 376 (s "askedatonce.errors" 187), e P "__qualname__" 378 (s "BadValues" 377), e P "__firstlineno__" 380 (.int (34) 379), e P "__init__" 389 (.ref 169), e P "__static_attributes__" 391 (.ref 170), e P "__classcell__" 392 (.ref 157)] 6), #[]⟩
def o3_157 (P : Params) : Obj := ⟨(.type "cell"), none, (.cell (some (.ref 172))), #[]⟩
def o3_158 (P : Params) : Obj := ⟨(.type "tuple"), none, (.seq #[] 0), #[]⟩
def o3_159 (P : Params) : Obj := ⟨.none, none, (.fields #[(.int (36) 0), (.int (4) 0), (.ref 168)]), #[]⟩
def o3_160 (P : Params) : Obj := ⟨(.type "code"), none, (.fields #[(s "BadValues" 371), (s "BadValues" 372), (s "/claim/cut.py" 373), (.int (34) 0), (.int (0) 0), (.int (0) 0), (.int (0) 0), (.int (0) 0), (.ref 158), (.bool false), (.int (181) 0), (.ref 159), .none, .none, .none, .none, (.int (374) 0), (.int (34) 0), (s "/claim/cut.py" 375)]), #[]⟩
def o3_161 (P : Params) : Obj := ⟨(.type "frame"), none, .plain, #[(some (.ref 160)), (some (.ref 3)), (some (.ref 156)), none, (some (s "askedatonce.errors" 187)), none, (some (.ref 0))]⟩
def o3_162 (P : Params) : Obj := ⟨(.type "tuple"), none, (.seq #[(.ref 157)] 0), #[]⟩
def o3_163 (P : Params) : Obj := ⟨(.type "tuple"), none, (.seq #[(s "__class__" 384)] 0), #[]⟩
def o3_164 (P : Params) : Obj := ⟨.none, none, (.fields #[]), #[]⟩
def o3_165 (P : Params) : Obj := ⟨(.type "tuple"), none, (.seq #[(s "self" 385), (s "name" 386)] 0), #[]⟩
def o3_166 (P : Params) : Obj := ⟨(.type "tuple"), none, (.seq #[] 0), #[]⟩
def o3_167 (P : Params) : Obj := ⟨.none, none, (.func (fnD (ic 8 0) (PySem.Str.ofString "BadValues.__init__") 0 [] .none .none .none .none none .none .none 0)), #[]⟩
def o3_168 (P : Params) : Obj := ⟨(.type "code"), none, (.fields #[(s "__init__" 381), (s "BadValues.__init__" 382), (s "/claim/cut.py" 383), (.int (36) 0), (.int (2) 0), (.int (0) 0), (.int (0) 0), (.int (3) 0), (.ref 163), (.bool true), (.int (181) 0), (.ref 164), .none, (.ref 165), (.ref 166), (.ref 167), (.int (387) 0), (.int (36) 0), (s "/claim/cut.py" 388)]), #[]⟩
def o3_169 (P : Params) : Obj := ⟨(.type "function"), none, (.func (fnD (ic 8 0) (PySem.Str.ofString "BadValues.__init__") 3 [((PySem.Str.ofString "__class__"), 157)] .none .none .none (s "askedatonce.errors" 187) none (.ref 168) (.ref 162) 0)), #[]⟩
def o3_170 (P : Params) : Obj := ⟨(.type "tuple"), none, (.seq #[(s "name" 390)] 0), #[]⟩
def o3_171 (P : Params) : Obj := ⟨(.type "dict"), none, (.dict #[e P "__module__" 376 (s "askedatonce.errors" 187), e P "__firstlineno__" 380 (.int (34) 379), e P "__init__" 389 (.ref 169), e P "__static_attributes__" 391 (.ref 170), e P "__doc__" 393 .none] 3), #[]⟩
def o3_172 (P : Params) : Obj := ⟨(.type "type"), none, (.cls ⟨(PySem.Str.ofString "BadValues"), [(.ref 24)], [(.ref 172), (.ref 24), (.type "ValueError"), (.type "Exception"), (.type "BaseException"), (.type "object")], 171, (PySem.Str.ofString "BadValues"), true, [], [], false, none, false⟩), #[(some (.ref 154)), none, (some (s "BadValues" 369)), (some (s "BadValues" 377)), (some (.builtin "ValueError.__new__")), (some (.bool true))]⟩
def o3_173 (P : Params) : Obj := ⟨(.type "super"), none, (.fields #[(.ref 172), (.ref 172), (.ref 172)]), #[]⟩
def o3_174 (P : Params) : Obj := ⟨(.type "builtin_function_or_method"), none, (.fields #[(.builtin "object.__init_subclass__"), (.ref 172)]), #[]⟩
def o3_175 (P : Params) : Obj := ⟨(.type "tuple"), none, (.seq #[(.ref 24)] 0), #[]⟩
def o3_176 (P : Params) : Obj := ⟨(.type "builtin_function_or_method"), none, (.fields #[(.builtin "type.__prepare__"), (.type "type")]), #[]⟩
def o3_177 (P : Params) : Obj := ⟨(.type "dict"), none, (.dict #[e P "__module__" 403 (s "askedatonce.errors" 187), e P "__qualname__" 405 (s "BadBox" 404), e P "__firstlineno__" 407 (.int (39) 406), e P "__init__" 416 (.ref 190), e P "__static_attributes__" 418 (.ref 191), e P "__classcell__" 419 (.ref 178)] 6), #[]⟩
def o3_178 (P : Params) : Obj := ⟨(.type "cell"), none, (.cell (some (.ref 193))), #[]⟩
def o3_179 (P : Params) : Obj := ⟨(.type "tuple"), none, (.seq #[] 0), #[]⟩
def o3_180 (P : Params) : Obj := ⟨.none, none, (.fields #[(.int (41) 0), (.int (4) 0), (.ref 189)]), #[]⟩
def o3_181 (P : Params) : Obj := ⟨(.type "code"), none, (.fields #[(s "BadBox" 398), (s "BadBox" 399), (s "/claim/cut.py" 400), (.int (39) 0), (.int (0) 0), (.int (0) 0), (.int (0) 0), (.int (0) 0), (.ref 179), (.bool false), (.int (181) 0), (.ref 180), .none, .none, .none, .none, (.int (401) 0), (.int (39) 0), (s "/claim/cut.py" 402)]), #[]⟩
def o3_182 (P : Params) : Obj := ⟨(.type "frame"), none, .plain, #[(some (.ref 181)), (some (.ref 3)), (some (.ref 177)), none, (some (s "askedatonce.errors" 187)), none, (some (.ref 0))]⟩
def o3_183 (P : Params) : Obj := ⟨(.type "tuple"), none, (.seq #[(.ref 178)] 0), #[]⟩
def o3_184 (P : Params) : Obj := ⟨(.type "tuple"), none, (.seq #[(s "__class__" 411)] 0), #[]⟩
def o3_185 (P : Params) : Obj := ⟨.none, none, (.fields #[]), #[]⟩
def o3_186 (P : Params) : Obj := ⟨(.type "tuple"), none, (.seq #[(s "self" 412), (s "name" 413)] 0), #[]⟩
def o3_187 (P : Params) : Obj := ⟨(.type "tuple"), none, (.seq #[] 0), #[]⟩
def o3_188 (P : Params) : Obj := ⟨.none, none, (.func (fnD (ic 9 0) (PySem.Str.ofString "BadBox.__init__") 0 [] .none .none .none .none none .none .none 0)), #[]⟩
def o3_189 (P : Params) : Obj := ⟨(.type "code"), none, (.fields #[(s "__init__" 408), (s "BadBox.__init__" 409), (s "/claim/cut.py" 410), (.int (41) 0), (.int (2) 0), (.int (0) 0), (.int (0) 0), (.int (3) 0), (.ref 184), (.bool true), (.int (181) 0), (.ref 185), .none, (.ref 186), (.ref 187), (.ref 188), (.int (414) 0), (.int (41) 0), (s "/claim/cut.py" 415)]), #[]⟩
def o3_190 (P : Params) : Obj := ⟨(.type "function"), none, (.func (fnD (ic 9 0) (PySem.Str.ofString "BadBox.__init__") 3 [((PySem.Str.ofString "__class__"), 178)] .none .none .none (s "askedatonce.errors" 187) none (.ref 189) (.ref 183) 0)), #[]⟩
def o3_191 (P : Params) : Obj := ⟨(.type "tuple"), none, (.seq #[(s "name" 417)] 0), #[]⟩
def o3_192 (P : Params) : Obj := ⟨(.type "dict"), none, (.dict #[e P "__module__" 403 (s "askedatonce.errors" 187), e P "__firstlineno__" 407 (.int (39) 406), e P "__init__" 416 (.ref 190), e P "__static_attributes__" 418 (.ref 191), e P "__doc__" 420 .none] 3), #[]⟩
def o3_193 (P : Params) : Obj := ⟨(.type "type"), none, (.cls ⟨(PySem.Str.ofString "BadBox"), [(.ref 24)], [(.ref 193), (.ref 24), (.type "ValueError"), (.type "Exception"), (.type "BaseException"), (.type "object")], 192, (PySem.Str.ofString "BadBox"), true, [], [], false, none, false⟩), #[(some (.ref 175)), none, (some (s "BadBox" 396)), (some (s "BadBox" 404)), (some (.builtin "ValueError.__new__")), (some (.bool true))]⟩
def o3_194 (P : Params) : Obj := ⟨(.type "super"), none, (.fields #[(.ref 193), (.ref 193), (.ref 193)]), #[]⟩
def o3_195 (P : Params) : Obj := ⟨(.type "builtin_function_or_method"), none, (.fields #[(.builtin "object.__init_subclass__"), (.ref 193)]), #[]⟩
def T3 (w : World) : BT := insL [(3, o3_3 w.params), (12, o3_12 w.params), (15, o3_15 w.params), (16, o3_16 w.params), (17, o3_17 w.params), (18, o3_18 w.params), (19, o3_19 w.params), (20, o3_20 w.params), (21, o3_21 w.params), (22, o3_22 w.params), (23, o3_23 w.params), (24, o3_24 w.params), (25, o3_25 w.params), (26, o3_26 w.params), (27, o3_27 w.params), (28, o3_28 w.params), (29, o3_29 w.params), (30, o3_30 w.params), (31, o3_31 w.params), (32, o3_32 w.params), (33, o3_33 w.params), (34, o3_34 w.params), (35, o3_35 w.params), (36, o3_36 w.params), (37, o3_37 w.params), (38, o3_38 w.params), (39, o3_39 w.params), (40, o3_40 w.params), (41, o3_41 w.params), (42, o3_42 w.params), (43, o3_43 w.params), (44, o3_44 w.params), (45, o3_45 w.params), (46, o3_46 w.params), (47, o3_47 w.params), (48, o3_48 w.params), (49, o3_49 w.params), (50, o3_50 w.params), (51, o3_51 w.params), (52, o3_52 w.params), (53, o3_53 w.params), (54, o3_54 w.params), (55, o3_55 w.params), (56, o3_56 w.params), (57, o3_57 w.params), (58, o3_58 w.params), (59, o3_59 w.params), (60, o3_60 w.params), (61, o3_61 w.params), (62, o3_62 w.params), (63, o3_63 w.params), (64, o3_64 w.params), (65, o3_65 w.params), (66, o3_66 w.params), (67, o3_67 w.params), (68, o3_68 w.params), (69, o3_69 w.params), (70, o3_70 w.params), (71, o3_71 w.params), (72, o3_72 w.params), (73, o3_73 w.params), (74, o3_74 w.params), (75, o3_75 w.params), (76, o3_76 w.params), (77, o3_77 w.params), (78, o3_78 w.params), (79, o3_79 w.params), (80, o3_80 w.params), (81, o3_81 w.params), (82, o3_82 w.params), (83, o3_83 w.params), (84, o3_84 w.params), (85, o3_85 w.params), (86, o3_86 w.params), (87, o3_87 w.params), (88, o3_88 w.params), (89, o3_89 w.params), (90, o3_90 w.params), (91, o3_91 w.params), (92, o3_92 w.params), (93, o3_93 w.params), (94, o3_94 w.params), (95, o3_95 w.params), (96, o3_96 w.params), (97, o3_97 w.params), (98, o3_98 w.params), (99, o3_99 w.params), (100, o3_100 w.params), (101, o3_101 w.params), (102, o3_102 w.params), (103, o3_103 w.params), (104, o3_104 w.params), (105, o3_105 w.params), (106, o3_106 w.params), (107, o3_107 w.params), (108, o3_108 w.params), (109, o3_109 w.params), (110, o3_110 w.params), (111, o3_111 w.params), (112, o3_112 w.params), (113, o3_113 w.params), (114, o3_114 w.params), (115, o3_115 w.params), (116, o3_116 w.params), (117, o3_117 w.params), (118, o3_118 w.params), (119, o3_119 w.params), (120, o3_120 w.params), (121, o3_121 w.params), (122, o3_122 w.params), (123, o3_123 w.params), (124, o3_124 w.params), (125, o3_125 w.params), (126, o3_126 w.params), (127, o3_127 w.params), (128, o3_128 w.params), (129, o3_129 w.params), (130, o3_130 w.params), (131, o3_131 w.params), (132, o3_132 w.params), (133, o3_133 w.params), (134, o3_134 w.params), (135, o3_135 w.params), (136, o3_136 w.params), (137, o3_137 w.params), (138, o3_138 w.params), (139, o3_139 w.params), (140, o3_140 w.params), (141, o3_141 w.params), (142, o3_142 w.params), (143, o3_143 w.params), (144, o3_144 w.params), (145, o3_145 w.params), (146, o3_146 w.params), (147, o3_147 w.params), (148, o3_148 w.params), (149, o3_149 w.params), (150, o3_150 w.params), (151, o3_151 w.params), (152, o3_152 w.params), (153, o3_153 w.params), (154, o3_154 w.params), (155, o3_155 w.params), (156, o3_156 w.params), (157, o3_157 w.params), (158, o3_158 w.params), (159, o3_159 w.params), (160, o3_160 w.params), (161, o3_161 w.params), (162, o3_162 w.params), (163, o3_163 w.params), (164, o3_164 w.params), (165, o3_165 w.params), (166, o3_166 w.params), (167, o3_167 w.params), (168, o3_168 w.params), (169, o3_169 w.params), (170, o3_170 w.params), (171, o3_171 w.params), (172, o3_172 w.params), (173, o3_173 w.params), (174, o3_174 w.params), (175, o3_175 w.params), (176, o3_176 w.params), (177, o3_177 w.params), (178, o3_178 w.params), (179, o3_179 w.params), (180, o3_180 w.params), (181, o3_181 w.params), (182, o3_182 w.params), (183, o3_183 w.params), (184, o3_184 w.params), (185, o3_185 w.params), (186, o3_186 w.params), (187, o3_187 w.params), (188, o3_188 w.params), (189, o3_189 w.params), (190, o3_190 w.params), (191, o3_191 w.params), (192, o3_192 w.params), (193, o3_193 w.params), (194, o3_194 w.params), (195, o3_195 w.params)] (T2 w)
def S3 (w : World) : SharedT := ⟨T3 w, 196, {}, (Array.mk []), ⟨0, 0, 0, 0⟩, 423, (startT (opening pr)).os⟩
def pos3 : Pos := ⟨39, 0, 43, 24⟩
def l3 : List Stmt := (bT.drop 0).take 10
theorem ck3 (w : World) : segF (stepQ (denQ tabQ) pr w) n0 annT 1 2284 (S2 w) (piecesOf l3 envT cT pos2 [topFrame fp]) = some (.next, S3 w, cT, pos3) := by
  kernel_rfl
def o4_3 (P : Params) : Obj := ⟨(.type "dict"), none, (.dict #[e P "__name__" 165 (s "askedatonce.errors" 187), e P "__doc__" 166 .none, e P "__package__" 167 .none, e P "__loader__" 168 (.builtin "__main__.__loader__#opaque"), e P "__spec__" 169 .none, e P "__annotations__" 170 (.ref 6), e P "__builtins__" 171 (.ref 4), e P "__file__" 173 (s "/claim/cut.py" 172), e P "__cached__" 174 .none, e P "OnceError" 206 (.ref 24), e P "BadNumber" 233 (.ref 46), e P "BadFormat" 260 (.ref 67), e P "BadWay" 287 (.ref 88), e P "BadName" 314 (.ref 109), e P "BadForm" 341 (.ref 130), e P "BadProgram" 368 (.ref 151), e P "BadValues" 395 (.ref 172), e P "BadBox" 422 (.ref 193), e P "BadAnswers" 449 (.ref 214), e P "BadTable" 476 (.ref 235), e P "BadRoot" 503 (.ref 256), e P "BadLoop" 530 (.ref 277), e P "BadPrices" 557 (.ref 298), e P "NoRow" 584 (.ref 319), e P "ByNothing" 611 (.ref 340), e P "HoldsNothing" 638 (.ref 361), e P "Misfit" 665 (.ref 382)] 27), #[]⟩
def o4_12 (P : Params) : Obj := ⟨.none, none, (.fields #[(.int (2) 0), (.int (0) 0), (.ref 20), (.int (4) 0), (.int (0) 0), (.ref 34), (.int (9) 0), (.int (0) 0), (.ref 55), (.int (14) 0), (.int (0) 0), (.ref 76), (.int (19) 0), (.int (0) 0), (.ref 97), (.int (24) 0), (.int (0) 0), (.ref 118), (.int (29) 0), (.int (0) 0), (.ref 139), (.int (34) 0), (.int (0) 0), (.ref 160), (.int (39) 0), (.int (0) 0), (.ref 181), (.int (44) 0), (.int (0) 0), (.ref 202), (.int (49) 0), (.int (0) 0), (.ref 223), (.int (54) 0), (.int (0) 0), (.ref 244), (.int (59) 0), (.int (0) 0), (.ref 265), (.int (64) 0), (.int (0) 0), (.ref 286), (.int (69) 0), (.int (0) 0), (.ref 307), (.int (74) 0), (.int (0) 0), (.ref 328), (.int (79) 0), (.int (0) 0), (.ref 349), (.int (84) 0), (.int (0) 0), (.ref 370)]), #[]⟩
def o4_24 (P : Params) : Obj := ⟨(.type "type"), none, (.cls ⟨(PySem.Str.ofString "OnceError"), [(.type "ValueError")], [(.ref 24), (.type "ValueError"), (.type "Exception"), (.type "BaseException"), (.type "object")], 23, (PySem.Str.ofString "OnceError"), true, [], [(.ref 46), (.ref 67), (.ref 88), (.ref 109), (.ref 130), (.ref 151), (.ref 172), (.ref 193), (.ref 214), (.ref 235), (.ref 256), (.ref 277), (.ref 298), (.ref 319), (.ref 340), (.ref 361), (.ref 382)], false, none, false⟩), #[(some (.ref 15)), none, (some (s "OnceError" 189)), (some (s "OnceError" 197)), (some (.builtin "ValueError.__new__")), (some (.bool true))]⟩
def o4_196 (P : Params) : Obj := ⟨(.type "tuple"), none, (.seq #[(.ref 24)] 0), #[]⟩
def o4_197 (P : Params) : Obj := ⟨(.type "builtin_function_or_method"), none, (.fields #[(.builtin "type.__prepare__"), (.type "type")]), #[]⟩
def o4_198 (P : Params) : Obj := ⟨(.type "dict"), none, (.dict #[e P "__module__" 430 (s "askedatonce.errors" 187), e P "__qualname__" 432 (s "BadAnswers" 431), e P "__firstlineno__" 434 (.int (44) 433), e P "__init__" 443 (.ref 211), e P "__static_attributes__" 445 (.ref 212), e P "__classcell__" 446 (.ref 199)] 6), #[]⟩
def o4_199 (P : Params) : Obj := ⟨(.type "cell"), none, (.cell (some (.ref 214))), #[]⟩
def o4_200 (P : Params) : Obj := ⟨(.type "tuple"), none, (.seq #[] 0), #[]⟩
def o4_201 (P : Params) : Obj := ⟨.none, none, (.fields #[(.int (46) 0), (.int (4) 0), (.ref 210)]), #[]⟩
def o4_202 (P : Params) : Obj := ⟨(.type "code"), none, (.fields #[(s "BadAnswers" 425), (s "BadAnswers" 426), (s "/claim/cut.py" 427), (.int (44) 0), (.int (0) 0), (.int (0) 0), (.int (0) 0), (.int (0) 0), (.ref 200), (.bool false), (.int (181) 0), (.ref 201), .none, .none, .none, .none, (.int (428) 0), (.int (44) 0), (s "/claim/cut.py" 429)]), #[]⟩
def o4_203 (P : Params) : Obj := ⟨(.type "frame"), none, .plain, #[(some (.ref 202)), (some (.ref 3)), (some (.ref 198)), none, (some (s "askedatonce.errors" 187)), none, (some (.ref 0))]⟩
def o4_204 (P : Params) : Obj := ⟨(.type "tuple"), none, (.seq #[(.ref 199)] 0), #[]⟩
def o4_205 (P : Params) : Obj := ⟨(.type "tuple"), none, (.seq #[(s "__class__" 438)] 0), #[]⟩
def o4_206 (P : Params) : Obj := ⟨.none, none, (.fields #[]), #[]⟩
def o4_207 (P : Params) : Obj := ⟨(.type "tuple"), none, (.seq #[(s "self" 439), (s "at" 440)] 0), #[]⟩
def o4_208 (P : Params) : Obj := ⟨(.type "tuple"), none, (.seq #[] 0), #[]⟩
def o4_209 (P : Params) : Obj := ⟨.none, none, (.func (fnD (ic 10 0) (PySem.Str.ofString "BadAnswers.__init__") 0 [] .none .none .none .none none .none .none 0)), #[]⟩
def o4_210 (P : Params) : Obj := ⟨(.type "code"), none, (.fields #[(s "__init__" 435), (s "BadAnswers.__init__" 436), (s "/claim/cut.py" 437), (.int (46) 0), (.int (2) 0), (.int (0) 0), (.int (0) 0), (.int (3) 0), (.ref 205), (.bool true), (.int (181) 0), (.ref 206), .none, (.ref 207), (.ref 208), (.ref 209), (.int (441) 0), (.int (46) 0), (s "/claim/cut.py" 442)]), #[]⟩
def o4_211 (P : Params) : Obj := ⟨(.type "function"), none, (.func (fnD (ic 10 0) (PySem.Str.ofString "BadAnswers.__init__") 3 [((PySem.Str.ofString "__class__"), 199)] .none .none .none (s "askedatonce.errors" 187) none (.ref 210) (.ref 204) 0)), #[]⟩
def o4_212 (P : Params) : Obj := ⟨(.type "tuple"), none, (.seq #[(s "at" 444)] 0), #[]⟩
def o4_213 (P : Params) : Obj := ⟨(.type "dict"), none, (.dict #[e P "__module__" 430 (s "askedatonce.errors" 187), e P "__firstlineno__" 434 (.int (44) 433), e P "__init__" 443 (.ref 211), e P "__static_attributes__" 445 (.ref 212), e P "__doc__" 447 .none] 3), #[]⟩
def o4_214 (P : Params) : Obj := ⟨(.type "type"), none, (.cls ⟨(PySem.Str.ofString "BadAnswers"), [(.ref 24)], [(.ref 214), (.ref 24), (.type "ValueError"), (.type "Exception"), (.type "BaseException"), (.type "object")], 213, (PySem.Str.ofString "BadAnswers"), true, [], [], false, none, false⟩), #[(some (.ref 196)), none, (some (s "BadAnswers" 423)), (some (s "BadAnswers" 431)), (some (.builtin "ValueError.__new__")), (some (.bool true))]⟩
def o4_215 (P : Params) : Obj := ⟨(.type "super"), none, (.fields #[(.ref 214), (.ref 214), (.ref 214)]), #[]⟩
def o4_216 (P : Params) : Obj := ⟨(.type "builtin_function_or_method"), none, (.fields #[(.builtin "object.__init_subclass__"), (.ref 214)]), #[]⟩
def o4_217 (P : Params) : Obj := ⟨(.type "tuple"), none, (.seq #[(.ref 24)] 0), #[]⟩
def o4_218 (P : Params) : Obj := ⟨(.type "builtin_function_or_method"), none, (.fields #[(.builtin "type.__prepare__"), (.type "type")]), #[]⟩
def o4_219 (P : Params) : Obj := ⟨(.type "dict"), none, (.dict #[e P "__module__" 457 (s "askedatonce.errors" 187), e P "__qualname__" 459 (s "BadTable" 458), e P "__firstlineno__" 461 (.int (49) 460), e P "__init__" 470 (.ref 232), e P "__static_attributes__" 472 (.ref 233), e P "__classcell__" 473 (.ref 220)] 6), #[]⟩
def o4_220 (P : Params) : Obj := ⟨(.type "cell"), none, (.cell (some (.ref 235))), #[]⟩
def o4_221 (P : Params) : Obj := ⟨(.type "tuple"), none, (.seq #[] 0), #[]⟩
def o4_222 (P : Params) : Obj := ⟨.none, none, (.fields #[(.int (51) 0), (.int (4) 0), (.ref 231)]), #[]⟩
def o4_223 (P : Params) : Obj := ⟨(.type "code"), none, (.fields #[(s "BadTable" 452), (s "BadTable" 453), (s "/claim/cut.py" 454), (.int (49) 0), (.int (0) 0), (.int (0) 0), (.int (0) 0), (.int (0) 0), (.ref 221), (.bool false), (.int (181) 0), (.ref 222), .none, .none, .none, .none, (.int (455) 0), (.int (49) 0), (s "/claim/cut.py" 456)]), #[]⟩
def o4_224 (P : Params) : Obj := ⟨(.type "frame"), none, .plain, #[(some (.ref 223)), (some (.ref 3)), (some (.ref 219)), none, (some (s "askedatonce.errors" 187)), none, (some (.ref 0))]⟩
def o4_225 (P : Params) : Obj := ⟨(.type "tuple"), none, (.seq #[(.ref 220)] 0), #[]⟩
def o4_226 (P : Params) : Obj := ⟨(.type "tuple"), none, (.seq #[(s "__class__" 465)] 0), #[]⟩
def o4_227 (P : Params) : Obj := ⟨.none, none, (.fields #[]), #[]⟩
def o4_228 (P : Params) : Obj := ⟨(.type "tuple"), none, (.seq #[(s "self" 466), (s "part" 467)] 0), #[]⟩
def o4_229 (P : Params) : Obj := ⟨(.type "tuple"), none, (.seq #[] 0), #[]⟩
def o4_230 (P : Params) : Obj := ⟨.none, none, (.func (fnD (ic 11 0) (PySem.Str.ofString "BadTable.__init__") 0 [] .none .none .none .none none .none .none 0)), #[]⟩
def o4_231 (P : Params) : Obj := ⟨(.type "code"), none, (.fields #[(s "__init__" 462), (s "BadTable.__init__" 463), (s "/claim/cut.py" 464), (.int (51) 0), (.int (2) 0), (.int (0) 0), (.int (0) 0), (.int (3) 0), (.ref 226), (.bool true), (.int (181) 0), (.ref 227), .none, (.ref 228), (.ref 229), (.ref 230), (.int (468) 0), (.int (51) 0), (s "/claim/cut.py" 469)]), #[]⟩
def o4_232 (P : Params) : Obj := ⟨(.type "function"), none, (.func (fnD (ic 11 0) (PySem.Str.ofString "BadTable.__init__") 3 [((PySem.Str.ofString "__class__"), 220)] .none .none .none (s "askedatonce.errors" 187) none (.ref 231) (.ref 225) 0)), #[]⟩
def o4_233 (P : Params) : Obj := ⟨(.type "tuple"), none, (.seq #[(s "part" 471)] 0), #[]⟩
def o4_234 (P : Params) : Obj := ⟨(.type "dict"), none, (.dict #[e P "__module__" 457 (s "askedatonce.errors" 187), e P "__firstlineno__" 461 (.int (49) 460), e P "__init__" 470 (.ref 232), e P "__static_attributes__" 472 (.ref 233), e P "__doc__" 474 .none] 3), #[]⟩
def o4_235 (P : Params) : Obj := ⟨(.type "type"), none, (.cls ⟨(PySem.Str.ofString "BadTable"), [(.ref 24)], [(.ref 235), (.ref 24), (.type "ValueError"), (.type "Exception"), (.type "BaseException"), (.type "object")], 234, (PySem.Str.ofString "BadTable"), true, [], [], false, none, false⟩), #[(some (.ref 217)), none, (some (s "BadTable" 450)), (some (s "BadTable" 458)), (some (.builtin "ValueError.__new__")), (some (.bool true))]⟩
def o4_236 (P : Params) : Obj := ⟨(.type "super"), none, (.fields #[(.ref 235), (.ref 235), (.ref 235)]), #[]⟩
def o4_237 (P : Params) : Obj := ⟨(.type "builtin_function_or_method"), none, (.fields #[(.builtin "object.__init_subclass__"), (.ref 235)]), #[]⟩
def o4_238 (P : Params) : Obj := ⟨(.type "tuple"), none, (.seq #[(.ref 24)] 0), #[]⟩
def o4_239 (P : Params) : Obj := ⟨(.type "builtin_function_or_method"), none, (.fields #[(.builtin "type.__prepare__"), (.type "type")]), #[]⟩
def o4_240 (P : Params) : Obj := ⟨(.type "dict"), none, (.dict #[e P "__module__" 484 (s "askedatonce.errors" 187), e P "__qualname__" 486 (s "BadRoot" 485), e P "__firstlineno__" 488 (.int (54) 487), e P "__init__" 497 (.ref 253), e P "__static_attributes__" 499 (.ref 254), e P "__classcell__" 500 (.ref 241)] 6), #[]⟩
def o4_241 (P : Params) : Obj := ⟨(.type "cell"), none, (.cell (some (.ref 256))), #[]⟩
def o4_242 (P : Params) : Obj := ⟨(.type "tuple"), none, (.seq #[] 0), #[]⟩
def o4_243 (P : Params) : Obj := ⟨.none, none, (.fields #[(.int (56) 0), (.int (4) 0), (.ref 252)]), #[]⟩
def o4_244 (P : Params) : Obj := ⟨(.type "code"), none, (.fields #[(s "BadRoot" 479), (s "BadRoot" 480), (s "/claim/cut.py" 481), (.int (54) 0), (.int (0) 0), (.int (0) 0), (.int (0) 0), (.int (0) 0), (.ref 242), (.bool false), (.int (181) 0), (.ref 243), .none, .none, .none, .none, (.int (482) 0), (.int (54) 0), (s "/claim/cut.py" 483)]), #[]⟩
def o4_245 (P : Params) : Obj := ⟨(.type "frame"), none, .plain, #[(some (.ref 244)), (some (.ref 3)), (some (.ref 240)), none, (some (s "askedatonce.errors" 187)), none, (some (.ref 0))]⟩
def o4_246 (P : Params) : Obj := ⟨(.type "tuple"), none, (.seq #[(.ref 241)] 0), #[]⟩
def o4_247 (P : Params) : Obj := ⟨(.type "tuple"), none, (.seq #[(s "__class__" 492)] 0), #[]⟩
def o4_248 (P : Params) : Obj := ⟨.none, none, (.fields #[]), #[]⟩
def o4_249 (P : Params) : Obj := ⟨(.type "tuple"), none, (.seq #[(s "self" 493), (s "part" 494)] 0), #[]⟩
def o4_250 (P : Params) : Obj := ⟨(.type "tuple"), none, (.seq #[] 0), #[]⟩
def o4_251 (P : Params) : Obj := ⟨.none, none, (.func (fnD (ic 12 0) (PySem.Str.ofString "BadRoot.__init__") 0 [] .none .none .none .none none .none .none 0)), #[]⟩
def o4_252 (P : Params) : Obj := ⟨(.type "code"), none, (.fields #[(s "__init__" 489), (s "BadRoot.__init__" 490), (s "/claim/cut.py" 491), (.int (56) 0), (.int (2) 0), (.int (0) 0), (.int (0) 0), (.int (3) 0), (.ref 247), (.bool true), (.int (181) 0), (.ref 248), .none, (.ref 249), (.ref 250), (.ref 251), (.int (495) 0), (.int (56) 0), (s "/claim/cut.py" 496)]), #[]⟩
def o4_253 (P : Params) : Obj := ⟨(.type "function"), none, (.func (fnD (ic 12 0) (PySem.Str.ofString "BadRoot.__init__") 3 [((PySem.Str.ofString "__class__"), 241)] .none .none .none (s "askedatonce.errors" 187) none (.ref 252) (.ref 246) 0)), #[]⟩
def o4_254 (P : Params) : Obj := ⟨(.type "tuple"), none, (.seq #[(s "part" 498)] 0), #[]⟩
def o4_255 (P : Params) : Obj := ⟨(.type "dict"), none, (.dict #[e P "__module__" 484 (s "askedatonce.errors" 187), e P "__firstlineno__" 488 (.int (54) 487), e P "__init__" 497 (.ref 253), e P "__static_attributes__" 499 (.ref 254), e P "__doc__" 501 .none] 3), #[]⟩
def o4_256 (P : Params) : Obj := ⟨(.type "type"), none, (.cls ⟨(PySem.Str.ofString "BadRoot"), [(.ref 24)], [(.ref 256), (.ref 24), (.type "ValueError"), (.type "Exception"), (.type "BaseException"), (.type "object")], 255, (PySem.Str.ofString "BadRoot"), true, [], [], false, none, false⟩), #[(some (.ref 238)), none, (some (s "BadRoot" 477)), (some (s "BadRoot" 485)), (some (.builtin "ValueError.__new__")), (some (.bool true))]⟩
def o4_257 (P : Params) : Obj := ⟨(.type "super"), none, (.fields #[(.ref 256), (.ref 256), (.ref 256)]), #[]⟩
def o4_258 (P : Params) : Obj := ⟨(.type "builtin_function_or_method"), none, (.fields #[(.builtin "object.__init_subclass__"), (.ref 256)]), #[]⟩
def o4_259 (P : Params) : Obj := ⟨(.type "tuple"), none, (.seq #[(.ref 24)] 0), #[]⟩
def o4_260 (P : Params) : Obj := ⟨(.type "builtin_function_or_method"), none, (.fields #[(.builtin "type.__prepare__"), (.type "type")]), #[]⟩
def o4_261 (P : Params) : Obj := ⟨(.type "dict"), none, (.dict #[e P "__module__" 511 (s "askedatonce.errors" 187), e P "__qualname__" 513 (s "BadLoop" 512), e P "__firstlineno__" 515 (.int (59) 514), e P "__init__" 524 (.ref 274), e P "__static_attributes__" 526 (.ref 275), e P "__classcell__" 527 (.ref 262)] 6), #[]⟩
def o4_262 (P : Params) : Obj := ⟨(.type "cell"), none, (.cell (some (.ref 277))), #[]⟩
def o4_263 (P : Params) : Obj := ⟨(.type "tuple"), none, (.seq #[] 0), #[]⟩
def o4_264 (P : Params) : Obj := ⟨.none, none, (.fields #[(.int (61) 0), (.int (4) 0), (.ref 273)]), #[]⟩
def o4_265 (P : Params) : Obj := ⟨(.type "code"), none, (.fields #[(s "BadLoop" 506), (s "BadLoop" 507), (s "/claim/cut.py" 508), (.int (59) 0), (.int (0) 0), (.int (0) 0), (.int (0) 0), (.int (0) 0), (.ref 263), (.bool false), (.int (181) 0), (.ref 264), .none, .none, .none, .none, (.int (509) 0), (.int (59) 0), (s "/claim/cut.py" 510)]), #[]⟩
def o4_266 (P : Params) : Obj := ⟨(.type "frame"), none, .plain, #[(some (.ref 265)), (some (.ref 3)), (some (.ref 261)), none, (some (s "askedatonce.errors" 187)), none, (some (.ref 0))]⟩
def o4_267 (P : Params) : Obj := ⟨(.type "tuple"), none, (.seq #[(.ref 262)] 0), #[]⟩
def o4_268 (P : Params) : Obj := ⟨(.type "tuple"), none, (.seq #[(s "__class__" 519)] 0), #[]⟩
def o4_269 (P : Params) : Obj := ⟨.none, none, (.fields #[]), #[]⟩
def o4_270 (P : Params) : Obj := ⟨(.type "tuple"), none, (.seq #[(s "self" 520), (s "part" 521)] 0), #[]⟩
def o4_271 (P : Params) : Obj := ⟨(.type "tuple"), none, (.seq #[] 0), #[]⟩
def o4_272 (P : Params) : Obj := ⟨.none, none, (.func (fnD (ic 13 0) (PySem.Str.ofString "BadLoop.__init__") 0 [] .none .none .none .none none .none .none 0)), #[]⟩
def o4_273 (P : Params) : Obj := ⟨(.type "code"), none, (.fields #[(s "__init__" 516), (s "BadLoop.__init__" 517), (s "/claim/cut.py" 518), (.int (61) 0), (.int (2) 0), (.int (0) 0), (.int (0) 0), (.int (3) 0), (.ref 268), (.bool true), (.int (181) 0), (.ref 269), .none, (.ref 270), (.ref 271), (.ref 272), (.int (522) 0), (.int (61) 0), (s "/claim/cut.py" 523)]), #[]⟩
def o4_274 (P : Params) : Obj := ⟨(.type "function"), none, (.func (fnD (ic 13 0) (PySem.Str.ofString "BadLoop.__init__") 3 [((PySem.Str.ofString "__class__"), 262)] .none .none .none (s "askedatonce.errors" 187) none (.ref 273) (.ref 267) 0)), #[]⟩
def o4_275 (P : Params) : Obj := ⟨(.type "tuple"), none, (.seq #[(s "part" 525)] 0), #[]⟩
def o4_276 (P : Params) : Obj := ⟨(.type "dict"), none, (.dict #[e P "__module__" 511 (s "askedatonce.errors" 187), e P "__firstlineno__" 515 (.int (59) 514), e P "__init__" 524 (.ref 274), e P "__static_attributes__" 526 (.ref 275), e P "__doc__" 528 .none] 3), #[]⟩
def o4_277 (P : Params) : Obj := ⟨(.type "type"), none, (.cls ⟨(PySem.Str.ofString "BadLoop"), [(.ref 24)], [(.ref 277), (.ref 24), (.type "ValueError"), (.type "Exception"), (.type "BaseException"), (.type "object")], 276, (PySem.Str.ofString "BadLoop"), true, [], [], false, none, false⟩), #[(some (.ref 259)), none, (some (s "BadLoop" 504)), (some (s "BadLoop" 512)), (some (.builtin "ValueError.__new__")), (some (.bool true))]⟩
def o4_278 (P : Params) : Obj := ⟨(.type "super"), none, (.fields #[(.ref 277), (.ref 277), (.ref 277)]), #[]⟩
def o4_279 (P : Params) : Obj := ⟨(.type "builtin_function_or_method"), none, (.fields #[(.builtin "object.__init_subclass__"), (.ref 277)]), #[]⟩
def o4_280 (P : Params) : Obj := ⟨(.type "tuple"), none, (.seq #[(.ref 24)] 0), #[]⟩
def o4_281 (P : Params) : Obj := ⟨(.type "builtin_function_or_method"), none, (.fields #[(.builtin "type.__prepare__"), (.type "type")]), #[]⟩
def o4_282 (P : Params) : Obj := ⟨(.type "dict"), none, (.dict #[e P "__module__" 538 (s "askedatonce.errors" 187), e P "__qualname__" 540 (s "BadPrices" 539), e P "__firstlineno__" 542 (.int (64) 541), e P "__init__" 551 (.ref 295), e P "__static_attributes__" 553 (.ref 296), e P "__classcell__" 554 (.ref 283)] 6), #[]⟩
def o4_283 (P : Params) : Obj := ⟨(.type "cell"), none, (.cell (some (.ref 298))), #[]⟩
def o4_284 (P : Params) : Obj := ⟨(.type "tuple"), none, (.seq #[] 0), #[]⟩
def o4_285 (P : Params) : Obj := ⟨.none, none, (.fields #[(.int (66) 0), (.int (4) 0), (.ref 294)]), #[]⟩
def o4_286 (P : Params) : Obj := ⟨(.type "code"), none, (.fields #[(s "BadPrices" 533), (s "BadPrices" 534), (s "/claim/cut.py" 535), (.int (64) 0), (.int (0) 0), (.int (0) 0), (.int (0) 0), (.int (0) 0), (.ref 284), (.bool false), (.int (181) 0), (.ref 285), .none, .none, .none, .none, (.int (536) 0), (.int (64) 0), (s "/claim/cut.py" 537)]), #[]⟩
def o4_287 (P : Params) : Obj := ⟨(.type "frame"), none, .plain, #[(some (.ref 286)), (some (.ref 3)), (some (.ref 282)), none, (some (s "askedatonce.errors" 187)), none, (some (.ref 0))]⟩
def o4_288 (P : Params) : Obj := ⟨(.type "tuple"), none, (.seq #[(.ref 283)] 0), #[]⟩
def o4_289 (P : Params) : Obj := ⟨(.type "tuple"), none, (.seq #[(s "__class__" 546)] 0), #[]⟩
def o4_290 (P : Params) : Obj := ⟨.none, none, (.fields #[]), #[]⟩
def o4_291 (P : Params) : Obj := ⟨(.type "tuple"), none, (.seq #[(s "self" 547), (s "part" 548)] 0), #[]⟩
def o4_292 (P : Params) : Obj := ⟨(.type "tuple"), none, (.seq #[] 0), #[]⟩
def o4_293 (P : Params) : Obj := ⟨.none, none, (.func (fnD (ic 14 0) (PySem.Str.ofString "BadPrices.__init__") 0 [] .none .none .none .none none .none .none 0)), #[]⟩
def o4_294 (P : Params) : Obj := ⟨(.type "code"), none, (.fields #[(s "__init__" 543), (s "BadPrices.__init__" 544), (s "/claim/cut.py" 545), (.int (66) 0), (.int (2) 0), (.int (0) 0), (.int (0) 0), (.int (3) 0), (.ref 289), (.bool true), (.int (181) 0), (.ref 290), .none, (.ref 291), (.ref 292), (.ref 293), (.int (549) 0), (.int (66) 0), (s "/claim/cut.py" 550)]), #[]⟩
def o4_295 (P : Params) : Obj := ⟨(.type "function"), none, (.func (fnD (ic 14 0) (PySem.Str.ofString "BadPrices.__init__") 3 [((PySem.Str.ofString "__class__"), 283)] .none .none .none (s "askedatonce.errors" 187) none (.ref 294) (.ref 288) 0)), #[]⟩
def o4_296 (P : Params) : Obj := ⟨(.type "tuple"), none, (.seq #[(s "part" 552)] 0), #[]⟩
def o4_297 (P : Params) : Obj := ⟨(.type "dict"), none, (.dict #[e P "__module__" 538 (s "askedatonce.errors" 187), e P "__firstlineno__" 542 (.int (64) 541), e P "__init__" 551 (.ref 295), e P "__static_attributes__" 553 (.ref 296), e P "__doc__" 555 .none] 3), #[]⟩
def o4_298 (P : Params) : Obj := ⟨(.type "type"), none, (.cls ⟨(PySem.Str.ofString "BadPrices"), [(.ref 24)], [(.ref 298), (.ref 24), (.type "ValueError"), (.type "Exception"), (.type "BaseException"), (.type "object")], 297, (PySem.Str.ofString "BadPrices"), true, [], [], false, none, false⟩), #[(some (.ref 280)), none, (some (s "BadPrices" 531)), (some (s "BadPrices" 539)), (some (.builtin "ValueError.__new__")), (some (.bool true))]⟩
def o4_299 (P : Params) : Obj := ⟨(.type "super"), none, (.fields #[(.ref 298), (.ref 298), (.ref 298)]), #[]⟩
def o4_300 (P : Params) : Obj := ⟨(.type "builtin_function_or_method"), none, (.fields #[(.builtin "object.__init_subclass__"), (.ref 298)]), #[]⟩
def o4_301 (P : Params) : Obj := ⟨(.type "tuple"), none, (.seq #[(.ref 24)] 0), #[]⟩
def o4_302 (P : Params) : Obj := ⟨(.type "builtin_function_or_method"), none, (.fields #[(.builtin "type.__prepare__"), (.type "type")]), #[]⟩
def o4_303 (P : Params) : Obj := ⟨(.type "dict"), none, (.dict #[e P "__module__" 565 (s "askedatonce.errors" 187), e P "__qualname__" 567 (s "NoRow" 566), e P "__firstlineno__" 569 (.int (69) 568), e P "__init__" 578 (.ref 316), e P "__static_attributes__" 580 (.ref 317), e P "__classcell__" 581 (.ref 304)] 6), #[]⟩
def o4_304 (P : Params) : Obj := ⟨(.type "cell"), none, (.cell (some (.ref 319))), #[]⟩
def o4_305 (P : Params) : Obj := ⟨(.type "tuple"), none, (.seq #[] 0), #[]⟩
def o4_306 (P : Params) : Obj := ⟨.none, none, (.fields #[(.int (71) 0), (.int (4) 0), (.ref 315)]), #[]⟩
def o4_307 (P : Params) : Obj := ⟨(.type "code"), none, (.fields #[(s "NoRow" 560), (s "NoRow" 561), (s "/claim/cut.py" 562), (.int (69) 0), (.int (0) 0), (.int (0) 0), (.int (0) 0), (.int (0) 0), (.ref 305), (.bool false), (.int (181) 0), (.ref 306), .none, .none, .none, .none, (.int (563) 0), (.int (69) 0), (s "/claim/cut.py" 564)]), #[]⟩
def o4_308 (P : Params) : Obj := ⟨(.type "frame"), none, .plain, #[(some (.ref 307)), (some (.ref 3)), (some (.ref 303)), none, (some (s "askedatonce.errors" 187)), none, (some (.ref 0))]⟩
def o4_309 (P : Params) : Obj := ⟨(.type "tuple"), none, (.seq #[(.ref 304)] 0), #[]⟩
def o4_310 (P : Params) : Obj := ⟨(.type "tuple"), none, (.seq #[(s "__class__" 573)] 0), #[]⟩
def o4_311 (P : Params) : Obj := ⟨.none, none, (.fields #[]), #[]⟩
def o4_312 (P : Params) : Obj := ⟨(.type "tuple"), none, (.seq #[(s "self" 574), (s "value" 575)] 0), #[]⟩
def o4_313 (P : Params) : Obj := ⟨(.type "tuple"), none, (.seq #[] 0), #[]⟩
def o4_314 (P : Params) : Obj := ⟨.none, none, (.func (fnD (ic 15 0) (PySem.Str.ofString "NoRow.__init__") 0 [] .none .none .none .none none .none .none 0)), #[]⟩
def o4_315 (P : Params) : Obj := ⟨(.type "code"), none, (.fields #[(s "__init__" 570), (s "NoRow.__init__" 571), (s "/claim/cut.py" 572), (.int (71) 0), (.int (2) 0), (.int (0) 0), (.int (0) 0), (.int (3) 0), (.ref 310), (.bool true), (.int (181) 0), (.ref 311), .none, (.ref 312), (.ref 313), (.ref 314), (.int (576) 0), (.int (71) 0), (s "/claim/cut.py" 577)]), #[]⟩
def o4_316 (P : Params) : Obj := ⟨(.type "function"), none, (.func (fnD (ic 15 0) (PySem.Str.ofString "NoRow.__init__") 3 [((PySem.Str.ofString "__class__"), 304)] .none .none .none (s "askedatonce.errors" 187) none (.ref 315) (.ref 309) 0)), #[]⟩
def o4_317 (P : Params) : Obj := ⟨(.type "tuple"), none, (.seq #[(s "value" 579)] 0), #[]⟩
def o4_318 (P : Params) : Obj := ⟨(.type "dict"), none, (.dict #[e P "__module__" 565 (s "askedatonce.errors" 187), e P "__firstlineno__" 569 (.int (69) 568), e P "__init__" 578 (.ref 316), e P "__static_attributes__" 580 (.ref 317), e P "__doc__" 582 .none] 3), #[]⟩
def o4_319 (P : Params) : Obj := ⟨(.type "type"), none, (.cls ⟨(PySem.Str.ofString "NoRow"), [(.ref 24)], [(.ref 319), (.ref 24), (.type "ValueError"), (.type "Exception"), (.type "BaseException"), (.type "object")], 318, (PySem.Str.ofString "NoRow"), true, [], [], false, none, false⟩), #[(some (.ref 301)), none, (some (s "NoRow" 558)), (some (s "NoRow" 566)), (some (.builtin "ValueError.__new__")), (some (.bool true))]⟩
def o4_320 (P : Params) : Obj := ⟨(.type "super"), none, (.fields #[(.ref 319), (.ref 319), (.ref 319)]), #[]⟩
def o4_321 (P : Params) : Obj := ⟨(.type "builtin_function_or_method"), none, (.fields #[(.builtin "object.__init_subclass__"), (.ref 319)]), #[]⟩
def o4_322 (P : Params) : Obj := ⟨(.type "tuple"), none, (.seq #[(.ref 24)] 0), #[]⟩
def o4_323 (P : Params) : Obj := ⟨(.type "builtin_function_or_method"), none, (.fields #[(.builtin "type.__prepare__"), (.type "type")]), #[]⟩
def o4_324 (P : Params) : Obj := ⟨(.type "dict"), none, (.dict #[e P "__module__" 592 (s "askedatonce.errors" 187), e P "__qualname__" 594 (s "ByNothing" 593), e P "__firstlineno__" 596 (.int (74) 595), e P "__init__" 605 (.ref 337), e P "__static_attributes__" 607 (.ref 338), e P "__classcell__" 608 (.ref 325)] 6), #[]⟩
def o4_325 (P : Params) : Obj := ⟨(.type "cell"), none, (.cell (some (.ref 340))), #[]⟩
def o4_326 (P : Params) : Obj := ⟨(.type "tuple"), none, (.seq #[] 0), #[]⟩
def o4_327 (P : Params) : Obj := ⟨.none, none, (.fields #[(.int (76) 0), (.int (4) 0), (.ref 336)]), #[]⟩
def o4_328 (P : Params) : Obj := ⟨(.type "code"), none, (.fields #[(s "ByNothing" 587), (s "ByNothing" 588), (s "/claim/cut.py" 589), (.int (74) 0), (.int (0) 0), (.int (0) 0), (.int (0) 0), (.int (0) 0), (.ref 326), (.bool false), (.int (181) 0), (.ref 327), .none, .none, .none, .none, (.int (590) 0), (.int (74) 0), (s "/claim/cut.py" 591)]), #[]⟩
def o4_329 (P : Params) : Obj := ⟨(.type "frame"), none, .plain, #[(some (.ref 328)), (some (.ref 3)), (some (.ref 324)), none, (some (s "askedatonce.errors" 187)), none, (some (.ref 0))]⟩
def o4_330 (P : Params) : Obj := ⟨(.type "tuple"), none, (.seq #[(.ref 325)] 0), #[]⟩
def o4_331 (P : Params) : Obj := ⟨(.type "tuple"), none, (.seq #[(s "__class__" 600)] 0), #[]⟩
def o4_332 (P : Params) : Obj := ⟨.none, none, (.fields #[]), #[]⟩
def o4_333 (P : Params) : Obj := ⟨(.type "tuple"), none, (.seq #[(s "self" 601), (s "row" 602)] 0), #[]⟩
def o4_334 (P : Params) : Obj := ⟨(.type "tuple"), none, (.seq #[] 0), #[]⟩
def o4_335 (P : Params) : Obj := ⟨.none, none, (.func (fnD (ic 16 0) (PySem.Str.ofString "ByNothing.__init__") 0 [] .none .none .none .none none .none .none 0)), #[]⟩
def o4_336 (P : Params) : Obj := ⟨(.type "code"), none, (.fields #[(s "__init__" 597), (s "ByNothing.__init__" 598), (s "/claim/cut.py" 599), (.int (76) 0), (.int (2) 0), (.int (0) 0), (.int (0) 0), (.int (3) 0), (.ref 331), (.bool true), (.int (181) 0), (.ref 332), .none, (.ref 333), (.ref 334), (.ref 335), (.int (603) 0), (.int (76) 0), (s "/claim/cut.py" 604)]), #[]⟩
def o4_337 (P : Params) : Obj := ⟨(.type "function"), none, (.func (fnD (ic 16 0) (PySem.Str.ofString "ByNothing.__init__") 3 [((PySem.Str.ofString "__class__"), 325)] .none .none .none (s "askedatonce.errors" 187) none (.ref 336) (.ref 330) 0)), #[]⟩
def o4_338 (P : Params) : Obj := ⟨(.type "tuple"), none, (.seq #[(s "row" 606)] 0), #[]⟩
def o4_339 (P : Params) : Obj := ⟨(.type "dict"), none, (.dict #[e P "__module__" 592 (s "askedatonce.errors" 187), e P "__firstlineno__" 596 (.int (74) 595), e P "__init__" 605 (.ref 337), e P "__static_attributes__" 607 (.ref 338), e P "__doc__" 609 .none] 3), #[]⟩
def o4_340 (P : Params) : Obj := ⟨(.type "type"), none, (.cls ⟨(PySem.Str.ofString "ByNothing"), [(.ref 24)], [(.ref 340), (.ref 24), (.type "ValueError"), (.type "Exception"), (.type "BaseException"), (.type "object")], 339, (PySem.Str.ofString "ByNothing"), true, [], [], false, none, false⟩), #[(some (.ref 322)), none, (some (s "ByNothing" 585)), (some (s "ByNothing" 593)), (some (.builtin "ValueError.__new__")), (some (.bool true))]⟩
def o4_341 (P : Params) : Obj := ⟨(.type "super"), none, (.fields #[(.ref 340), (.ref 340), (.ref 340)]), #[]⟩
def o4_342 (P : Params) : Obj := ⟨(.type "builtin_function_or_method"), none, (.fields #[(.builtin "object.__init_subclass__"), (.ref 340)]), #[]⟩
def o4_343 (P : Params) : Obj := ⟨(.type "tuple"), none, (.seq #[(.ref 24)] 0), #[]⟩
def o4_344 (P : Params) : Obj := ⟨(.type "builtin_function_or_method"), none, (.fields #[(.builtin "type.__prepare__"), (.type "type")]), #[]⟩
def o4_345 (P : Params) : Obj := ⟨(.type "dict"), none, (.dict #[e P "__module__" 619 (s "askedatonce.errors" 187), e P "__qualname__" 621 (s "HoldsNothing" 620), e P "__firstlineno__" 623 (.int (79) 622), e P "__init__" 632 (.ref 358), e P "__static_attributes__" 634 (.ref 359), e P "__classcell__" 635 (.ref 346)] 6), #[]⟩
def o4_346 (P : Params) : Obj := ⟨(.type "cell"), none, (.cell (some (.ref 361))), #[]⟩
def o4_347 (P : Params) : Obj := ⟨(.type "tuple"), none, (.seq #[] 0), #[]⟩
def o4_348 (P : Params) : Obj := ⟨.none, none, (.fields #[(.int (81) 0), (.int (4) 0), (.ref 357)]), #[]⟩
def o4_349 (P : Params) : Obj := ⟨(.type "code"), none, (.fields #[(s "HoldsNothing" 614), (s "HoldsNothing" 615), (s "/claim/cut.py" 616), (.int (79) 0), (.int (0) 0), (.int (0) 0), (.int (0) 0), (.int (0) 0), (.ref 347), (.bool false), (.int (181) 0), (.ref 348), .none, .none, .none, .none, (.int (617) 0), (.int (79) 0), (s "/claim/cut.py" 618)]), #[]⟩
def o4_350 (P : Params) : Obj := ⟨(.type "frame"), none, .plain, #[(some (.ref 349)), (some (.ref 3)), (some (.ref 345)), none, (some (s "askedatonce.errors" 187)), none, (some (.ref 0))]⟩
def o4_351 (P : Params) : Obj := ⟨(.type "tuple"), none, (.seq #[(.ref 346)] 0), #[]⟩
def o4_352 (P : Params) : Obj := ⟨(.type "tuple"), none, (.seq #[(s "__class__" 627)] 0), #[]⟩
def o4_353 (P : Params) : Obj := ⟨.none, none, (.fields #[]), #[]⟩
def o4_354 (P : Params) : Obj := ⟨(.type "tuple"), none, (.seq #[(s "self" 628), (s "row" 629)] 0), #[]⟩
def o4_355 (P : Params) : Obj := ⟨(.type "tuple"), none, (.seq #[] 0), #[]⟩
def o4_356 (P : Params) : Obj := ⟨.none, none, (.func (fnD (ic 17 0) (PySem.Str.ofString "HoldsNothing.__init__") 0 [] .none .none .none .none none .none .none 0)), #[]⟩
def o4_357 (P : Params) : Obj := ⟨(.type "code"), none, (.fields #[(s "__init__" 624), (s "HoldsNothing.__init__" 625), (s "/claim/cut.py" 626), (.int (81) 0), (.int (2) 0), (.int (0) 0), (.int (0) 0), (.int (3) 0), (.ref 352), (.bool true), (.int (181) 0), (.ref 353), .none, (.ref 354), (.ref 355), (.ref 356), (.int (630) 0), (.int (81) 0), (s "/claim/cut.py" 631)]), #[]⟩
def o4_358 (P : Params) : Obj := ⟨(.type "function"), none, (.func (fnD (ic 17 0) (PySem.Str.ofString "HoldsNothing.__init__") 3 [((PySem.Str.ofString "__class__"), 346)] .none .none .none (s "askedatonce.errors" 187) none (.ref 357) (.ref 351) 0)), #[]⟩
def o4_359 (P : Params) : Obj := ⟨(.type "tuple"), none, (.seq #[(s "row" 633)] 0), #[]⟩
def o4_360 (P : Params) : Obj := ⟨(.type "dict"), none, (.dict #[e P "__module__" 619 (s "askedatonce.errors" 187), e P "__firstlineno__" 623 (.int (79) 622), e P "__init__" 632 (.ref 358), e P "__static_attributes__" 634 (.ref 359), e P "__doc__" 636 .none] 3), #[]⟩
def o4_361 (P : Params) : Obj := ⟨(.type "type"), none, (.cls ⟨(PySem.Str.ofString "HoldsNothing"), [(.ref 24)], [(.ref 361), (.ref 24), (.type "ValueError"), (.type "Exception"), (.type "BaseException"), (.type "object")], 360, (PySem.Str.ofString "HoldsNothing"), true, [], [], false, none, false⟩), #[(some (.ref 343)), none, (some (s "HoldsNothing" 612)), (some (s "HoldsNothing" 620)), (some (.builtin "ValueError.__new__")), (some (.bool true))]⟩
def o4_362 (P : Params) : Obj := ⟨(.type "super"), none, (.fields #[(.ref 361), (.ref 361), (.ref 361)]), #[]⟩
def o4_363 (P : Params) : Obj := ⟨(.type "builtin_function_or_method"), none, (.fields #[(.builtin "object.__init_subclass__"), (.ref 361)]), #[]⟩
def o4_364 (P : Params) : Obj := ⟨(.type "tuple"), none, (.seq #[(.ref 24)] 0), #[]⟩
def o4_365 (P : Params) : Obj := ⟨(.type "builtin_function_or_method"), none, (.fields #[(.builtin "type.__prepare__"), (.type "type")]), #[]⟩
def o4_366 (P : Params) : Obj := ⟨(.type "dict"), none, (.dict #[e P "__module__" 646 (s "askedatonce.errors" 187), e P "__qualname__" 648 (s "Misfit" 647), e P "__firstlineno__" 650 (.int (84) 649), e P "__init__" 659 (.ref 379), e P "__static_attributes__" 661 (.ref 380), e P "__classcell__" 662 (.ref 367)] 6), #[]⟩
def o4_367 (P : Params) : Obj := ⟨(.type "cell"), none, (.cell (some (.ref 382))), #[]⟩
def o4_368 (P : Params) : Obj := ⟨(.type "tuple"), none, (.seq #[] 0), #[]⟩
def o4_369 (P : Params) : Obj := ⟨.none, none, (.fields #[(.int (86) 0), (.int (4) 0), (.ref 378)]), #[]⟩
def o4_370 (P : Params) : Obj := ⟨(.type "code"), none, (.fields #[(s "Misfit" 641), (s "Misfit" 642), (s "/claim/cut.py" 643), (.int (84) 0), (.int (0) 0), (.int (0) 0), (.int (0) 0), (.int (0) 0), (.ref 368), (.bool false), (.int (181) 0), (.ref 369), .none, .none, .none, .none, (.int (644) 0), (.int (84) 0), (s "/claim/cut.py" 645)]), #[]⟩
def o4_371 (P : Params) : Obj := ⟨(.type "frame"), none, .plain, #[(some (.ref 370)), (some (.ref 3)), (some (.ref 366)), none, (some (s "askedatonce.errors" 187)), none, (some (.ref 0))]⟩
def o4_372 (P : Params) : Obj := ⟨(.type "tuple"), none, (.seq #[(.ref 367)] 0), #[]⟩
def o4_373 (P : Params) : Obj := ⟨(.type "tuple"), none, (.seq #[(s "__class__" 654)] 0), #[]⟩
def o4_374 (P : Params) : Obj := ⟨.none, none, (.fields #[]), #[]⟩
def o4_375 (P : Params) : Obj := ⟨(.type "tuple"), none, (.seq #[(s "self" 655), (s "part" 656)] 0), #[]⟩
def o4_376 (P : Params) : Obj := ⟨(.type "tuple"), none, (.seq #[] 0), #[]⟩
def o4_377 (P : Params) : Obj := ⟨.none, none, (.func (fnD (ic 18 0) (PySem.Str.ofString "Misfit.__init__") 0 [] .none .none .none .none none .none .none 0)), #[]⟩
def o4_378 (P : Params) : Obj := ⟨(.type "code"), none, (.fields #[(s "__init__" 651), (s "Misfit.__init__" 652), (s "/claim/cut.py" 653), (.int (86) 0), (.int (2) 0), (.int (0) 0), (.int (0) 0), (.int (3) 0), (.ref 373), (.bool true), (.int (181) 0), (.ref 374), .none, (.ref 375), (.ref 376), (.ref 377), (.int (657) 0), (.int (86) 0), (s "/claim/cut.py" 658)]), #[]⟩
def o4_379 (P : Params) : Obj := ⟨(.type "function"), none, (.func (fnD (ic 18 0) (PySem.Str.ofString "Misfit.__init__") 3 [((PySem.Str.ofString "__class__"), 367)] .none .none .none (s "askedatonce.errors" 187) none (.ref 378) (.ref 372) 0)), #[]⟩
def o4_380 (P : Params) : Obj := ⟨(.type "tuple"), none, (.seq #[(s "part" 660)] 0), #[]⟩
def o4_381 (P : Params) : Obj := ⟨(.type "dict"), none, (.dict #[e P "__module__" 646 (s "askedatonce.errors" 187), e P "__firstlineno__" 650 (.int (84) 649), e P "__init__" 659 (.ref 379), e P "__static_attributes__" 661 (.ref 380), e P "__doc__" 663 .none] 3), #[]⟩
def o4_382 (P : Params) : Obj := ⟨(.type "type"), none, (.cls ⟨(PySem.Str.ofString "Misfit"), [(.ref 24)], [(.ref 382), (.ref 24), (.type "ValueError"), (.type "Exception"), (.type "BaseException"), (.type "object")], 381, (PySem.Str.ofString "Misfit"), true, [], [], false, none, false⟩), #[(some (.ref 364)), none, (some (s "Misfit" 639)), (some (s "Misfit" 647)), (some (.builtin "ValueError.__new__")), (some (.bool true))]⟩
def o4_383 (P : Params) : Obj := ⟨(.type "super"), none, (.fields #[(.ref 382), (.ref 382), (.ref 382)]), #[]⟩
def o4_384 (P : Params) : Obj := ⟨(.type "builtin_function_or_method"), none, (.fields #[(.builtin "object.__init_subclass__"), (.ref 382)]), #[]⟩
def T4 (w : World) : BT := insL [(3, o4_3 w.params), (12, o4_12 w.params), (24, o4_24 w.params), (196, o4_196 w.params), (197, o4_197 w.params), (198, o4_198 w.params), (199, o4_199 w.params), (200, o4_200 w.params), (201, o4_201 w.params), (202, o4_202 w.params), (203, o4_203 w.params), (204, o4_204 w.params), (205, o4_205 w.params), (206, o4_206 w.params), (207, o4_207 w.params), (208, o4_208 w.params), (209, o4_209 w.params), (210, o4_210 w.params), (211, o4_211 w.params), (212, o4_212 w.params), (213, o4_213 w.params), (214, o4_214 w.params), (215, o4_215 w.params), (216, o4_216 w.params), (217, o4_217 w.params), (218, o4_218 w.params), (219, o4_219 w.params), (220, o4_220 w.params), (221, o4_221 w.params), (222, o4_222 w.params), (223, o4_223 w.params), (224, o4_224 w.params), (225, o4_225 w.params), (226, o4_226 w.params), (227, o4_227 w.params), (228, o4_228 w.params), (229, o4_229 w.params), (230, o4_230 w.params), (231, o4_231 w.params), (232, o4_232 w.params), (233, o4_233 w.params), (234, o4_234 w.params), (235, o4_235 w.params), (236, o4_236 w.params), (237, o4_237 w.params), (238, o4_238 w.params), (239, o4_239 w.params), (240, o4_240 w.params), (241, o4_241 w.params), (242, o4_242 w.params), (243, o4_243 w.params), (244, o4_244 w.params), (245, o4_245 w.params), (246, o4_246 w.params), (247, o4_247 w.params), (248, o4_248 w.params), (249, o4_249 w.params), (250, o4_250 w.params), (251, o4_251 w.params), (252, o4_252 w.params), (253, o4_253 w.params), (254, o4_254 w.params), (255, o4_255 w.params), (256, o4_256 w.params), (257, o4_257 w.params), (258, o4_258 w.params), (259, o4_259 w.params), (260, o4_260 w.params), (261, o4_261 w.params), (262, o4_262 w.params), (263, o4_263 w.params), (264, o4_264 w.params), (265, o4_265 w.params), (266, o4_266 w.params), (267, o4_267 w.params), (268, o4_268 w.params), (269, o4_269 w.params), (270, o4_270 w.params), (271, o4_271 w.params), (272, o4_272 w.params), (273, o4_273 w.params), (274, o4_274 w.params), (275, o4_275 w.params), (276, o4_276 w.params), (277, o4_277 w.params), (278, o4_278 w.params), (279, o4_279 w.params), (280, o4_280 w.params), (281, o4_281 w.params), (282, o4_282 w.params), (283, o4_283 w.params), (284, o4_284 w.params), (285, o4_285 w.params), (286, o4_286 w.params), (287, o4_287 w.params), (288, o4_288 w.params), (289, o4_289 w.params), (290, o4_290 w.params), (291, o4_291 w.params), (292, o4_292 w.params), (293, o4_293 w.params), (294, o4_294 w.params), (295, o4_295 w.params), (296, o4_296 w.params), (297, o4_297 w.params), (298, o4_298 w.params), (299, o4_299 w.params), (300, o4_300 w.params), (301, o4_301 w.params), (302, o4_302 w.params), (303, o4_303 w.params), (304, o4_304 w.params), (305, o4_305 w.params), (306, o4_306 w.params), (307, o4_307 w.params), (308, o4_308 w.params), (309, o4_309 w.params), (310, o4_310 w.params), (311, o4_311 w.params), (312, o4_312 w.params), (313, o4_313 w.params), (314, o4_314 w.params), (315, o4_315 w.params), (316, o4_316 w.params), (317, o4_317 w.params), (318, o4_318 w.params), (319, o4_319 w.params), (320, o4_320 w.params), (321, o4_321 w.params), (322, o4_322 w.params), (323, o4_323 w.params), (324, o4_324 w.params), (325, o4_325 w.params), (326, o4_326 w.params), (327, o4_327 w.params), (328, o4_328 w.params), (329, o4_329 w.params), (330, o4_330 w.params), (331, o4_331 w.params), (332, o4_332 w.params), (333, o4_333 w.params), (334, o4_334 w.params), (335, o4_335 w.params), (336, o4_336 w.params), (337, o4_337 w.params), (338, o4_338 w.params), (339, o4_339 w.params), (340, o4_340 w.params), (341, o4_341 w.params), (342, o4_342 w.params), (343, o4_343 w.params), (344, o4_344 w.params), (345, o4_345 w.params), (346, o4_346 w.params), (347, o4_347 w.params), (348, o4_348 w.params), (349, o4_349 w.params), (350, o4_350 w.params), (351, o4_351 w.params), (352, o4_352 w.params), (353, o4_353 w.params), (354, o4_354 w.params), (355, o4_355 w.params), (356, o4_356 w.params), (357, o4_357 w.params), (358, o4_358 w.params), (359, o4_359 w.params), (360, o4_360 w.params), (361, o4_361 w.params), (362, o4_362 w.params), (363, o4_363 w.params), (364, o4_364 w.params), (365, o4_365 w.params), (366, o4_366 w.params), (367, o4_367 w.params), (368, o4_368 w.params), (369, o4_369 w.params), (370, o4_370 w.params), (371, o4_371 w.params), (372, o4_372 w.params), (373, o4_373 w.params), (374, o4_374 w.params), (375, o4_375 w.params), (376, o4_376 w.params), (377, o4_377 w.params), (378, o4_378 w.params), (379, o4_379 w.params), (380, o4_380 w.params), (381, o4_381 w.params), (382, o4_382 w.params), (383, o4_383 w.params), (384, o4_384 w.params)] (T3 w)
def S4 (w : World) : SharedT := ⟨T4 w, 385, {}, (Array.mk []), ⟨0, 0, 0, 0⟩, 666, (startT (opening pr)).os⟩
def pos4 : Pos := ⟨84, 0, 88, 24⟩
def l4 : List Stmt := (bT.drop 10).take 9
theorem ck4 (w : World) : segF (stepQ (denQ tabQ) pr w) n0 annT 1 2350 (S3 w) (piecesOf l4 envT cT pos3 [topFrame fp]) = some (.next, S4 w, cT, pos4) := by
  kernel_rfl
def o5_3 (P : Params) : Obj := ⟨(.type "dict"), none, (.dict #[e P "__name__" 165 (s "law_askedatonce_k00_errors_of_questions_at_o" 776), e P "__doc__" 166 .none, e P "__package__" 167 .none, e P "__loader__" 168 (.builtin "__main__.__loader__#opaque"), e P "__spec__" 169 .none, e P "__annotations__" 170 (.ref 6), e P "__builtins__" 171 (.ref 4), e P "__file__" 173 (s "/claim/cut.py" 172), e P "__cached__" 174 .none, e P "OnceError" 206 (.ref 24), e P "BadNumber" 233 (.ref 46), e P "BadFormat" 260 (.ref 67), e P "BadWay" 287 (.ref 88), e P "BadName" 314 (.ref 109), e P "BadForm" 341 (.ref 130), e P "BadProgram" 368 (.ref 151), e P "BadValues" 395 (.ref 172), e P "BadBox" 422 (.ref 193), e P "BadAnswers" 449 (.ref 214), e P "BadTable" 476 (.ref 235), e P "BadRoot" 503 (.ref 256), e P "BadLoop" 530 (.ref 277), e P "BadPrices" 557 (.ref 298), e P "NoRow" 584 (.ref 319), e P "ByNothing" 611 (.ref 340), e P "HoldsNothing" 638 (.ref 361), e P "Misfit" 665 (.ref 382), e P "BadText" 694 (.ref 403), e P "BadCommand" 721 (.ref 424), e P "Nothing" 746 (.ref 445), e P "TooMany" 775 (.ref 466), e P "_law_pen" 784 (.ref 475), e P "_law_draw" 797 (.ref 482), e P "_law_pick" 805 (.ref 489), e P "_law_classes" 811 (.ref 494), e P "_law_odd" 818 (.ref 501), e P "_law_one_right" 829 (.ref 508), e P "_law_values_right" 840 (.ref 515), e P "law" 853 (.ref 522)] 39), #[]⟩
def o5_12 (P : Params) : Obj := ⟨.none, none, (.fields #[(.int (2) 0), (.int (0) 0), (.ref 20), (.int (4) 0), (.int (0) 0), (.ref 34), (.int (9) 0), (.int (0) 0), (.ref 55), (.int (14) 0), (.int (0) 0), (.ref 76), (.int (19) 0), (.int (0) 0), (.ref 97), (.int (24) 0), (.int (0) 0), (.ref 118), (.int (29) 0), (.int (0) 0), (.ref 139), (.int (34) 0), (.int (0) 0), (.ref 160), (.int (39) 0), (.int (0) 0), (.ref 181), (.int (44) 0), (.int (0) 0), (.ref 202), (.int (49) 0), (.int (0) 0), (.ref 223), (.int (54) 0), (.int (0) 0), (.ref 244), (.int (59) 0), (.int (0) 0), (.ref 265), (.int (64) 0), (.int (0) 0), (.ref 286), (.int (69) 0), (.int (0) 0), (.ref 307), (.int (74) 0), (.int (0) 0), (.ref 328), (.int (79) 0), (.int (0) 0), (.ref 349), (.int (84) 0), (.int (0) 0), (.ref 370), (.int (89) 0), (.int (0) 0), (.ref 391), (.int (95) 0), (.int (0) 0), (.ref 412), (.int (100) 0), (.int (0) 0), (.ref 433), (.int (104) 0), (.int (0) 0), (.ref 454), (.int (111) 0), (.int (0) 0), (.ref 474), (.int (113) 0), (.int (0) 0), (.ref 481), (.int (130) 0), (.int (0) 0), (.ref 488), (.int (132) 0), (.int (0) 0), (.ref 493), (.int (142) 0), (.int (0) 0), (.ref 500), (.int (144) 0), (.int (0) 0), (.ref 507), (.int (146) 0), (.int (0) 0), (.ref 514), (.int (170) 0), (.int (0) 0), (.ref 521)]), #[]⟩
def o5_24 (P : Params) : Obj := ⟨(.type "type"), none, (.cls ⟨(PySem.Str.ofString "OnceError"), [(.type "ValueError")], [(.ref 24), (.type "ValueError"), (.type "Exception"), (.type "BaseException"), (.type "object")], 23, (PySem.Str.ofString "OnceError"), true, [], [(.ref 46), (.ref 67), (.ref 88), (.ref 109), (.ref 130), (.ref 151), (.ref 172), (.ref 193), (.ref 214), (.ref 235), (.ref 256), (.ref 277), (.ref 298), (.ref 319), (.ref 340), (.ref 361), (.ref 382), (.ref 403), (.ref 424), (.ref 445), (.ref 466)], false, none, false⟩), #[(some (.ref 15)), none, (some (s "OnceError" 189)), (some (s "OnceError" 197)), (some (.builtin "ValueError.__new__")), (some (.bool true))]⟩
def o5_385 (P : Params) : Obj := ⟨(.type "tuple"), none, (.seq #[(.ref 24)] 0), #[]⟩
def o5_386 (P : Params) : Obj := ⟨(.type "builtin_function_or_method"), none, (.fields #[(.builtin "type.__prepare__"), (.type "type")]), #[]⟩
def o5_387 (P : Params) : Obj := ⟨(.type "dict"), none, (.dict #[e P "__module__" 673 (s "askedatonce.errors" 187), e P "__qualname__" 675 (s "BadText" 674), e P "__firstlineno__" 677 (.int (89) 676), e P "__init__" 687 (.ref 400), e P "__static_attributes__" 690 (.ref 401), e P "__classcell__" 691 (.ref 388)] 6), #[]⟩
def o5_388 (P : Params) : Obj := ⟨(.type "cell"), none, (.cell (some (.ref 403))), #[]⟩
def o5_389 (P : Params) : Obj := ⟨(.type "tuple"), none, (.seq #[] 0), #[]⟩
def o5_390 (P : Params) : Obj := ⟨.none, none, (.fields #[(.int (91) 0), (.int (4) 0), (.ref 399)]), #[]⟩
def o5_391 (P : Params) : Obj := ⟨(.type "code"), none, (.fields #[(s "BadText" 668), (s "BadText" 669), (s "/claim/cut.py" 670), (.int (89) 0), (.int (0) 0), (.int (0) 0), (.int (0) 0), (.int (0) 0), (.ref 389), (.bool false), (.int (181) 0), (.ref 390), .none, .none, .none, .none, (.int (671) 0), (.int (89) 0), (s "/claim/cut.py" 672)]), #[]⟩
def o5_392 (P : Params) : Obj := ⟨(.type "frame"), none, .plain, #[(some (.ref 391)), (some (.ref 3)), (some (.ref 387)), none, (some (s "askedatonce.errors" 187)), none, (some (.ref 0))]⟩
def o5_393 (P : Params) : Obj := ⟨(.type "tuple"), none, (.seq #[(.ref 388)] 0), #[]⟩
def o5_394 (P : Params) : Obj := ⟨(.type "tuple"), none, (.seq #[(s "__class__" 681)] 0), #[]⟩
def o5_395 (P : Params) : Obj := ⟨.none, none, (.fields #[]), #[]⟩
def o5_396 (P : Params) : Obj := ⟨(.type "tuple"), none, (.seq #[(s "self" 682), (s "line" 683), (s "word" 684)] 0), #[]⟩
def o5_397 (P : Params) : Obj := ⟨(.type "tuple"), none, (.seq #[] 0), #[]⟩
def o5_398 (P : Params) : Obj := ⟨.none, none, (.func (fnD (ic 19 0) (PySem.Str.ofString "BadText.__init__") 0 [] .none .none .none .none none .none .none 0)), #[]⟩
def o5_399 (P : Params) : Obj := ⟨(.type "code"), none, (.fields #[(s "__init__" 678), (s "BadText.__init__" 679), (s "/claim/cut.py" 680), (.int (91) 0), (.int (3) 0), (.int (0) 0), (.int (0) 0), (.int (3) 0), (.ref 394), (.bool true), (.int (181) 0), (.ref 395), .none, (.ref 396), (.ref 397), (.ref 398), (.int (685) 0), (.int (91) 0), (s "/claim/cut.py" 686)]), #[]⟩
def o5_400 (P : Params) : Obj := ⟨(.type "function"), none, (.func (fnD (ic 19 0) (PySem.Str.ofString "BadText.__init__") 3 [((PySem.Str.ofString "__class__"), 388)] .none .none .none (s "askedatonce.errors" 187) none (.ref 399) (.ref 393) 0)), #[]⟩
def o5_401 (P : Params) : Obj := ⟨(.type "tuple"), none, (.seq #[(s "line" 688), (s "word" 689)] 0), #[]⟩
def o5_402 (P : Params) : Obj := ⟨(.type "dict"), none, (.dict #[e P "__module__" 673 (s "askedatonce.errors" 187), e P "__firstlineno__" 677 (.int (89) 676), e P "__init__" 687 (.ref 400), e P "__static_attributes__" 690 (.ref 401), e P "__doc__" 692 .none] 3), #[]⟩
def o5_403 (P : Params) : Obj := ⟨(.type "type"), none, (.cls ⟨(PySem.Str.ofString "BadText"), [(.ref 24)], [(.ref 403), (.ref 24), (.type "ValueError"), (.type "Exception"), (.type "BaseException"), (.type "object")], 402, (PySem.Str.ofString "BadText"), true, [], [], false, none, false⟩), #[(some (.ref 385)), none, (some (s "BadText" 666)), (some (s "BadText" 674)), (some (.builtin "ValueError.__new__")), (some (.bool true))]⟩
def o5_404 (P : Params) : Obj := ⟨(.type "super"), none, (.fields #[(.ref 403), (.ref 403), (.ref 403)]), #[]⟩
def o5_405 (P : Params) : Obj := ⟨(.type "builtin_function_or_method"), none, (.fields #[(.builtin "object.__init_subclass__"), (.ref 403)]), #[]⟩
def o5_406 (P : Params) : Obj := ⟨(.type "tuple"), none, (.seq #[(.ref 24)] 0), #[]⟩
def o5_407 (P : Params) : Obj := ⟨(.type "builtin_function_or_method"), none, (.fields #[(.builtin "type.__prepare__"), (.type "type")]), #[]⟩
def o5_408 (P : Params) : Obj := ⟨(.type "dict"), none, (.dict #[e P "__module__" 702 (s "askedatonce.errors" 187), e P "__qualname__" 704 (s "BadCommand" 703), e P "__firstlineno__" 706 (.int (95) 705), e P "__init__" 715 (.ref 421), e P "__static_attributes__" 717 (.ref 422), e P "__classcell__" 718 (.ref 409)] 6), #[]⟩
def o5_409 (P : Params) : Obj := ⟨(.type "cell"), none, (.cell (some (.ref 424))), #[]⟩
def o5_410 (P : Params) : Obj := ⟨(.type "tuple"), none, (.seq #[] 0), #[]⟩
def o5_411 (P : Params) : Obj := ⟨.none, none, (.fields #[(.int (97) 0), (.int (4) 0), (.ref 420)]), #[]⟩
def o5_412 (P : Params) : Obj := ⟨(.type "code"), none, (.fields #[(s "BadCommand" 697), (s "BadCommand" 698), (s "/claim/cut.py" 699), (.int (95) 0), (.int (0) 0), (.int (0) 0), (.int (0) 0), (.int (0) 0), (.ref 410), (.bool false), (.int (181) 0), (.ref 411), .none, .none, .none, .none, (.int (700) 0), (.int (95) 0), (s "/claim/cut.py" 701)]), #[]⟩
def o5_413 (P : Params) : Obj := ⟨(.type "frame"), none, .plain, #[(some (.ref 412)), (some (.ref 3)), (some (.ref 408)), none, (some (s "askedatonce.errors" 187)), none, (some (.ref 0))]⟩
def o5_414 (P : Params) : Obj := ⟨(.type "tuple"), none, (.seq #[(.ref 409)] 0), #[]⟩
def o5_415 (P : Params) : Obj := ⟨(.type "tuple"), none, (.seq #[(s "__class__" 710)] 0), #[]⟩
def o5_416 (P : Params) : Obj := ⟨.none, none, (.fields #[]), #[]⟩
def o5_417 (P : Params) : Obj := ⟨(.type "tuple"), none, (.seq #[(s "self" 711), (s "word" 712)] 0), #[]⟩
def o5_418 (P : Params) : Obj := ⟨(.type "tuple"), none, (.seq #[] 0), #[]⟩
def o5_419 (P : Params) : Obj := ⟨.none, none, (.func (fnD (ic 20 0) (PySem.Str.ofString "BadCommand.__init__") 0 [] .none .none .none .none none .none .none 0)), #[]⟩
def o5_420 (P : Params) : Obj := ⟨(.type "code"), none, (.fields #[(s "__init__" 707), (s "BadCommand.__init__" 708), (s "/claim/cut.py" 709), (.int (97) 0), (.int (2) 0), (.int (0) 0), (.int (0) 0), (.int (3) 0), (.ref 415), (.bool true), (.int (181) 0), (.ref 416), .none, (.ref 417), (.ref 418), (.ref 419), (.int (713) 0), (.int (97) 0), (s "/claim/cut.py" 714)]), #[]⟩
def o5_421 (P : Params) : Obj := ⟨(.type "function"), none, (.func (fnD (ic 20 0) (PySem.Str.ofString "BadCommand.__init__") 3 [((PySem.Str.ofString "__class__"), 409)] .none .none .none (s "askedatonce.errors" 187) none (.ref 420) (.ref 414) 0)), #[]⟩
def o5_422 (P : Params) : Obj := ⟨(.type "tuple"), none, (.seq #[(s "word" 716)] 0), #[]⟩
def o5_423 (P : Params) : Obj := ⟨(.type "dict"), none, (.dict #[e P "__module__" 702 (s "askedatonce.errors" 187), e P "__firstlineno__" 706 (.int (95) 705), e P "__init__" 715 (.ref 421), e P "__static_attributes__" 717 (.ref 422), e P "__doc__" 719 .none] 3), #[]⟩
def o5_424 (P : Params) : Obj := ⟨(.type "type"), none, (.cls ⟨(PySem.Str.ofString "BadCommand"), [(.ref 24)], [(.ref 424), (.ref 24), (.type "ValueError"), (.type "Exception"), (.type "BaseException"), (.type "object")], 423, (PySem.Str.ofString "BadCommand"), true, [], [], false, none, false⟩), #[(some (.ref 406)), none, (some (s "BadCommand" 695)), (some (s "BadCommand" 703)), (some (.builtin "ValueError.__new__")), (some (.bool true))]⟩
def o5_425 (P : Params) : Obj := ⟨(.type "super"), none, (.fields #[(.ref 424), (.ref 424), (.ref 424)]), #[]⟩
def o5_426 (P : Params) : Obj := ⟨(.type "builtin_function_or_method"), none, (.fields #[(.builtin "object.__init_subclass__"), (.ref 424)]), #[]⟩
def o5_427 (P : Params) : Obj := ⟨(.type "tuple"), none, (.seq #[(.ref 24)] 0), #[]⟩
def o5_428 (P : Params) : Obj := ⟨(.type "builtin_function_or_method"), none, (.fields #[(.builtin "type.__prepare__"), (.type "type")]), #[]⟩
def o5_429 (P : Params) : Obj := ⟨(.type "dict"), none, (.dict #[e P "__module__" 729 (s "askedatonce.errors" 187), e P "__qualname__" 731 (s "Nothing" 730), e P "__firstlineno__" 733 (.int (100) 732), e P "__init__" 741 (.ref 442), e P "__static_attributes__" 742 (.ref 443), e P "__classcell__" 743 (.ref 430)] 6), #[]⟩
def o5_430 (P : Params) : Obj := ⟨(.type "cell"), none, (.cell (some (.ref 445))), #[]⟩
def o5_431 (P : Params) : Obj := ⟨(.type "tuple"), none, (.seq #[] 0), #[]⟩
def o5_432 (P : Params) : Obj := ⟨.none, none, (.fields #[(.int (102) 0), (.int (4) 0), (.ref 441)]), #[]⟩
def o5_433 (P : Params) : Obj := ⟨(.type "code"), none, (.fields #[(s "Nothing" 724), (s "Nothing" 725), (s "/claim/cut.py" 726), (.int (100) 0), (.int (0) 0), (.int (0) 0), (.int (0) 0), (.int (0) 0), (.ref 431), (.bool false), (.int (181) 0), (.ref 432), .none, .none, .none, .none, (.int (727) 0), (.int (100) 0), (s "/claim/cut.py" 728)]), #[]⟩
def o5_434 (P : Params) : Obj := ⟨(.type "frame"), none, .plain, #[(some (.ref 433)), (some (.ref 3)), (some (.ref 429)), none, (some (s "askedatonce.errors" 187)), none, (some (.ref 0))]⟩
def o5_435 (P : Params) : Obj := ⟨(.type "tuple"), none, (.seq #[(.ref 430)] 0), #[]⟩
def o5_436 (P : Params) : Obj := ⟨(.type "tuple"), none, (.seq #[(s "__class__" 737)] 0), #[]⟩
def o5_437 (P : Params) : Obj := ⟨.none, none, (.fields #[]), #[]⟩
def o5_438 (P : Params) : Obj := ⟨(.type "tuple"), none, (.seq #[(s "self" 738)] 0), #[]⟩
def o5_439 (P : Params) : Obj := ⟨(.type "tuple"), none, (.seq #[] 0), #[]⟩
def o5_440 (P : Params) : Obj := ⟨.none, none, (.func (fnD (ic 21 0) (PySem.Str.ofString "Nothing.__init__") 0 [] .none .none .none .none none .none .none 0)), #[]⟩
def o5_441 (P : Params) : Obj := ⟨(.type "code"), none, (.fields #[(s "__init__" 734), (s "Nothing.__init__" 735), (s "/claim/cut.py" 736), (.int (102) 0), (.int (1) 0), (.int (0) 0), (.int (0) 0), (.int (3) 0), (.ref 436), (.bool true), (.int (181) 0), (.ref 437), .none, (.ref 438), (.ref 439), (.ref 440), (.int (739) 0), (.int (102) 0), (s "/claim/cut.py" 740)]), #[]⟩
def o5_442 (P : Params) : Obj := ⟨(.type "function"), none, (.func (fnD (ic 21 0) (PySem.Str.ofString "Nothing.__init__") 3 [((PySem.Str.ofString "__class__"), 430)] .none .none .none (s "askedatonce.errors" 187) none (.ref 441) (.ref 435) 0)), #[]⟩
def o5_443 (P : Params) : Obj := ⟨(.type "tuple"), none, (.seq #[] 0), #[]⟩
def o5_444 (P : Params) : Obj := ⟨(.type "dict"), none, (.dict #[e P "__module__" 729 (s "askedatonce.errors" 187), e P "__firstlineno__" 733 (.int (100) 732), e P "__init__" 741 (.ref 442), e P "__static_attributes__" 742 (.ref 443), e P "__doc__" 744 .none] 3), #[]⟩
def o5_445 (P : Params) : Obj := ⟨(.type "type"), none, (.cls ⟨(PySem.Str.ofString "Nothing"), [(.ref 24)], [(.ref 445), (.ref 24), (.type "ValueError"), (.type "Exception"), (.type "BaseException"), (.type "object")], 444, (PySem.Str.ofString "Nothing"), true, [], [], false, none, false⟩), #[(some (.ref 427)), none, (some (s "Nothing" 722)), (some (s "Nothing" 730)), (some (.builtin "ValueError.__new__")), (some (.bool true))]⟩
def o5_446 (P : Params) : Obj := ⟨(.type "super"), none, (.fields #[(.ref 445), (.ref 445), (.ref 445)]), #[]⟩
def o5_447 (P : Params) : Obj := ⟨(.type "builtin_function_or_method"), none, (.fields #[(.builtin "object.__init_subclass__"), (.ref 445)]), #[]⟩
def o5_448 (P : Params) : Obj := ⟨(.type "tuple"), none, (.seq #[(.ref 24)] 0), #[]⟩
def o5_449 (P : Params) : Obj := ⟨(.type "builtin_function_or_method"), none, (.fields #[(.builtin "type.__prepare__"), (.type "type")]), #[]⟩
def o5_450 (P : Params) : Obj := ⟨(.type "dict"), none, (.dict #[e P "__module__" 754 (s "askedatonce.errors" 187), e P "__qualname__" 756 (s "TooMany" 755), e P "__firstlineno__" 758 (.int (104) 757), e P "__init__" 768 (.ref 463), e P "__static_attributes__" 771 (.ref 464), e P "__classcell__" 772 (.ref 451)] 6), #[]⟩
def o5_451 (P : Params) : Obj := ⟨(.type "cell"), none, (.cell (some (.ref 466))), #[]⟩
def o5_452 (P : Params) : Obj := ⟨(.type "tuple"), none, (.seq #[] 0), #[]⟩
def o5_453 (P : Params) : Obj := ⟨.none, none, (.fields #[(.int (106) 0), (.int (4) 0), (.ref 462)]), #[]⟩
def o5_454 (P : Params) : Obj := ⟨(.type "code"), none, (.fields #[(s "TooMany" 749), (s "TooMany" 750), (s "/claim/cut.py" 751), (.int (104) 0), (.int (0) 0), (.int (0) 0), (.int (0) 0), (.int (0) 0), (.ref 452), (.bool false), (.int (181) 0), (.ref 453), .none, .none, .none, .none, (.int (752) 0), (.int (104) 0), (s "/claim/cut.py" 753)]), #[]⟩
def o5_455 (P : Params) : Obj := ⟨(.type "frame"), none, .plain, #[(some (.ref 454)), (some (.ref 3)), (some (.ref 450)), none, (some (s "askedatonce.errors" 187)), none, (some (.ref 0))]⟩
def o5_456 (P : Params) : Obj := ⟨(.type "tuple"), none, (.seq #[(.ref 451)] 0), #[]⟩
def o5_457 (P : Params) : Obj := ⟨(.type "tuple"), none, (.seq #[(s "__class__" 762)] 0), #[]⟩
def o5_458 (P : Params) : Obj := ⟨.none, none, (.fields #[]), #[]⟩
def o5_459 (P : Params) : Obj := ⟨(.type "tuple"), none, (.seq #[(s "self" 763), (s "what" 764), (s "most" 765)] 0), #[]⟩
def o5_460 (P : Params) : Obj := ⟨(.type "tuple"), none, (.seq #[] 0), #[]⟩
def o5_461 (P : Params) : Obj := ⟨.none, none, (.func (fnD (ic 22 0) (PySem.Str.ofString "TooMany.__init__") 0 [] .none .none .none .none none .none .none 0)), #[]⟩
def o5_462 (P : Params) : Obj := ⟨(.type "code"), none, (.fields #[(s "__init__" 759), (s "TooMany.__init__" 760), (s "/claim/cut.py" 761), (.int (106) 0), (.int (3) 0), (.int (0) 0), (.int (0) 0), (.int (3) 0), (.ref 457), (.bool true), (.int (181) 0), (.ref 458), .none, (.ref 459), (.ref 460), (.ref 461), (.int (766) 0), (.int (106) 0), (s "/claim/cut.py" 767)]), #[]⟩
def o5_463 (P : Params) : Obj := ⟨(.type "function"), none, (.func (fnD (ic 22 0) (PySem.Str.ofString "TooMany.__init__") 3 [((PySem.Str.ofString "__class__"), 451)] .none .none .none (s "askedatonce.errors" 187) none (.ref 462) (.ref 456) 0)), #[]⟩
def o5_464 (P : Params) : Obj := ⟨(.type "tuple"), none, (.seq #[(s "most" 769), (s "what" 770)] 0), #[]⟩
def o5_465 (P : Params) : Obj := ⟨(.type "dict"), none, (.dict #[e P "__module__" 754 (s "askedatonce.errors" 187), e P "__firstlineno__" 758 (.int (104) 757), e P "__init__" 768 (.ref 463), e P "__static_attributes__" 771 (.ref 464), e P "__doc__" 773 .none] 3), #[]⟩
def o5_466 (P : Params) : Obj := ⟨(.type "type"), none, (.cls ⟨(PySem.Str.ofString "TooMany"), [(.ref 24)], [(.ref 466), (.ref 24), (.type "ValueError"), (.type "Exception"), (.type "BaseException"), (.type "object")], 465, (PySem.Str.ofString "TooMany"), true, [], [], false, none, false⟩), #[(some (.ref 448)), none, (some (s "TooMany" 747)), (some (s "TooMany" 755)), (some (.builtin "ValueError.__new__")), (some (.bool true))]⟩
def o5_467 (P : Params) : Obj := ⟨(.type "super"), none, (.fields #[(.ref 466), (.ref 466), (.ref 466)]), #[]⟩
def o5_468 (P : Params) : Obj := ⟨(.type "builtin_function_or_method"), none, (.fields #[(.builtin "object.__init_subclass__"), (.ref 466)]), #[]⟩
def o5_469 (P : Params) : Obj := ⟨(.type "tuple"), none, (.seq #[] 0), #[]⟩
def o5_470 (P : Params) : Obj := ⟨.none, none, (.fields #[]), #[]⟩
def o5_471 (P : Params) : Obj := ⟨(.type "tuple"), none, (.seq #[(s "script" 781)] 0), #[]⟩
def o5_472 (P : Params) : Obj := ⟨(.type "tuple"), none, (.seq #[] 0), #[]⟩
def o5_473 (P : Params) : Obj := ⟨.none, none, (.func (fnD (tp 24) (PySem.Str.ofString "_law_pen") 0 [] .none .none .none .none none .none .none 0)), #[]⟩
def o5_474 (P : Params) : Obj := ⟨(.type "code"), none, (.fields #[(s "_law_pen" 778), (s "_law_pen" 779), (s "/claim/cut.py" 780), (.int (111) 0), (.int (1) 0), (.int (0) 0), (.int (0) 0), (.int (3) 0), (.ref 469), (.bool true), (.int (181) 0), (.ref 470), .none, (.ref 471), (.ref 472), (.ref 473), (.int (782) 0), (.int (111) 0), (s "/claim/cut.py" 783)]), #[]⟩
def o5_475 (P : Params) : Obj := ⟨(.type "function"), none, (.func (fnD (tp 24) (PySem.Str.ofString "_law_pen") 3 [] .none .none .none (s "law_askedatonce_k00_errors_of_questions_at_o" 776) none (.ref 474) .none 0)), #[]⟩
def o5_476 (P : Params) : Obj := ⟨(.type "tuple"), none, (.seq #[] 0), #[]⟩
def o5_477 (P : Params) : Obj := ⟨.none, none, (.fields #[]), #[]⟩
def o5_478 (P : Params) : Obj := ⟨(.type "tuple"), none, (.seq #[(s "pen" 788), (s "many" 789), (s "digit" 790), (s "at" 791), (s "cell" 792), (s "great" 793), (s "mixed" 794)] 0), #[]⟩
def o5_479 (P : Params) : Obj := ⟨(.type "tuple"), none, (.seq #[] 0), #[]⟩
def o5_480 (P : Params) : Obj := ⟨.none, none, (.func (fnD (tp 25) (PySem.Str.ofString "_law_draw") 0 [] .none .none .none .none none .none .none 0)), #[]⟩
def o5_481 (P : Params) : Obj := ⟨(.type "code"), none, (.fields #[(s "_law_draw" 785), (s "_law_draw" 786), (s "/claim/cut.py" 787), (.int (113) 0), (.int (2) 0), (.int (0) 0), (.int (0) 0), (.int (3) 0), (.ref 476), (.bool true), (.int (181) 0), (.ref 477), .none, (.ref 478), (.ref 479), (.ref 480), (.int (795) 0), (.int (113) 0), (s "/claim/cut.py" 796)]), #[]⟩
def o5_482 (P : Params) : Obj := ⟨(.type "function"), none, (.func (fnD (tp 25) (PySem.Str.ofString "_law_draw") 3 [] .none .none .none (s "law_askedatonce_k00_errors_of_questions_at_o" 776) none (.ref 481) .none 0)), #[]⟩
def o5_483 (P : Params) : Obj := ⟨(.type "tuple"), none, (.seq #[] 0), #[]⟩
def o5_484 (P : Params) : Obj := ⟨.none, none, (.fields #[]), #[]⟩
def o5_485 (P : Params) : Obj := ⟨(.type "tuple"), none, (.seq #[(s "pen" 801), (s "some" 802)] 0), #[]⟩
def o5_486 (P : Params) : Obj := ⟨(.type "tuple"), none, (.seq #[] 0), #[]⟩
def o5_487 (P : Params) : Obj := ⟨.none, none, (.func (fnD (tp 26) (PySem.Str.ofString "_law_pick") 0 [] .none .none .none .none none .none .none 0)), #[]⟩
def o5_488 (P : Params) : Obj := ⟨(.type "code"), none, (.fields #[(s "_law_pick" 798), (s "_law_pick" 799), (s "/claim/cut.py" 800), (.int (130) 0), (.int (2) 0), (.int (0) 0), (.int (0) 0), (.int (3) 0), (.ref 483), (.bool true), (.int (181) 0), (.ref 484), .none, (.ref 485), (.ref 486), (.ref 487), (.int (803) 0), (.int (130) 0), (s "/claim/cut.py" 804)]), #[]⟩
def o5_489 (P : Params) : Obj := ⟨(.type "function"), none, (.func (fnD (tp 26) (PySem.Str.ofString "_law_pick") 3 [] .none .none .none (s "law_askedatonce_k00_errors_of_questions_at_o" 776) none (.ref 488) .none 0)), #[]⟩
def o5_490 (P : Params) : Obj := ⟨(.type "tuple"), none, (.seq #[] 0), #[]⟩
def o5_491 (P : Params) : Obj := ⟨.none, none, (.fields #[]), #[]⟩
def o5_492 (P : Params) : Obj := ⟨.none, none, (.func (fnD (tp 27) (PySem.Str.ofString "_law_classes") 0 [] .none .none .none .none none .none .none 0)), #[]⟩
def o5_493 (P : Params) : Obj := ⟨(.type "code"), none, (.fields #[(s "_law_classes" 806), (s "_law_classes" 807), (s "/claim/cut.py" 808), (.int (132) 0), (.int (1) 0), (.int (0) 0), (.int (0) 0), (.int (3) 0), (.ref 490), (.bool true), (.int (181) 0), (.ref 491), .none, .none, .none, (.ref 492), (.int (809) 0), (.int (132) 0), (s "/claim/cut.py" 810)]), #[]⟩
def o5_494 (P : Params) : Obj := ⟨(.type "function"), none, (.func (fnD (tp 27) (PySem.Str.ofString "_law_classes") 3 [] .none .none .none (s "law_askedatonce_k00_errors_of_questions_at_o" 776) none (.ref 493) .none 0)), #[]⟩
def o5_495 (P : Params) : Obj := ⟨(.type "tuple"), none, (.seq #[] 0), #[]⟩
def o5_496 (P : Params) : Obj := ⟨.none, none, (.fields #[]), #[]⟩
def o5_497 (P : Params) : Obj := ⟨(.type "tuple"), none, (.seq #[(s "pen" 815)] 0), #[]⟩
def o5_498 (P : Params) : Obj := ⟨(.type "tuple"), none, (.seq #[] 0), #[]⟩
def o5_499 (P : Params) : Obj := ⟨.none, none, (.func (fnD (tp 28) (PySem.Str.ofString "_law_odd") 0 [] .none .none .none .none none .none .none 0)), #[]⟩
def o5_500 (P : Params) : Obj := ⟨(.type "code"), none, (.fields #[(s "_law_odd" 812), (s "_law_odd" 813), (s "/claim/cut.py" 814), (.int (142) 0), (.int (1) 0), (.int (0) 0), (.int (0) 0), (.int (3) 0), (.ref 495), (.bool true), (.int (181) 0), (.ref 496), .none, (.ref 497), (.ref 498), (.ref 499), (.int (816) 0), (.int (142) 0), (s "/claim/cut.py" 817)]), #[]⟩
def o5_501 (P : Params) : Obj := ⟨(.type "function"), none, (.func (fnD (tp 28) (PySem.Str.ofString "_law_odd") 3 [] .none .none .none (s "law_askedatonce_k00_errors_of_questions_at_o" 776) none (.ref 500) .none 0)), #[]⟩
def o5_502 (P : Params) : Obj := ⟨(.type "tuple"), none, (.seq #[] 0), #[]⟩
def o5_503 (P : Params) : Obj := ⟨.none, none, (.fields #[]), #[]⟩
def o5_504 (P : Params) : Obj := ⟨(.type "tuple"), none, (.seq #[(s "error" 822), (s "other" 823), (s "word" 824), (s "kept" 825), (s "due" 826)] 0), #[]⟩
def o5_505 (P : Params) : Obj := ⟨(.type "tuple"), none, (.seq #[] 0), #[]⟩
def o5_506 (P : Params) : Obj := ⟨.none, none, (.func (fnD (tp 29) (PySem.Str.ofString "_law_one_right") 0 [] .none .none .none .none none .none .none 0)), #[]⟩
def o5_507 (P : Params) : Obj := ⟨(.type "code"), none, (.fields #[(s "_law_one_right" 819), (s "_law_one_right" 820), (s "/claim/cut.py" 821), (.int (144) 0), (.int (5) 0), (.int (0) 0), (.int (0) 0), (.int (3) 0), (.ref 502), (.bool true), (.int (181) 0), (.ref 503), .none, (.ref 504), (.ref 505), (.ref 506), (.int (827) 0), (.int (144) 0), (s "/claim/cut.py" 828)]), #[]⟩
def o5_508 (P : Params) : Obj := ⟨(.type "function"), none, (.func (fnD (tp 29) (PySem.Str.ofString "_law_one_right") 3 [] .none .none .none (s "law_askedatonce_k00_errors_of_questions_at_o" 776) none (.ref 507) .none 0)), #[]⟩
def o5_509 (P : Params) : Obj := ⟨(.type "tuple"), none, (.seq #[] 0), #[]⟩
def o5_510 (P : Params) : Obj := ⟨.none, none, (.fields #[]), #[]⟩
def o5_511 (P : Params) : Obj := ⟨(.type "tuple"), none, (.seq #[(s "one" 833), (s "some" 834), (s "word" 835), (s "error" 836), (s "other" 837)] 0), #[]⟩
def o5_512 (P : Params) : Obj := ⟨(.type "tuple"), none, (.seq #[] 0), #[]⟩
def o5_513 (P : Params) : Obj := ⟨.none, none, (.func (fnD (tp 30) (PySem.Str.ofString "_law_values_right") 0 [] .none .none .none .none none .none .none 0)), #[]⟩
def o5_514 (P : Params) : Obj := ⟨(.type "code"), none, (.fields #[(s "_law_values_right" 830), (s "_law_values_right" 831), (s "/claim/cut.py" 832), (.int (146) 0), (.int (1) 0), (.int (0) 0), (.int (0) 0), (.int (3) 0), (.ref 509), (.bool true), (.int (181) 0), (.ref 510), .none, (.ref 511), (.ref 512), (.ref 513), (.int (838) 0), (.int (146) 0), (s "/claim/cut.py" 839)]), #[]⟩
def o5_515 (P : Params) : Obj := ⟨(.type "function"), none, (.func (fnD (tp 30) (PySem.Str.ofString "_law_values_right") 3 [] .none .none .none (s "law_askedatonce_k00_errors_of_questions_at_o" 776) none (.ref 514) .none 0)), #[]⟩
def o5_516 (P : Params) : Obj := ⟨(.type "tuple"), none, (.seq #[] 0), #[]⟩
def o5_517 (P : Params) : Obj := ⟨.none, none, (.fields #[]), #[]⟩
def o5_518 (P : Params) : Obj := ⟨(.type "tuple"), none, (.seq #[(s "script" 844), (s "pen" 845), (s "turn" 846), (s "one" 847), (s "two" 848), (s "error" 849), (s "other" 850)] 0), #[]⟩
def o5_519 (P : Params) : Obj := ⟨(.type "tuple"), none, (.seq #[] 0), #[]⟩
def o5_520 (P : Params) : Obj := ⟨.none, none, (.func (fnD (tp 31) (PySem.Str.ofString "law") 0 [] .none .none .none .none none .none .none 0)), #[]⟩
def o5_521 (P : Params) : Obj := ⟨(.type "code"), none, (.fields #[(s "law" 841), (s "law" 842), (s "/claim/cut.py" 843), (.int (170) 0), (.int (1) 0), (.int (0) 0), (.int (0) 0), (.int (3) 0), (.ref 516), (.bool true), (.int (181) 0), (.ref 517), .none, (.ref 518), (.ref 519), (.ref 520), (.int (851) 0), (.int (170) 0), (s "/claim/cut.py" 852)]), #[]⟩
def o5_522 (P : Params) : Obj := ⟨(.type "function"), none, (.func (fnD (tp 31) (PySem.Str.ofString "law") 3 [] .none .none .none (s "law_askedatonce_k00_errors_of_questions_at_o" 776) none (.ref 521) .none 0)), #[]⟩
def T5 (w : World) : BT := insL [(3, o5_3 w.params), (12, o5_12 w.params), (24, o5_24 w.params), (385, o5_385 w.params), (386, o5_386 w.params), (387, o5_387 w.params), (388, o5_388 w.params), (389, o5_389 w.params), (390, o5_390 w.params), (391, o5_391 w.params), (392, o5_392 w.params), (393, o5_393 w.params), (394, o5_394 w.params), (395, o5_395 w.params), (396, o5_396 w.params), (397, o5_397 w.params), (398, o5_398 w.params), (399, o5_399 w.params), (400, o5_400 w.params), (401, o5_401 w.params), (402, o5_402 w.params), (403, o5_403 w.params), (404, o5_404 w.params), (405, o5_405 w.params), (406, o5_406 w.params), (407, o5_407 w.params), (408, o5_408 w.params), (409, o5_409 w.params), (410, o5_410 w.params), (411, o5_411 w.params), (412, o5_412 w.params), (413, o5_413 w.params), (414, o5_414 w.params), (415, o5_415 w.params), (416, o5_416 w.params), (417, o5_417 w.params), (418, o5_418 w.params), (419, o5_419 w.params), (420, o5_420 w.params), (421, o5_421 w.params), (422, o5_422 w.params), (423, o5_423 w.params), (424, o5_424 w.params), (425, o5_425 w.params), (426, o5_426 w.params), (427, o5_427 w.params), (428, o5_428 w.params), (429, o5_429 w.params), (430, o5_430 w.params), (431, o5_431 w.params), (432, o5_432 w.params), (433, o5_433 w.params), (434, o5_434 w.params), (435, o5_435 w.params), (436, o5_436 w.params), (437, o5_437 w.params), (438, o5_438 w.params), (439, o5_439 w.params), (440, o5_440 w.params), (441, o5_441 w.params), (442, o5_442 w.params), (443, o5_443 w.params), (444, o5_444 w.params), (445, o5_445 w.params), (446, o5_446 w.params), (447, o5_447 w.params), (448, o5_448 w.params), (449, o5_449 w.params), (450, o5_450 w.params), (451, o5_451 w.params), (452, o5_452 w.params), (453, o5_453 w.params), (454, o5_454 w.params), (455, o5_455 w.params), (456, o5_456 w.params), (457, o5_457 w.params), (458, o5_458 w.params), (459, o5_459 w.params), (460, o5_460 w.params), (461, o5_461 w.params), (462, o5_462 w.params), (463, o5_463 w.params), (464, o5_464 w.params), (465, o5_465 w.params), (466, o5_466 w.params), (467, o5_467 w.params), (468, o5_468 w.params), (469, o5_469 w.params), (470, o5_470 w.params), (471, o5_471 w.params), (472, o5_472 w.params), (473, o5_473 w.params), (474, o5_474 w.params), (475, o5_475 w.params), (476, o5_476 w.params), (477, o5_477 w.params), (478, o5_478 w.params), (479, o5_479 w.params), (480, o5_480 w.params), (481, o5_481 w.params), (482, o5_482 w.params), (483, o5_483 w.params), (484, o5_484 w.params), (485, o5_485 w.params), (486, o5_486 w.params), (487, o5_487 w.params), (488, o5_488 w.params), (489, o5_489 w.params), (490, o5_490 w.params), (491, o5_491 w.params), (492, o5_492 w.params), (493, o5_493 w.params), (494, o5_494 w.params), (495, o5_495 w.params), (496, o5_496 w.params), (497, o5_497 w.params), (498, o5_498 w.params), (499, o5_499 w.params), (500, o5_500 w.params), (501, o5_501 w.params), (502, o5_502 w.params), (503, o5_503 w.params), (504, o5_504 w.params), (505, o5_505 w.params), (506, o5_506 w.params), (507, o5_507 w.params), (508, o5_508 w.params), (509, o5_509 w.params), (510, o5_510 w.params), (511, o5_511 w.params), (512, o5_512 w.params), (513, o5_513 w.params), (514, o5_514 w.params), (515, o5_515 w.params), (516, o5_516 w.params), (517, o5_517 w.params), (518, o5_518 w.params), (519, o5_519 w.params), (520, o5_520 w.params), (521, o5_521 w.params), (522, o5_522 w.params)] (T4 w)
def S5 (w : World) : SharedT := ⟨T5 w, 523, {}, (Array.mk []), ⟨0, 0, 0, 0⟩, 854, (startT (opening pr)).os⟩
def pos5 : Pos := ⟨170, 0, 182, 63⟩
def l5 : List Stmt := (bT.drop 19).take 13
theorem ck5 (w : World) : segF (stepQ (denQ tabQ) pr w) n0 annT 1 1306 (S4 w) (piecesOf l5 envT cT pos4 [topFrame fp]) = some (.next, S5 w, cT, pos5) := by
  kernel_rfl
theorem bEq : bT = l3 ++ (l4 ++ (l5 ++ ([]))) := by
  kernel_rfl
def stepsT : Nat := 0
theorem rch (w : World) : Rch pr w n0 annT (S0 w).abs ((((12 + 1) + 2284) + 2350) + 1306) (S5 w).abs (restOf [] envT cT pos5 [topFrame fp]) := by
  have R0 := Rch.go (pre w)
  rw [← denQ_eq, ← tabQ_eq] at R0
  have R0 := R0.block (blk w)
  rw [bEq] at R0
  exact ((((R0).piece (ck3 w)).piece (ck4 w)).piece (ck5 w))
def posE : Pos := pos5
def SE (w : World) : SharedT := S5 w
-- fin steps 1 total 13

end Hd
end
end

section
set_option Elab.async false
set_option linter.all false
set_option maxRecDepth 100000
set_option maxHeartbeats 4000000
namespace Wk
open PySem L2 VL
def top (i : Nat) : Stmt := PySem.Challenge.pw_askedatonce_k00_errors_of_questions_at_o.main.body.getD i (.Pass ⟨0, 0, 0, 0⟩)
def isxM : List Str := ["BadAnswers", "BadBox", "BadCommand", "BadForm", "BadFormat", "BadLoop", "BadName", "BadNumber", "BadPrices", "BadProgram", "BadRoot", "BadTable", "BadText", "BadValues", "BadWay", "ByNothing", "HoldsNothing", "Misfit", "NoRow", "Nothing", "TooMany"]
def isxN : List Str := ["BadAnswers", "BadBox", "BadCommand", "BadForm", "BadFormat", "BadLoop", "BadName", "BadNumber", "BadPrices", "BadProgram", "BadRoot", "BadTable", "BadText", "BadValues", "BadWay", "ByNothing", "HoldsNothing", "Misfit", "NoRow", "Nothing", "OnceError", "TooMany"]
def isxB : List (Str × List Str) := [("BadAnswers", ["BadAnswers", "OnceError"]), ("BadBox", ["BadBox", "OnceError"]), ("BadCommand", ["BadCommand", "OnceError"]), ("BadForm", ["BadForm", "OnceError"]), ("BadFormat", ["BadFormat", "OnceError"]), ("BadLoop", ["BadLoop", "OnceError"]), ("BadName", ["BadName", "OnceError"]), ("BadNumber", ["BadNumber", "OnceError"]), ("BadPrices", ["BadPrices", "OnceError"]), ("BadProgram", ["BadProgram", "OnceError"]), ("BadRoot", ["BadRoot", "OnceError"]), ("BadTable", ["BadTable", "OnceError"]), ("BadText", ["BadText", "OnceError"]), ("BadValues", ["BadValues", "OnceError"]), ("BadWay", ["BadWay", "OnceError"]), ("ByNothing", ["ByNothing", "OnceError"]), ("HoldsNothing", ["HoldsNothing", "OnceError"]), ("Misfit", ["Misfit", "OnceError"]), ("NoRow", ["NoRow", "OnceError"]), ("Nothing", ["Nothing", "OnceError"]), ("TooMany", ["OnceError", "TooMany"])]
def isxT : Str → Str → Option Bool := fun n x => if x ∈ isxN then (isxB.lookup n).map (fun bs => decide (x ∈ bs)) else none
def atN : Str → List Str := fun f => if f = "at" then ["BadAnswers"] else if f = "line" then ["BadText"] else if f = "most" then ["TooMany"] else if f = "name" then ["BadBox", "BadValues"] else if f = "part" then ["BadFormat", "BadLoop", "BadNumber", "BadPrices", "BadProgram", "BadRoot", "BadTable", "Misfit"] else if f = "row" then ["ByNothing", "HoldsNothing"] else if f = "value" then ["BadForm", "BadName", "BadWay", "NoRow"] else if f = "what" then ["TooMany"] else if f = "word" then ["BadCommand", "BadText"] else []
def gD_BadForm_0_value : List D → List D → List D
  | [], [z0] => [z0]
  | _, _ => []
def gD_BadForm_1 : List D → List D → List D
  | [p0], [] => [p0]
  | _, _ => []
def gD_BadName_0_value : List D → List D → List D
  | [], [z0] => [z0]
  | _, _ => []
def gD_BadName_1 : List D → List D → List D
  | [p0], [] => [p0]
  | _, _ => []
def gD_BadWay_0_value : List D → List D → List D
  | [], [z0] => [z0]
  | _, _ => []
def gD_BadWay_1 : List D → List D → List D
  | [p0], [] => [p0]
  | _, _ => []
def gD_NoRow_0_value : List D → List D → List D
  | [], [z0] => [z0]
  | _, _ => []
def gD_NoRow_1 : List D → List D → List D
  | [p0], [] => [p0]
  | _, _ => []
def gD_BadFormat_0_part : List D → List D → List D
  | [], [z0] => [z0]
  | _, _ => []
def gD_BadFormat_1 : List D → List D → List D
  | [p0], [] => [p0]
  | _, _ => []
def gD_BadNumber_0_part : List D → List D → List D
  | [], [z0] => [z0]
  | _, _ => []
def gD_BadNumber_1 : List D → List D → List D
  | [p0], [] => [p0]
  | _, _ => []
def gD_BadRoot_0_part : List D → List D → List D
  | [], [z0] => [z0]
  | _, _ => []
def gD_BadRoot_1 : List D → List D → List D
  | [p0], [] => [p0]
  | _, _ => []
def gD_BadTable_0_part : List D → List D → List D
  | [], [z0] => [z0]
  | _, _ => []
def gD_BadTable_1 : List D → List D → List D
  | [p0], [] => [p0]
  | _, _ => []
def gD_BadProgram_0_part : List D → List D → List D
  | [], [z0] => [z0]
  | _, _ => []
def gD_BadProgram_1 : List D → List D → List D
  | [p0], [] => [p0]
  | _, _ => []
def gD_Misfit_0_part : List D → List D → List D
  | [], [z0] => [z0]
  | _, _ => []
def gD_Misfit_1 : List D → List D → List D
  | [p0], [] => [p0]
  | _, _ => []
def gD_BadPrices_0_part : List D → List D → List D
  | [], [z0] => [z0]
  | _, _ => []
def gD_BadPrices_1 : List D → List D → List D
  | [p0], [] => [p0]
  | _, _ => []
def gD_BadLoop_0_part : List D → List D → List D
  | [], [z0] => [z0]
  | _, _ => []
def gD_BadLoop_1 : List D → List D → List D
  | [p0], [] => [p0]
  | _, _ => []
def gD_BadBox_0_name : List D → List D → List D
  | [], [z0] => [z0]
  | _, _ => []
def gD_BadBox_1 : List D → List D → List D
  | [p0], [] => [p0]
  | _, _ => []
def gD_BadValues_0_name : List D → List D → List D
  | [], [z0] => [z0]
  | _, _ => []
def gD_BadValues_1 : List D → List D → List D
  | [p0], [] => [p0]
  | _, _ => []
def gD_HoldsNothing_0_row : List D → List D → List D
  | [], [z0] => [z0]
  | _, _ => []
def gD_HoldsNothing_1 : List D → List D → List D
  | [p0], [] => [p0]
  | _, _ => []
def gD_ByNothing_0_row : List D → List D → List D
  | [], [z0] => [z0]
  | _, _ => []
def gD_ByNothing_1 : List D → List D → List D
  | [p0], [] => [p0]
  | _, _ => []
def gD_BadAnswers_0_at : List D → List D → List D
  | [], [z0] => [z0]
  | _, _ => []
def gD_BadAnswers_1 : List D → List D → List D
  | [p0], [] => [p0]
  | _, _ => []
def gD_BadCommand_0_word : List D → List D → List D
  | [], [z0] => [z0]
  | _, _ => []
def gD_BadCommand_1 : List D → List D → List D
  | [p0], [] => [p0]
  | _, _ => []
def gD_BadText_0_word_line : List D → List D → List D
  | [], [z0, z1] => [z1, z0]
  | _, _ => []
def gD_BadText_2 : List D → List D → List D
  | [p0, p1], [] => [p0, p1]
  | _, _ => []
def gD_TooMany_0_most_what : List D → List D → List D
  | [], [z0, z1] => [z1, z0]
  | _, _ => []
def gD_TooMany_2 : List D → List D → List D
  | [p0, p1], [] => [p0, p1]
  | _, _ => []
def gD_Nothing_0 : List D → List D → List D
  | [], [] => []
  | _, _ => []
structure Fx (K : PySem.W.Frag) (mg : Str → Option Value) : Prop where
  b_ValueError : mg "ValueError" = none
  b_abs : mg "abs" = none
  b_int : mg "int" = none
  b_isinstance : mg "isinstance" = none
  b_len : mg "len" = none
  b_list : mg "list" = none
  b_range : mg "range" = none
  b_repr : mg "repr" = none
  k_BadAnswers : ∃ C, mg "BadAnswers" = some (.ref C)
  k_BadBox : ∃ C, mg "BadBox" = some (.ref C)
  k_BadCommand : ∃ C, mg "BadCommand" = some (.ref C)
  k_BadForm : ∃ C, mg "BadForm" = some (.ref C)
  k_BadFormat : ∃ C, mg "BadFormat" = some (.ref C)
  k_BadLoop : ∃ C, mg "BadLoop" = some (.ref C)
  k_BadName : ∃ C, mg "BadName" = some (.ref C)
  k_BadNumber : ∃ C, mg "BadNumber" = some (.ref C)
  k_BadPrices : ∃ C, mg "BadPrices" = some (.ref C)
  k_BadProgram : ∃ C, mg "BadProgram" = some (.ref C)
  k_BadRoot : ∃ C, mg "BadRoot" = some (.ref C)
  k_BadTable : ∃ C, mg "BadTable" = some (.ref C)
  k_BadText : ∃ C, mg "BadText" = some (.ref C)
  k_BadValues : ∃ C, mg "BadValues" = some (.ref C)
  k_BadWay : ∃ C, mg "BadWay" = some (.ref C)
  k_ByNothing : ∃ C, mg "ByNothing" = some (.ref C)
  k_HoldsNothing : ∃ C, mg "HoldsNothing" = some (.ref C)
  k_Misfit : ∃ C, mg "Misfit" = some (.ref C)
  k_NoRow : ∃ C, mg "NoRow" = some (.ref C)
  k_Nothing : ∃ C, mg "Nothing" = some (.ref C)
  k_OnceError : ∃ C, mg "OnceError" = some (.ref C)
  k_TooMany : ∃ C, mg "TooMany" = some (.ref C)
  s_ysm : SysM K
  t_ValueError : IsT K mg isxM "ValueError"
  isx : IsX K mg isxT isxN
  a_at : AtX K mg (atN "at") "at"
  a_line : AtX K mg (atN "line") "line"
  a_most : AtX K mg (atN "most") "most"
  a_name : AtX K mg (atN "name") "name"
  a_part : AtX K mg (atN "part") "part"
  a_row : AtX K mg (atN "row") "row"
  a_value : AtX K mg (atN "value") "value"
  a_what : AtX K mg (atN "what") "what"
  a_word : AtX K mg (atN "word") "word"
instance lamN : LamN := ⟨fun _ _ => "", fun _ P => P ∈ ([] : List Addr)⟩
section
variable {P : Program} {w : World} {K : PySem.W.Frag} {mg : Str → Option Value} {base : Heap}
/-! _law_pen -/
abbrev S__law_pen : Stmt := top 24
theorem sc__law_pen : FnScope ["script"] ["script"] (defScope S__law_pen) := ⟨rfl, rfl, rfl, by decide +kernel, rfl, by decide +kernel, by decide +kernel⟩
noncomputable def g__law_pen : VL.Env → Option (Out (List D)) :=
    nLst (aCons (eN (nList (eCut (eVar 0) (ret none) (oPart (eK (.int 63)))))) (aCons (eK (.int 0)) (aCons (eK (.int 0)) aNil)))
noncomputable def m__law_pen : List D → Option (List D) := fnN 1 1 g__law_pen
theorem m__law_pen_len : ∀ ds d, m__law_pen ds = some d → ds.length = 1 := fnN_len
theorem ok__law_pen (T : Fx K mg) {f : Addr} {fd : FuncData} (F : FunV K "_law_pen" "_law_pen" S__law_pen f fd) : FnG P w K mg base (L2.CX P w) 1 f fd ["script"] (spN K mg 1 m__law_pen) := by
  refine fn_new F sc__law_pen rfl rfl fun cdv A outer s H E B hcd hr gd => ?_
  have nd := sc__law_pen.nd
  exact ⟨_, vn_lst (va_cons (VN.ve (vn_list (by rfl) T.b_list (ve_cut (ve_var 0) vo_none (vo_some ve_int)))) (va_cons ve_int (va_cons ve_int va_nil)))⟩
/-! _law_draw -/
abbrev S__law_draw : Stmt := top 25
theorem sc__law_draw : FnScope ["pen", "many", "digit", "at", "cell", "great", "mixed"] ["pen", "many"] (defScope S__law_draw) := ⟨rfl, rfl, rfl, by decide +kernel, rfl, by decide +kernel, by decide +kernel⟩
noncomputable def g__law_draw : SF :=
    sSeq (sIf (eT (e2 (oCmp dGt) (eB2 oIx 0 (eK (.int 2))) (eK (.int 0)))) (sSeq (sSet 2 (e2 oMod (eCB bInt (aCons (eB2 oIx 0 (eK (.int 2))) aNil)) (eVar 1)))
    (sSeq (sPut 0 (e2 oDiv (eCB bInt (aCons (eB2 oIx 0 (eK (.int 2))) aNil)) (eVar 1)) (eK (.int 2)))
    (sRet (eVar 2)))) sNil)
    (sSeq (sSet 3 (eB2 oIx 0 (eK (.int 1))))
    (sSeq (sPut 0 (e2 oAdd (eVar 3) (eK (.int 1))) (eK (.int 1)))
    (sSeq (sSet 4 (e2 oAdd (e2 oMul (eK (.int 60013)) (eVar 3)) (eK (.int 2003))))
    (sSeq (sIf (eT (e2 oNe (eB2 oIx 0 (eK (.int 0))) (eN (nLst aNil)))) (sSet 4 (e2 oIx (eB2 oIx 0 (eK (.int 0))) (e2 oMod (eCB bInt (aBor 3 aNil)) (eCB bLen (aCons (eB2 oIx 0 (eK (.int 0))) aNil))))) sNil)
    (sSeq (sIf (tAnd' (eT (eB2 (oCmp dLt) 3 (eCB bLen (aCons (eB2 oIx 0 (eK (.int 0))) aNil)))) (eT (e2 (oCmp dGe) (eCB bAbs (aBor 4 aNil)) (e2 oPow (eK (.int 10)) (eK (.int 18)))))) (sSeq (sSet 5 (e2 oAdd (e2 oMul (eK (.int 2)) (e2 oSub (eCB bAbs (aBor 4 aNil)) (e2 oPow (eK (.int 10)) (eK (.int 18))))) (eCB bInt (aCons (eB2 (oCmp dLt) 4 (eK (.int 0))) aNil))))
    (sSeq (sPut 0 (e2 oDiv (eCB bInt (aBor 5 aNil)) (eVar 1)) (eK (.int 2)))
    (sRet (e2 oMod (eCB bInt (aBor 5 aNil)) (eVar 1))))) sNil)
    (sSeq (sSet 6 (e2 oMod (eCB bInt (aCons (e2 oPow (e2 oAdd (e2 oAdd (e2 oMod (eCB bInt (aBor 4 aNil)) (eK (.int 2147483549))) (e2 oMul (eK (.int 60013)) (eVar 3))) (eK (.int 2003))) (eK (.int 5))) aNil)) (eK (.int 2147483587))))
    (sSeq (sSet 6 (e2 oMod (eCB bInt (aCons (e2 oPow (e2 oAdd (e2 oAdd (e2 oMul (eVar 6) (e2 oAdd (e2 oMul (eK (.int 2)) (eVar 3)) (eK (.int 307)))) (e2 oMul (e2 oMul (eK (.int 50021)) (eVar 3)) (eVar 3))) (eK (.int 2003))) (eK (.int 3))) aNil)) (eK (.int 2147483563))))
    (sRet (e2 oMod (eCB bInt (aCons (e2 oDiv (eVar 6) (eK (.int 32))) aNil)) (eVar 1))))))))))
noncomputable def m__law_draw : List D → List D → Option (D × List D) := fnM 7 1 g__law_draw
theorem m__law_draw_len : ∀ cs ds d, m__law_draw cs ds = some d → ds.length = 1 := fnM_len
theorem ok__law_draw (T : Fx K mg) {f : Addr} {fd : FuncData} (F : FunV K "_law_draw" "_law_draw" S__law_draw f fd) : FnG P w K mg base (L2.CX P w) 1 f fd ["pen", "many"] (spM K mg 1 m__law_draw) := by
  refine fn_lent F sc__law_draw rfl fun cdv A outer s H E B hcd hr gd => ?_
  have nd := sc__law_draw.nd
  exact ⟨_, vss_cons (vs_if (vt_cm cm_gt (ve_ixBK (K := K) rfl 0 ve_int) ve_int) (vss_cons (vs_set (i := 2) nd rfl (by first | exact Or.inl rfl | exact Or.inr rfl) (ve_mod (ve_ct call_int1 cd_int (by rfl) T.b_int PyProof.Rows.boot_int (vb_cons (ve_ixBK (K := K) rfl 0 ve_int) vb_nil)) (ve_var 1)))
    (vss_cons (vs_put 0 (ve_div (ve_ct call_int1 cd_int (by rfl) T.b_int PyProof.Rows.boot_int (vb_cons (ve_ixBK (K := K) rfl 0 ve_int) vb_nil)) (ve_var 1)) ve_int)
    (vss_one (vs_ret (ve_var 2))))) vss_nil)
    (vss_cons (vs_set (i := 3) nd rfl (by first | exact Or.inl rfl | exact Or.inr rfl) (ve_ixBK (K := K) rfl 0 ve_int))
    (vss_cons (vs_put 0 (ve_addK (K := K) rfl (ve_var 3) ve_int) ve_int)
    (vss_cons (vs_set (i := 4) nd rfl (by first | exact Or.inl rfl | exact Or.inr rfl) (ve_addK (K := K) rfl (ve_mul ve_int (ve_var 3)) ve_int))
    (vss_cons (vs_if (vt_cm (cm_neK (K := K) rfl hr.units) (ve_ixBK (K := K) rfl 0 ve_int) (VN.ve (vn_lst va_nil))) (vss_one (vs_set (i := 4) nd rfl (by first | exact Or.inl rfl | exact Or.inr rfl) (ve_ixK (K := K) rfl (ve_ixBK (K := K) rfl 0 ve_int) (ve_mod (ve_ct call_int1 cd_int (by rfl) T.b_int PyProof.Rows.boot_int (vb_bor 3 vb_nil)) (ve_cb (call_lenK (K := K) rfl) cd_lenK (by rfl) T.b_len PySem.boot_len (vb_cons (ve_ixBK (K := K) rfl 0 ve_int) vb_nil)))))) vss_nil)
    (vss_cons (vs_if (VW.vt (vw_and (vt_cmB 3 cm_lt (ve_cb (call_lenK (K := K) rfl) cd_lenK (by rfl) T.b_len PySem.boot_len (vb_cons (ve_ixBK (K := K) rfl 0 ve_int) vb_nil))) (vw_and1 (vt_cm cm_ge (ve_cb call_abs cd_abs (by rfl) T.b_abs PyProof.Rows.boot_abs (vb_bor 4 vb_nil)) (ve_pow ve_int ve_int))))) (vss_cons (vs_set (i := 5) nd rfl (by first | exact Or.inl rfl | exact Or.inr rfl) (ve_addK (K := K) rfl (ve_mul ve_int (ve_sub (ve_cb call_abs cd_abs (by rfl) T.b_abs PyProof.Rows.boot_abs (vb_bor 4 vb_nil)) (ve_pow ve_int ve_int))) (ve_ct call_int1 cd_int (by rfl) T.b_int PyProof.Rows.boot_int (vb_cons (ve_cmB 4 cm_lt ve_int) vb_nil))))
    (vss_cons (vs_put 0 (ve_div (ve_ct call_int1 cd_int (by rfl) T.b_int PyProof.Rows.boot_int (vb_bor 5 vb_nil)) (ve_var 1)) ve_int)
    (vss_one (vs_ret (ve_mod (ve_ct call_int1 cd_int (by rfl) T.b_int PyProof.Rows.boot_int (vb_bor 5 vb_nil)) (ve_var 1)))))) vss_nil)
    (vss_cons (vs_set (i := 6) nd rfl (by first | exact Or.inl rfl | exact Or.inr rfl) (ve_mod (ve_ct call_int1 cd_int (by rfl) T.b_int PyProof.Rows.boot_int (vb_cons (ve_pow (ve_addK (K := K) rfl (ve_addK (K := K) rfl (ve_mod (ve_ct call_int1 cd_int (by rfl) T.b_int PyProof.Rows.boot_int (vb_bor 4 vb_nil)) ve_int) (ve_mul ve_int (ve_var 3))) ve_int) ve_int) vb_nil)) ve_int))
    (vss_cons (vs_set (i := 6) nd rfl (by first | exact Or.inl rfl | exact Or.inr rfl) (ve_mod (ve_ct call_int1 cd_int (by rfl) T.b_int PyProof.Rows.boot_int (vb_cons (ve_pow (ve_addK (K := K) rfl (ve_addK (K := K) rfl (ve_mul (ve_var 6) (ve_addK (K := K) rfl (ve_mul ve_int (ve_var 3)) ve_int)) (ve_mul (ve_mul ve_int (ve_var 3)) (ve_var 3))) ve_int) ve_int) vb_nil)) ve_int))
    (vss_one (vs_ret (ve_mod (ve_ct call_int1 cd_int (by rfl) T.b_int PyProof.Rows.boot_int (vb_cons (ve_div (ve_var 6) ve_int) vb_nil)) (ve_var 1)))))))))))⟩
/-! _law_pick -/
abbrev S__law_pick : Stmt := top 26
theorem sc__law_pick : FnScope ["pen", "some"] ["pen", "some"] (defScope S__law_pick) := ⟨rfl, rfl, rfl, by decide +kernel, rfl, by decide +kernel, by decide +kernel⟩
noncomputable def g__law_pick : SF :=
    sRet (eB2 oIx 1 (eCallM 0 m__law_draw (aCons (eCB bLen (aBor 1 aNil)) aNil)))
noncomputable def m__law_pick : List D → List D → Option (D × List D) := fnM 2 1 g__law_pick
theorem m__law_pick_len : ∀ cs ds d, m__law_pick cs ds = some d → ds.length = 1 := fnM_len
theorem ok__law_pick (T : Fx K mg) {f : Addr} {fd : FuncData} (F : FunV K "_law_pick" "_law_pick" S__law_pick f fd)
    (H__law_draw : FnB P w K mg base 1 "_law_draw" ["pen", "many"] (spM K mg 1 m__law_draw)) : FnG P w K mg base (L2.CX P w) 2 f fd ["pen", "some"] (spM K mg 1 m__law_pick) := by
  refine fn_lent F sc__law_pick rfl fun cdv A outer s H E B hcd hr gd => ?_
  have nd := sc__law_pick.nd
  exact ⟨_, vss_one (vs_ret (ve_ixBK (K := K) rfl 1 (ve_callMB 0 (FnB.mono H__law_draw (by decide)) m__law_draw_len hr gd (by rfl) (va_cons (ve_cb (call_lenK (K := K) rfl) cd_lenK (by rfl) T.b_len PySem.boot_len (vb_bor 1 vb_nil)) va_nil))))⟩
/-! _law_classes -/
abbrev S__law_classes : Stmt := top 27
theorem sc__law_classes : FnScope ["error", "found", "name", "is_so"] ["error"] (defScope S__law_classes) := ⟨rfl, rfl, rfl, by decide +kernel, rfl, by decide +kernel, by decide +kernel⟩
noncomputable def g__law_classes : SF :=
    sSeq (sSet 1 (eN (nLst (aCons (eTup (aCons (eK (.str "number")) (aCons (eCB (bIsX isxT isxN) (aBor 0 (aCons (eK (.cls "BadNumber")) aNil))) aNil))) (aCons (eTup (aCons (eK (.str "format")) (aCons (eCB (bIsX isxT isxN) (aBor 0 (aCons (eK (.cls "BadFormat")) aNil))) aNil))) (aCons (eTup (aCons (eK (.str "way")) (aCons (eCB (bIsX isxT isxN) (aBor 0 (aCons (eK (.cls "BadWay")) aNil))) aNil))) aNil))))))
    (sSeq (sSet 1 (e2 oAdd (eVar 1) (eN (nLst (aCons (eTup (aCons (eK (.str "name")) (aCons (eCB (bIsX isxT isxN) (aBor 0 (aCons (eK (.cls "BadName")) aNil))) aNil))) (aCons (eTup (aCons (eK (.str "form")) (aCons (eCB (bIsX isxT isxN) (aBor 0 (aCons (eK (.cls "BadForm")) aNil))) aNil))) (aCons (eTup (aCons (eK (.str "program")) (aCons (eCB (bIsX isxT isxN) (aBor 0 (aCons (eK (.cls "BadProgram")) aNil))) aNil))) aNil)))))))
    (sSeq (sSet 1 (e2 oAdd (eVar 1) (eN (nLst (aCons (eTup (aCons (eK (.str "values")) (aCons (eCB (bIsX isxT isxN) (aBor 0 (aCons (eK (.cls "BadValues")) aNil))) aNil))) (aCons (eTup (aCons (eK (.str "box")) (aCons (eCB (bIsX isxT isxN) (aBor 0 (aCons (eK (.cls "BadBox")) aNil))) aNil))) (aCons (eTup (aCons (eK (.str "answers")) (aCons (eCB (bIsX isxT isxN) (aBor 0 (aCons (eK (.cls "BadAnswers")) aNil))) aNil))) aNil)))))))
    (sSeq (sSet 1 (e2 oAdd (eVar 1) (eN (nLst (aCons (eTup (aCons (eK (.str "row")) (aCons (eCB (bIsX isxT isxN) (aBor 0 (aCons (eK (.cls "NoRow")) aNil))) aNil))) (aCons (eTup (aCons (eK (.str "by")) (aCons (eCB (bIsX isxT isxN) (aBor 0 (aCons (eK (.cls "ByNothing")) aNil))) aNil))) (aCons (eTup (aCons (eK (.str "holds")) (aCons (eCB (bIsX isxT isxN) (aBor 0 (aCons (eK (.cls "HoldsNothing")) aNil))) aNil))) aNil)))))))
    (sSeq (sSet 1 (e2 oAdd (eVar 1) (eN (nLst (aCons (eTup (aCons (eK (.str "table")) (aCons (eCB (bIsX isxT isxN) (aBor 0 (aCons (eK (.cls "BadTable")) aNil))) aNil))) (aCons (eTup (aCons (eK (.str "root")) (aCons (eCB (bIsX isxT isxN) (aBor 0 (aCons (eK (.cls "BadRoot")) aNil))) aNil))) (aCons (eTup (aCons (eK (.str "loop")) (aCons (eCB (bIsX isxT isxN) (aBor 0 (aCons (eK (.cls "BadLoop")) aNil))) aNil))) aNil)))))))
    (sSeq (sSet 1 (e2 oAdd (eVar 1) (eN (nLst (aCons (eTup (aCons (eK (.str "prices")) (aCons (eCB (bIsX isxT isxN) (aBor 0 (aCons (eK (.cls "BadPrices")) aNil))) aNil))) (aCons (eTup (aCons (eK (.str "misfit")) (aCons (eCB (bIsX isxT isxN) (aBor 0 (aCons (eK (.cls "Misfit")) aNil))) aNil))) (aCons (eTup (aCons (eK (.str "text")) (aCons (eCB (bIsX isxT isxN) (aBor 0 (aCons (eK (.cls "BadText")) aNil))) aNil))) aNil)))))))
    (sSeq (sSet 1 (e2 oAdd (eVar 1) (eN (nLst (aCons (eTup (aCons (eK (.str "command")) (aCons (eCB (bIsX isxT isxN) (aBor 0 (aCons (eK (.cls "BadCommand")) aNil))) aNil))) (aCons (eTup (aCons (eK (.str "none")) (aCons (eCB (bIsX isxT isxN) (aBor 0 (aCons (eK (.cls "Nothing")) aNil))) aNil))) (aCons (eTup (aCons (eK (.str "many")) (aCons (eCB (bIsX isxT isxN) (aBor 0 (aCons (eK (.cls "TooMany")) aNil))) aNil))) aNil)))))))
    (sSeq (sSet 1 (e2 oAdd (eVar 1) (eN (nLst (aCons (eTup (aCons (eK (.str "base")) (aCons (eCB (bIsX isxT isxN) (aBor 0 (aCons (eK (.cls "OnceError")) aNil))) aNil))) (aCons (eTup (aCons (eK (.str "value")) (aCons (eCB (bIsT isxM "ValueError") (aBor 0 (aCons (eK (.opq (.ty "ValueError"))) aNil))) aNil))) aNil))))))
    (sRet (eN (nComp [2, 3] (iItems (eVar 1)) (gTupD 2 (gConsD (gSetD 2) (gConsD (gSetD 3) gNilD))) (tTru (eVar 3)) (eVar 2)))))))))))
noncomputable def m__law_classes : List D → Option D := fnV 4 1 g__law_classes
theorem m__law_classes_len : ∀ ds d, m__law_classes ds = some d → ds.length = 1 := fnV_len
theorem ok__law_classes (T : Fx K mg) {f : Addr} {fd : FuncData} (F : FunV K "_law_classes" "_law_classes" S__law_classes f fd) : FnG P w K mg base (L2.CX P w) 1 f fd ["error"] (spV K mg 1 m__law_classes) := by
  refine fn_plain F sc__law_classes rfl fun cdv A outer s H E B hcd hr gd => ?_
  have nd := sc__law_classes.nd
  exact ⟨_, vss_cons (vs_set (i := 1) nd rfl (by first | exact Or.inl rfl | exact Or.inr rfl) (VN.ve (vn_lst (va_cons (ve_tup (va_cons ve_str (va_cons (ve_cb (call_isV.or call_isi) (cd_isX T.isx) (by rfl) T.b_isinstance PyProof.Rows.boot_isinstance (vb_bor 0 (vb_cons (ve_clsM (by rfl) T.k_BadNumber) vb_nil))) va_nil))) (va_cons (ve_tup (va_cons ve_str (va_cons (ve_cb (call_isV.or call_isi) (cd_isX T.isx) (by rfl) T.b_isinstance PyProof.Rows.boot_isinstance (vb_bor 0 (vb_cons (ve_clsM (by rfl) T.k_BadFormat) vb_nil))) va_nil))) (va_cons (ve_tup (va_cons ve_str (va_cons (ve_cb (call_isV.or call_isi) (cd_isX T.isx) (by rfl) T.b_isinstance PyProof.Rows.boot_isinstance (vb_bor 0 (vb_cons (ve_clsM (by rfl) T.k_BadWay) vb_nil))) va_nil))) va_nil))))))
    (vss_cons (vs_set (i := 1) nd rfl (by first | exact Or.inl rfl | exact Or.inr rfl) (ve_addK (K := K) rfl (ve_var 1) (VN.ve (vn_lst (va_cons (ve_tup (va_cons ve_str (va_cons (ve_cb (call_isV.or call_isi) (cd_isX T.isx) (by rfl) T.b_isinstance PyProof.Rows.boot_isinstance (vb_bor 0 (vb_cons (ve_clsM (by rfl) T.k_BadName) vb_nil))) va_nil))) (va_cons (ve_tup (va_cons ve_str (va_cons (ve_cb (call_isV.or call_isi) (cd_isX T.isx) (by rfl) T.b_isinstance PyProof.Rows.boot_isinstance (vb_bor 0 (vb_cons (ve_clsM (by rfl) T.k_BadForm) vb_nil))) va_nil))) (va_cons (ve_tup (va_cons ve_str (va_cons (ve_cb (call_isV.or call_isi) (cd_isX T.isx) (by rfl) T.b_isinstance PyProof.Rows.boot_isinstance (vb_bor 0 (vb_cons (ve_clsM (by rfl) T.k_BadProgram) vb_nil))) va_nil))) va_nil)))))))
    (vss_cons (vs_set (i := 1) nd rfl (by first | exact Or.inl rfl | exact Or.inr rfl) (ve_addK (K := K) rfl (ve_var 1) (VN.ve (vn_lst (va_cons (ve_tup (va_cons ve_str (va_cons (ve_cb (call_isV.or call_isi) (cd_isX T.isx) (by rfl) T.b_isinstance PyProof.Rows.boot_isinstance (vb_bor 0 (vb_cons (ve_clsM (by rfl) T.k_BadValues) vb_nil))) va_nil))) (va_cons (ve_tup (va_cons ve_str (va_cons (ve_cb (call_isV.or call_isi) (cd_isX T.isx) (by rfl) T.b_isinstance PyProof.Rows.boot_isinstance (vb_bor 0 (vb_cons (ve_clsM (by rfl) T.k_BadBox) vb_nil))) va_nil))) (va_cons (ve_tup (va_cons ve_str (va_cons (ve_cb (call_isV.or call_isi) (cd_isX T.isx) (by rfl) T.b_isinstance PyProof.Rows.boot_isinstance (vb_bor 0 (vb_cons (ve_clsM (by rfl) T.k_BadAnswers) vb_nil))) va_nil))) va_nil)))))))
    (vss_cons (vs_set (i := 1) nd rfl (by first | exact Or.inl rfl | exact Or.inr rfl) (ve_addK (K := K) rfl (ve_var 1) (VN.ve (vn_lst (va_cons (ve_tup (va_cons ve_str (va_cons (ve_cb (call_isV.or call_isi) (cd_isX T.isx) (by rfl) T.b_isinstance PyProof.Rows.boot_isinstance (vb_bor 0 (vb_cons (ve_clsM (by rfl) T.k_NoRow) vb_nil))) va_nil))) (va_cons (ve_tup (va_cons ve_str (va_cons (ve_cb (call_isV.or call_isi) (cd_isX T.isx) (by rfl) T.b_isinstance PyProof.Rows.boot_isinstance (vb_bor 0 (vb_cons (ve_clsM (by rfl) T.k_ByNothing) vb_nil))) va_nil))) (va_cons (ve_tup (va_cons ve_str (va_cons (ve_cb (call_isV.or call_isi) (cd_isX T.isx) (by rfl) T.b_isinstance PyProof.Rows.boot_isinstance (vb_bor 0 (vb_cons (ve_clsM (by rfl) T.k_HoldsNothing) vb_nil))) va_nil))) va_nil)))))))
    (vss_cons (vs_set (i := 1) nd rfl (by first | exact Or.inl rfl | exact Or.inr rfl) (ve_addK (K := K) rfl (ve_var 1) (VN.ve (vn_lst (va_cons (ve_tup (va_cons ve_str (va_cons (ve_cb (call_isV.or call_isi) (cd_isX T.isx) (by rfl) T.b_isinstance PyProof.Rows.boot_isinstance (vb_bor 0 (vb_cons (ve_clsM (by rfl) T.k_BadTable) vb_nil))) va_nil))) (va_cons (ve_tup (va_cons ve_str (va_cons (ve_cb (call_isV.or call_isi) (cd_isX T.isx) (by rfl) T.b_isinstance PyProof.Rows.boot_isinstance (vb_bor 0 (vb_cons (ve_clsM (by rfl) T.k_BadRoot) vb_nil))) va_nil))) (va_cons (ve_tup (va_cons ve_str (va_cons (ve_cb (call_isV.or call_isi) (cd_isX T.isx) (by rfl) T.b_isinstance PyProof.Rows.boot_isinstance (vb_bor 0 (vb_cons (ve_clsM (by rfl) T.k_BadLoop) vb_nil))) va_nil))) va_nil)))))))
    (vss_cons (vs_set (i := 1) nd rfl (by first | exact Or.inl rfl | exact Or.inr rfl) (ve_addK (K := K) rfl (ve_var 1) (VN.ve (vn_lst (va_cons (ve_tup (va_cons ve_str (va_cons (ve_cb (call_isV.or call_isi) (cd_isX T.isx) (by rfl) T.b_isinstance PyProof.Rows.boot_isinstance (vb_bor 0 (vb_cons (ve_clsM (by rfl) T.k_BadPrices) vb_nil))) va_nil))) (va_cons (ve_tup (va_cons ve_str (va_cons (ve_cb (call_isV.or call_isi) (cd_isX T.isx) (by rfl) T.b_isinstance PyProof.Rows.boot_isinstance (vb_bor 0 (vb_cons (ve_clsM (by rfl) T.k_Misfit) vb_nil))) va_nil))) (va_cons (ve_tup (va_cons ve_str (va_cons (ve_cb (call_isV.or call_isi) (cd_isX T.isx) (by rfl) T.b_isinstance PyProof.Rows.boot_isinstance (vb_bor 0 (vb_cons (ve_clsM (by rfl) T.k_BadText) vb_nil))) va_nil))) va_nil)))))))
    (vss_cons (vs_set (i := 1) nd rfl (by first | exact Or.inl rfl | exact Or.inr rfl) (ve_addK (K := K) rfl (ve_var 1) (VN.ve (vn_lst (va_cons (ve_tup (va_cons ve_str (va_cons (ve_cb (call_isV.or call_isi) (cd_isX T.isx) (by rfl) T.b_isinstance PyProof.Rows.boot_isinstance (vb_bor 0 (vb_cons (ve_clsM (by rfl) T.k_BadCommand) vb_nil))) va_nil))) (va_cons (ve_tup (va_cons ve_str (va_cons (ve_cb (call_isV.or call_isi) (cd_isX T.isx) (by rfl) T.b_isinstance PyProof.Rows.boot_isinstance (vb_bor 0 (vb_cons (ve_clsM (by rfl) T.k_Nothing) vb_nil))) va_nil))) (va_cons (ve_tup (va_cons ve_str (va_cons (ve_cb (call_isV.or call_isi) (cd_isX T.isx) (by rfl) T.b_isinstance PyProof.Rows.boot_isinstance (vb_bor 0 (vb_cons (ve_clsM (by rfl) T.k_TooMany) vb_nil))) va_nil))) va_nil)))))))
    (vss_cons (vs_set (i := 1) nd rfl (by first | exact Or.inl rfl | exact Or.inr rfl) (ve_addK (K := K) rfl (ve_var 1) (VN.ve (vn_lst (va_cons (ve_tup (va_cons ve_str (va_cons (ve_cb (call_isV.or call_isi) (cd_isX T.isx) (by rfl) T.b_isinstance PyProof.Rows.boot_isinstance (vb_bor 0 (vb_cons (ve_clsM (by rfl) T.k_OnceError) vb_nil))) va_nil))) (va_cons (ve_tup (va_cons ve_str (va_cons (ve_cb call_isV (cd_isT T.t_ValueError) (by rfl) T.b_isinstance PyProof.Rows.boot_isinstance (vb_bor 0 (vb_cons (ve_ty (by rfl) T.b_ValueError (by decide +kernel)) vb_nil))) va_nil))) va_nil))))))
    (vss_one (vs_ret (VN.ve (vn_comp rfl nd (own := [("name", 2), ("is_so", 3)]) (vi_seq (ve_var 1)) (blkOk_by (by first | rfl | decide +kernel)) (fun _ _ _ _ _ _ => vg_tupK (K := K) rfl rfl (vgs_cons (vg_name (i := 2) nd rfl (by first | exact Or.inl rfl | exact Or.inr rfl)) (vgs_cons (vg_name (i := 3) nd rfl (by first | exact Or.inl rfl | exact Or.inr rfl)) vgs_nil))) (by decide) (fun _ _ _ _ _ _ => vts_one (vt_truK (K := K) rfl (ve_var 3))) (fun _ _ _ _ _ _ => ve_var 2))))))))))))⟩
/-! _law_odd -/
abbrev S__law_odd : Stmt := top 28
theorem sc__law_odd : FnScope ["pen"] ["pen"] (defScope S__law_odd) := ⟨rfl, rfl, rfl, by decide +kernel, rfl, by decide +kernel, by decide +kernel⟩
noncomputable def g__law_odd : SF :=
    sRet (eCallM 0 m__law_pick (aCons (eN (nLst (aCons (eK .non) (aCons (eK (.bl true)) (aCons (eK (.int 7)) (aCons (e2 oSub (eK (.int 0)) (e2 oPow (eK (.int 10)) (eK (.int 30)))) (aCons (eK (.str "near")) (aCons (eK (.str "")) (aCons (eTup (aCons (eK (.str "a")) (aCons (eK (.int 1)) aNil))) (aCons (eN (nLst (aCons (eK (.str "a")) aNil))) (aCons (eK (.dic [(.inr "a", .int 1)])) (aCons (eTup aNil) (aCons (eK (.int 0)) (aCons (eK (.bl false)) aNil)))))))))))))) aNil))
noncomputable def m__law_odd : List D → List D → Option (D × List D) := fnM 1 0 g__law_odd
theorem m__law_odd_len : ∀ cs ds d, m__law_odd cs ds = some d → ds.length = 0 := fnM_len
theorem ok__law_odd (T : Fx K mg) {f : Addr} {fd : FuncData} (F : FunV K "_law_odd" "_law_odd" S__law_odd f fd)
    (H__law_pick : FnB P w K mg base 2 "_law_pick" ["pen", "some"] (spM K mg 1 m__law_pick)) : FnG P w K mg base (L2.CX P w) 3 f fd ["pen"] (spM K mg 0 m__law_odd) := by
  refine fn_lent F sc__law_odd rfl fun cdv A outer s H E B hcd hr gd => ?_
  have nd := sc__law_odd.nd
  exact ⟨_, vss_one (vs_ret (ve_callMB 0 (FnB.mono H__law_pick (by decide)) m__law_pick_len hr gd (by rfl) (va_cons (VN.ve (vn_lst (va_cons ve_non (va_cons ve_bl (va_cons ve_int (va_cons (ve_sub ve_int (ve_pow ve_int ve_int)) (va_cons ve_str (va_cons ve_str (va_cons (ve_tup (va_cons ve_str (va_cons ve_int va_nil))) (va_cons (VN.ve (vn_lst (va_cons ve_str va_nil))) (va_cons ve_dicS (va_cons (ve_tup va_nil) (va_cons ve_int (va_cons ve_bl va_nil)))))))))))))) va_nil)))⟩
/-! _law_one_right -/
abbrev S__law_one_right : Stmt := top 29
theorem sc__law_one_right : FnScope ["error", "other", "word", "kept", "due"] ["error", "other", "word", "kept", "due"] (defScope S__law_one_right) := ⟨rfl, rfl, rfl, by decide +kernel, rfl, by decide +kernel, by decide +kernel⟩
noncomputable def g__law_one_right : SF :=
    sRet (eAnd (e2 oEq (eN (nLst (aCons (eCall m__law_classes [0] (aBor 0 aNil)) (aCons (eCall m__law_classes [1] (aBor 1 aNil)) aNil)))) (e2 oMul (eN (nLst (aCons (eN (nLst (aCons (eVar 2) (aCons (eK (.str "base")) (aCons (eK (.str "value")) aNil))))) aNil))) (eK (.int 2)))) (e2 oEq (eCB bReprX (aBor 3 aNil)) (eCB bReprX (aCons (eN (nLst (aCons (eVar 4) (aCons (eVar 4) aNil)))) aNil))))
noncomputable def m__law_one_right : List D → Option D := fnV 5 5 g__law_one_right
theorem m__law_one_right_len : ∀ ds d, m__law_one_right ds = some d → ds.length = 5 := fnV_len
theorem ok__law_one_right (T : Fx K mg) {f : Addr} {fd : FuncData} (F : FunV K "_law_one_right" "_law_one_right" S__law_one_right f fd)
    (H__law_classes : FnB P w K mg base 1 "_law_classes" ["error"] (spV K mg 1 m__law_classes)) : FnG P w K mg base (L2.CX P w) 2 f fd ["error", "other", "word", "kept", "due"] (spV K mg 5 m__law_one_right) := by
  refine fn_plain F sc__law_one_right rfl fun cdv A outer s H E B hcd hr gd => ?_
  have nd := sc__law_one_right.nd
  exact ⟨_, vss_one (vs_ret (ve_andK (K := K) rfl (ve_cm (cm_eqK (K := K) rfl hr.units) (VN.ve (vn_lst (va_cons (ve_callB (FnB.mono H__law_classes (by decide)) m__law_classes_len hr gd (by rfl) (vb_bor 0 vb_nil)) (va_cons (ve_callB (FnB.mono H__law_classes (by decide)) m__law_classes_len hr gd (by rfl) (vb_bor 1 vb_nil)) va_nil)))) (ve_mul (VN.ve (vn_lst (va_cons (VN.ve (vn_lst (va_cons (ve_var 2) (va_cons ve_str (va_cons ve_str va_nil))))) va_nil))) ve_int)) (ve_one (ve_cm (cm_eqK (K := K) rfl hr.units) (ve_cb (call_reprX T.s_ysm gd (units200 hr)) cd_reprX (by rfl) T.b_repr (by decide +kernel) (vb_bor 3 vb_nil)) (ve_cb (call_reprX T.s_ysm gd (units200 hr)) cd_reprX (by rfl) T.b_repr (by decide +kernel) (vb_cons (VN.ve (vn_lst (va_cons (ve_var 4) (va_cons (ve_var 4) va_nil)))) vb_nil))))))⟩
/-! _law_values_right -/
abbrev S__law_values_right : Stmt := top 30
theorem sc__law_values_right : FnScope ["one", "some", "word", "error", "other"] ["one"] (defScope S__law_values_right) := ⟨rfl, rfl, rfl, by decide +kernel, rfl, by decide +kernel, by decide +kernel⟩
noncomputable def g__law_values_right : SF :=
    sSeq (sOwn 1 (nLst (aCons (eTup (aCons (eK (.str "way")) (aCons (eMkE "BadWay" [("value", 1)] 1 0 gD_BadWay_1 (aCons (eVar 0) aNil) aNil) (aCons (eMkE "BadWay" [("value", 1)] 0 1 gD_BadWay_0_value aNil (aCons (eVar 0) aNil)) aNil)))) (aCons (eTup (aCons (eK (.str "name")) (aCons (eMkE "BadName" [("value", 1)] 1 0 gD_BadName_1 (aCons (eVar 0) aNil) aNil) (aCons (eMkE "BadName" [("value", 1)] 0 1 gD_BadName_0_value aNil (aCons (eVar 0) aNil)) aNil)))) (aCons (eTup (aCons (eK (.str "form")) (aCons (eMkE "BadForm" [("value", 1)] 1 0 gD_BadForm_1 (aCons (eVar 0) aNil) aNil) (aCons (eMkE "BadForm" [("value", 1)] 0 1 gD_BadForm_0_value aNil (aCons (eVar 0) aNil)) aNil)))) aNil)))))
    (sSeq (sExpr (eApp 1 (eTup (aCons (eK (.str "row")) (aCons (eMkE "NoRow" [("value", 1)] 1 0 gD_NoRow_1 (aCons (eVar 0) aNil) aNil) (aCons (eMkE "NoRow" [("value", 1)] 0 1 gD_NoRow_0_value aNil (aCons (eVar 0) aNil)) aNil))))))
    (sSeq (sFor (iItems (eVar 1)) (gTupD 3 (gConsD (gSetD 2) (gConsD (gSetD 3) (gConsD (gSetD 4) gNilD)))) (sIf (tNot' (tTru (eCall m__law_one_right [3, 4, 2, 0] (aBor 3 (aBor 4 (aBor 2 (aCons (eN (nLst (aCons (eXat (atN "value") "value" (eVar 3)) (aCons (eXat (atN "value") "value" (eVar 4)) aNil)))) (aBor 0 aNil)))))))) (sRet (eK (.bl false))) sNil))
    (sSeq (sOwn 1 (nLst (aCons (eTup (aCons (eK (.str "number")) (aCons (eMkE "BadNumber" [("part", 1)] 1 0 gD_BadNumber_1 (aCons (eVar 0) aNil) aNil) (aCons (eMkE "BadNumber" [("part", 1)] 0 1 gD_BadNumber_0_part aNil (aCons (eVar 0) aNil)) aNil)))) (aCons (eTup (aCons (eK (.str "format")) (aCons (eMkE "BadFormat" [("part", 1)] 1 0 gD_BadFormat_1 (aCons (eVar 0) aNil) aNil) (aCons (eMkE "BadFormat" [("part", 1)] 0 1 gD_BadFormat_0_part aNil (aCons (eVar 0) aNil)) aNil)))) aNil))))
    (sSeq (sOwn 1 (nAdd (eVar 1) (eN (nLst (aCons (eTup (aCons (eK (.str "program")) (aCons (eMkE "BadProgram" [("part", 1)] 1 0 gD_BadProgram_1 (aCons (eVar 0) aNil) aNil) (aCons (eMkE "BadProgram" [("part", 1)] 0 1 gD_BadProgram_0_part aNil (aCons (eVar 0) aNil)) aNil)))) (aCons (eTup (aCons (eK (.str "table")) (aCons (eMkE "BadTable" [("part", 1)] 1 0 gD_BadTable_1 (aCons (eVar 0) aNil) aNil) (aCons (eMkE "BadTable" [("part", 1)] 0 1 gD_BadTable_0_part aNil (aCons (eVar 0) aNil)) aNil)))) (aCons (eTup (aCons (eK (.str "root")) (aCons (eMkE "BadRoot" [("part", 1)] 1 0 gD_BadRoot_1 (aCons (eVar 0) aNil) aNil) (aCons (eMkE "BadRoot" [("part", 1)] 0 1 gD_BadRoot_0_part aNil (aCons (eVar 0) aNil)) aNil)))) aNil)))))))
    (sSeq (sOwn 1 (nAdd (eVar 1) (eN (nLst (aCons (eTup (aCons (eK (.str "loop")) (aCons (eMkE "BadLoop" [("part", 1)] 1 0 gD_BadLoop_1 (aCons (eVar 0) aNil) aNil) (aCons (eMkE "BadLoop" [("part", 1)] 0 1 gD_BadLoop_0_part aNil (aCons (eVar 0) aNil)) aNil)))) (aCons (eTup (aCons (eK (.str "prices")) (aCons (eMkE "BadPrices" [("part", 1)] 1 0 gD_BadPrices_1 (aCons (eVar 0) aNil) aNil) (aCons (eMkE "BadPrices" [("part", 1)] 0 1 gD_BadPrices_0_part aNil (aCons (eVar 0) aNil)) aNil)))) (aCons (eTup (aCons (eK (.str "misfit")) (aCons (eMkE "Misfit" [("part", 1)] 1 0 gD_Misfit_1 (aCons (eVar 0) aNil) aNil) (aCons (eMkE "Misfit" [("part", 1)] 0 1 gD_Misfit_0_part aNil (aCons (eVar 0) aNil)) aNil)))) aNil)))))))
    (sSeq (sFor (iItems (eVar 1)) (gTupD 3 (gConsD (gSetD 2) (gConsD (gSetD 3) (gConsD (gSetD 4) gNilD)))) (sIf (tNot' (tTru (eCall m__law_one_right [3, 4, 2, 0] (aBor 3 (aBor 4 (aBor 2 (aCons (eN (nLst (aCons (eXat (atN "part") "part" (eVar 3)) (aCons (eXat (atN "part") "part" (eVar 4)) aNil)))) (aBor 0 aNil)))))))) (sRet (eK (.bl false))) sNil))
    (sSeq (sFor (iItems (eN (nLst (aCons (eTup (aCons (eK (.str "values")) (aCons (eMkE "BadValues" [("name", 1)] 1 0 gD_BadValues_1 (aCons (eVar 0) aNil) aNil) (aCons (eMkE "BadValues" [("name", 1)] 0 1 gD_BadValues_0_name aNil (aCons (eVar 0) aNil)) aNil)))) (aCons (eTup (aCons (eK (.str "box")) (aCons (eMkE "BadBox" [("name", 1)] 1 0 gD_BadBox_1 (aCons (eVar 0) aNil) aNil) (aCons (eMkE "BadBox" [("name", 1)] 0 1 gD_BadBox_0_name aNil (aCons (eVar 0) aNil)) aNil)))) aNil))))) (gTupD 3 (gConsD (gSetD 2) (gConsD (gSetD 3) (gConsD (gSetD 4) gNilD)))) (sIf (tNot' (tTru (eCall m__law_one_right [3, 4, 2, 0] (aBor 3 (aBor 4 (aBor 2 (aCons (eN (nLst (aCons (eXat (atN "name") "name" (eVar 3)) (aCons (eXat (atN "name") "name" (eVar 4)) aNil)))) (aBor 0 aNil)))))))) (sRet (eK (.bl false))) sNil))
    (sSeq (sOwn 1 (nLst (aCons (eTup (aCons (eK (.str "by")) (aCons (eMkE "ByNothing" [("row", 1)] 1 0 gD_ByNothing_1 (aCons (eVar 0) aNil) aNil) (aCons (eMkE "ByNothing" [("row", 1)] 0 1 gD_ByNothing_0_row aNil (aCons (eVar 0) aNil)) aNil)))) (aCons (eTup (aCons (eK (.str "holds")) (aCons (eMkE "HoldsNothing" [("row", 1)] 1 0 gD_HoldsNothing_1 (aCons (eVar 0) aNil) aNil) (aCons (eMkE "HoldsNothing" [("row", 1)] 0 1 gD_HoldsNothing_0_row aNil (aCons (eVar 0) aNil)) aNil)))) aNil))))
    (sSeq (sFor (iItems (eVar 1)) (gTupD 3 (gConsD (gSetD 2) (gConsD (gSetD 3) (gConsD (gSetD 4) gNilD)))) (sIf (tNot' (tTru (eCall m__law_one_right [3, 4, 2, 0] (aBor 3 (aBor 4 (aBor 2 (aCons (eN (nLst (aCons (eXat (atN "row") "row" (eVar 3)) (aCons (eXat (atN "row") "row" (eVar 4)) aNil)))) (aBor 0 aNil)))))))) (sRet (eK (.bl false))) sNil))
    (sSeq (sPar 3 4 (aCons (eMkE "BadAnswers" [("at", 1)] 1 0 gD_BadAnswers_1 (aCons (eVar 0) aNil) aNil) (aCons (eMkE "BadAnswers" [("at", 1)] 0 1 gD_BadAnswers_0_at aNil (aCons (eVar 0) aNil)) aNil)))
    (sSeq (sIf (tNot' (tTru (eCall m__law_one_right [3, 4, 0] (aBor 3 (aBor 4 (aCons (eK (.str "answers")) (aCons (eN (nLst (aCons (eXat (atN "at") "at" (eVar 3)) (aCons (eXat (atN "at") "at" (eVar 4)) aNil)))) (aBor 0 aNil)))))))) (sRet (eK (.bl false))) sNil)
    (sSeq (sPar 3 4 (aCons (eMkE "BadCommand" [("word", 1)] 1 0 gD_BadCommand_1 (aCons (eVar 0) aNil) aNil) (aCons (eMkE "BadCommand" [("word", 1)] 0 1 gD_BadCommand_0_word aNil (aCons (eVar 0) aNil)) aNil)))
    (sRet (eCall m__law_one_right [3, 4, 0] (aBor 3 (aBor 4 (aCons (eK (.str "command")) (aCons (eN (nLst (aCons (eXat (atN "word") "word" (eVar 3)) (aCons (eXat (atN "word") "word" (eVar 4)) aNil)))) (aBor 0 aNil)))))))))))))))))))
noncomputable def m__law_values_right : List D → Option D := fnV 5 1 g__law_values_right
theorem m__law_values_right_len : ∀ ds d, m__law_values_right ds = some d → ds.length = 1 := fnV_len
theorem ok__law_values_right (T : Fx K mg) {f : Addr} {fd : FuncData} (F : FunV K "_law_values_right" "_law_values_right" S__law_values_right f fd)
    (V_BadForm_0_value : XvB P w K mg base 1 "BadForm" [("value", 1)] 0 ["value"] gD_BadForm_0_value)
    (V_BadForm_1 : XvB P w K mg base 1 "BadForm" [("value", 1)] 1 [] gD_BadForm_1)
    (V_BadName_0_value : XvB P w K mg base 1 "BadName" [("value", 1)] 0 ["value"] gD_BadName_0_value)
    (V_BadName_1 : XvB P w K mg base 1 "BadName" [("value", 1)] 1 [] gD_BadName_1)
    (V_BadWay_0_value : XvB P w K mg base 1 "BadWay" [("value", 1)] 0 ["value"] gD_BadWay_0_value)
    (V_BadWay_1 : XvB P w K mg base 1 "BadWay" [("value", 1)] 1 [] gD_BadWay_1)
    (V_NoRow_0_value : XvB P w K mg base 1 "NoRow" [("value", 1)] 0 ["value"] gD_NoRow_0_value)
    (V_NoRow_1 : XvB P w K mg base 1 "NoRow" [("value", 1)] 1 [] gD_NoRow_1)
    (H__law_one_right : FnB P w K mg base 2 "_law_one_right" ["error", "other", "word", "kept", "due"] (spV K mg 5 m__law_one_right))
    (V_BadFormat_0_part : XvB P w K mg base 1 "BadFormat" [("part", 1)] 0 ["part"] gD_BadFormat_0_part)
    (V_BadFormat_1 : XvB P w K mg base 1 "BadFormat" [("part", 1)] 1 [] gD_BadFormat_1)
    (V_BadNumber_0_part : XvB P w K mg base 1 "BadNumber" [("part", 1)] 0 ["part"] gD_BadNumber_0_part)
    (V_BadNumber_1 : XvB P w K mg base 1 "BadNumber" [("part", 1)] 1 [] gD_BadNumber_1)
    (V_BadRoot_0_part : XvB P w K mg base 1 "BadRoot" [("part", 1)] 0 ["part"] gD_BadRoot_0_part)
    (V_BadRoot_1 : XvB P w K mg base 1 "BadRoot" [("part", 1)] 1 [] gD_BadRoot_1)
    (V_BadTable_0_part : XvB P w K mg base 1 "BadTable" [("part", 1)] 0 ["part"] gD_BadTable_0_part)
    (V_BadTable_1 : XvB P w K mg base 1 "BadTable" [("part", 1)] 1 [] gD_BadTable_1)
    (V_BadProgram_0_part : XvB P w K mg base 1 "BadProgram" [("part", 1)] 0 ["part"] gD_BadProgram_0_part)
    (V_BadProgram_1 : XvB P w K mg base 1 "BadProgram" [("part", 1)] 1 [] gD_BadProgram_1)
    (V_Misfit_0_part : XvB P w K mg base 1 "Misfit" [("part", 1)] 0 ["part"] gD_Misfit_0_part)
    (V_Misfit_1 : XvB P w K mg base 1 "Misfit" [("part", 1)] 1 [] gD_Misfit_1)
    (V_BadPrices_0_part : XvB P w K mg base 1 "BadPrices" [("part", 1)] 0 ["part"] gD_BadPrices_0_part)
    (V_BadPrices_1 : XvB P w K mg base 1 "BadPrices" [("part", 1)] 1 [] gD_BadPrices_1)
    (V_BadLoop_0_part : XvB P w K mg base 1 "BadLoop" [("part", 1)] 0 ["part"] gD_BadLoop_0_part)
    (V_BadLoop_1 : XvB P w K mg base 1 "BadLoop" [("part", 1)] 1 [] gD_BadLoop_1)
    (V_BadBox_0_name : XvB P w K mg base 1 "BadBox" [("name", 1)] 0 ["name"] gD_BadBox_0_name)
    (V_BadBox_1 : XvB P w K mg base 1 "BadBox" [("name", 1)] 1 [] gD_BadBox_1)
    (V_BadValues_0_name : XvB P w K mg base 1 "BadValues" [("name", 1)] 0 ["name"] gD_BadValues_0_name)
    (V_BadValues_1 : XvB P w K mg base 1 "BadValues" [("name", 1)] 1 [] gD_BadValues_1)
    (V_HoldsNothing_0_row : XvB P w K mg base 1 "HoldsNothing" [("row", 1)] 0 ["row"] gD_HoldsNothing_0_row)
    (V_HoldsNothing_1 : XvB P w K mg base 1 "HoldsNothing" [("row", 1)] 1 [] gD_HoldsNothing_1)
    (V_ByNothing_0_row : XvB P w K mg base 1 "ByNothing" [("row", 1)] 0 ["row"] gD_ByNothing_0_row)
    (V_ByNothing_1 : XvB P w K mg base 1 "ByNothing" [("row", 1)] 1 [] gD_ByNothing_1)
    (V_BadAnswers_0_at : XvB P w K mg base 1 "BadAnswers" [("at", 1)] 0 ["at"] gD_BadAnswers_0_at)
    (V_BadAnswers_1 : XvB P w K mg base 1 "BadAnswers" [("at", 1)] 1 [] gD_BadAnswers_1)
    (V_BadCommand_0_word : XvB P w K mg base 1 "BadCommand" [("word", 1)] 0 ["word"] gD_BadCommand_0_word)
    (V_BadCommand_1 : XvB P w K mg base 1 "BadCommand" [("word", 1)] 1 [] gD_BadCommand_1) : FnG P w K mg base (L2.CX P w) 3 f fd ["one"] (spV K mg 1 m__law_values_right) := by
  refine fn_plain F sc__law_values_right rfl fun cdv A outer s H E B hcd hr gd => ?_
  have nd := sc__law_values_right.nd
  exact ⟨_, vss_cons (vs_own (i := 1) nd rfl (by first | exact Or.inl rfl | exact Or.inr rfl) (vn_lst (va_cons (ve_tup (va_cons ve_str (va_cons (ve_exv V_BadWay_1 (hr.mono (by decide)) (by rfl) (va_cons (ve_var 0) va_nil)) (va_cons (ve_exvK V_BadWay_0_value (hr.mono (by decide)) (by rfl) (vk_cons (ve_var 0) vk_nil)) va_nil)))) (va_cons (ve_tup (va_cons ve_str (va_cons (ve_exv V_BadName_1 (hr.mono (by decide)) (by rfl) (va_cons (ve_var 0) va_nil)) (va_cons (ve_exvK V_BadName_0_value (hr.mono (by decide)) (by rfl) (vk_cons (ve_var 0) vk_nil)) va_nil)))) (va_cons (ve_tup (va_cons ve_str (va_cons (ve_exv V_BadForm_1 (hr.mono (by decide)) (by rfl) (va_cons (ve_var 0) va_nil)) (va_cons (ve_exvK V_BadForm_0_value (hr.mono (by decide)) (by rfl) (vk_cons (ve_var 0) vk_nil)) va_nil)))) va_nil)))))
    (vss_cons (vs_expr (ve_append 1 (ve_tup (va_cons ve_str (va_cons (ve_exv V_NoRow_1 (hr.mono (by decide)) (by rfl) (va_cons (ve_var 0) va_nil)) (va_cons (ve_exvK V_NoRow_0_value (hr.mono (by decide)) (by rfl) (vk_cons (ve_var 0) vk_nil)) va_nil)))) (pe := fun h => pe_bm PySem.F.plainAttrs_list PySem.F.slot_list_append PySem.F.type_list_append mt_append (pv 1) (pa_cons h pa_nil))))
    (vss_cons (vs_for (by first | exact PassesOwn.never | exact PassesOwn.leaving) rfl (vi_seq (ve_var 1)) (vg_tupK (K := K) rfl rfl (vgs_cons (vg_name (i := 2) nd rfl (by first | exact Or.inl rfl | exact Or.inr rfl)) (vgs_cons (vg_name (i := 3) nd rfl (by first | exact Or.inl rfl | exact Or.inr rfl)) (vgs_cons (vg_name (i := 4) nd rfl (by first | exact Or.inl rfl | exact Or.inr rfl)) vgs_nil)))) (vss_one (vs_if (vt_not (vt_tru (ve_callB (FnB.mono H__law_one_right (by decide)) m__law_one_right_len hr gd (by rfl) (vb_bor 3 (vb_bor 4 (vb_bor 2 (vb_cons (VN.ve (vn_lst (va_cons (ve_xat T.a_value (ve_var 3)) (va_cons (ve_xat T.a_value (ve_var 4)) va_nil)))) (vb_bor 0 vb_nil)))))))) (vss_one (vs_ret ve_bl)) vss_nil)))
    (vss_cons (vs_own (i := 1) nd rfl (by first | exact Or.inl rfl | exact Or.inr rfl) (vn_lst (va_cons (ve_tup (va_cons ve_str (va_cons (ve_exv V_BadNumber_1 (hr.mono (by decide)) (by rfl) (va_cons (ve_var 0) va_nil)) (va_cons (ve_exvK V_BadNumber_0_part (hr.mono (by decide)) (by rfl) (vk_cons (ve_var 0) vk_nil)) va_nil)))) (va_cons (ve_tup (va_cons ve_str (va_cons (ve_exv V_BadFormat_1 (hr.mono (by decide)) (by rfl) (va_cons (ve_var 0) va_nil)) (va_cons (ve_exvK V_BadFormat_0_part (hr.mono (by decide)) (by rfl) (vk_cons (ve_var 0) vk_nil)) va_nil)))) va_nil))))
    (vss_cons (vs_own (i := 1) nd rfl (by first | exact Or.inl rfl | exact Or.inr rfl) (vn_add (ve_var 1) (VN.ve (vn_lst (va_cons (ve_tup (va_cons ve_str (va_cons (ve_exv V_BadProgram_1 (hr.mono (by decide)) (by rfl) (va_cons (ve_var 0) va_nil)) (va_cons (ve_exvK V_BadProgram_0_part (hr.mono (by decide)) (by rfl) (vk_cons (ve_var 0) vk_nil)) va_nil)))) (va_cons (ve_tup (va_cons ve_str (va_cons (ve_exv V_BadTable_1 (hr.mono (by decide)) (by rfl) (va_cons (ve_var 0) va_nil)) (va_cons (ve_exvK V_BadTable_0_part (hr.mono (by decide)) (by rfl) (vk_cons (ve_var 0) vk_nil)) va_nil)))) (va_cons (ve_tup (va_cons ve_str (va_cons (ve_exv V_BadRoot_1 (hr.mono (by decide)) (by rfl) (va_cons (ve_var 0) va_nil)) (va_cons (ve_exvK V_BadRoot_0_part (hr.mono (by decide)) (by rfl) (vk_cons (ve_var 0) vk_nil)) va_nil)))) va_nil)))))))
    (vss_cons (vs_own (i := 1) nd rfl (by first | exact Or.inl rfl | exact Or.inr rfl) (vn_add (ve_var 1) (VN.ve (vn_lst (va_cons (ve_tup (va_cons ve_str (va_cons (ve_exv V_BadLoop_1 (hr.mono (by decide)) (by rfl) (va_cons (ve_var 0) va_nil)) (va_cons (ve_exvK V_BadLoop_0_part (hr.mono (by decide)) (by rfl) (vk_cons (ve_var 0) vk_nil)) va_nil)))) (va_cons (ve_tup (va_cons ve_str (va_cons (ve_exv V_BadPrices_1 (hr.mono (by decide)) (by rfl) (va_cons (ve_var 0) va_nil)) (va_cons (ve_exvK V_BadPrices_0_part (hr.mono (by decide)) (by rfl) (vk_cons (ve_var 0) vk_nil)) va_nil)))) (va_cons (ve_tup (va_cons ve_str (va_cons (ve_exv V_Misfit_1 (hr.mono (by decide)) (by rfl) (va_cons (ve_var 0) va_nil)) (va_cons (ve_exvK V_Misfit_0_part (hr.mono (by decide)) (by rfl) (vk_cons (ve_var 0) vk_nil)) va_nil)))) va_nil)))))))
    (vss_cons (vs_for (by first | exact PassesOwn.never | exact PassesOwn.leaving) rfl (vi_seq (ve_var 1)) (vg_tupK (K := K) rfl rfl (vgs_cons (vg_name (i := 2) nd rfl (by first | exact Or.inl rfl | exact Or.inr rfl)) (vgs_cons (vg_name (i := 3) nd rfl (by first | exact Or.inl rfl | exact Or.inr rfl)) (vgs_cons (vg_name (i := 4) nd rfl (by first | exact Or.inl rfl | exact Or.inr rfl)) vgs_nil)))) (vss_one (vs_if (vt_not (vt_tru (ve_callB (FnB.mono H__law_one_right (by decide)) m__law_one_right_len hr gd (by rfl) (vb_bor 3 (vb_bor 4 (vb_bor 2 (vb_cons (VN.ve (vn_lst (va_cons (ve_xat T.a_part (ve_var 3)) (va_cons (ve_xat T.a_part (ve_var 4)) va_nil)))) (vb_bor 0 vb_nil)))))))) (vss_one (vs_ret ve_bl)) vss_nil)))
    (vss_cons (vs_for (by first | exact PassesOwn.never | exact PassesOwn.leaving) rfl (vi_seq (VN.ve (vn_lst (va_cons (ve_tup (va_cons ve_str (va_cons (ve_exv V_BadValues_1 (hr.mono (by decide)) (by rfl) (va_cons (ve_var 0) va_nil)) (va_cons (ve_exvK V_BadValues_0_name (hr.mono (by decide)) (by rfl) (vk_cons (ve_var 0) vk_nil)) va_nil)))) (va_cons (ve_tup (va_cons ve_str (va_cons (ve_exv V_BadBox_1 (hr.mono (by decide)) (by rfl) (va_cons (ve_var 0) va_nil)) (va_cons (ve_exvK V_BadBox_0_name (hr.mono (by decide)) (by rfl) (vk_cons (ve_var 0) vk_nil)) va_nil)))) va_nil))))) (vg_tupK (K := K) rfl rfl (vgs_cons (vg_name (i := 2) nd rfl (by first | exact Or.inl rfl | exact Or.inr rfl)) (vgs_cons (vg_name (i := 3) nd rfl (by first | exact Or.inl rfl | exact Or.inr rfl)) (vgs_cons (vg_name (i := 4) nd rfl (by first | exact Or.inl rfl | exact Or.inr rfl)) vgs_nil)))) (vss_one (vs_if (vt_not (vt_tru (ve_callB (FnB.mono H__law_one_right (by decide)) m__law_one_right_len hr gd (by rfl) (vb_bor 3 (vb_bor 4 (vb_bor 2 (vb_cons (VN.ve (vn_lst (va_cons (ve_xat T.a_name (ve_var 3)) (va_cons (ve_xat T.a_name (ve_var 4)) va_nil)))) (vb_bor 0 vb_nil)))))))) (vss_one (vs_ret ve_bl)) vss_nil)))
    (vss_cons (vs_own (i := 1) nd rfl (by first | exact Or.inl rfl | exact Or.inr rfl) (vn_lst (va_cons (ve_tup (va_cons ve_str (va_cons (ve_exv V_ByNothing_1 (hr.mono (by decide)) (by rfl) (va_cons (ve_var 0) va_nil)) (va_cons (ve_exvK V_ByNothing_0_row (hr.mono (by decide)) (by rfl) (vk_cons (ve_var 0) vk_nil)) va_nil)))) (va_cons (ve_tup (va_cons ve_str (va_cons (ve_exv V_HoldsNothing_1 (hr.mono (by decide)) (by rfl) (va_cons (ve_var 0) va_nil)) (va_cons (ve_exvK V_HoldsNothing_0_row (hr.mono (by decide)) (by rfl) (vk_cons (ve_var 0) vk_nil)) va_nil)))) va_nil))))
    (vss_cons (vs_for (by first | exact PassesOwn.never | exact PassesOwn.leaving) rfl (vi_seq (ve_var 1)) (vg_tupK (K := K) rfl rfl (vgs_cons (vg_name (i := 2) nd rfl (by first | exact Or.inl rfl | exact Or.inr rfl)) (vgs_cons (vg_name (i := 3) nd rfl (by first | exact Or.inl rfl | exact Or.inr rfl)) (vgs_cons (vg_name (i := 4) nd rfl (by first | exact Or.inl rfl | exact Or.inr rfl)) vgs_nil)))) (vss_one (vs_if (vt_not (vt_tru (ve_callB (FnB.mono H__law_one_right (by decide)) m__law_one_right_len hr gd (by rfl) (vb_bor 3 (vb_bor 4 (vb_bor 2 (vb_cons (VN.ve (vn_lst (va_cons (ve_xat T.a_row (ve_var 3)) (va_cons (ve_xat T.a_row (ve_var 4)) va_nil)))) (vb_bor 0 vb_nil)))))))) (vss_one (vs_ret ve_bl)) vss_nil)))
    (vss_cons (vs_par (i := 3) (j := 4) rfl nd rfl rfl (by decide) rfl rfl (va_cons (ve_exv V_BadAnswers_1 (hr.mono (by decide)) (by rfl) (va_cons (ve_var 0) va_nil)) (va_cons (ve_exvK V_BadAnswers_0_at (hr.mono (by decide)) (by rfl) (vk_cons (ve_var 0) vk_nil)) va_nil)) (by rfl))
    (vss_cons (vs_if (vt_not (vt_tru (ve_callB (FnB.mono H__law_one_right (by decide)) m__law_one_right_len hr gd (by rfl) (vb_bor 3 (vb_bor 4 (vb_cons ve_str (vb_cons (VN.ve (vn_lst (va_cons (ve_xat T.a_at (ve_var 3)) (va_cons (ve_xat T.a_at (ve_var 4)) va_nil)))) (vb_bor 0 vb_nil)))))))) (vss_one (vs_ret ve_bl)) vss_nil)
    (vss_cons (vs_par (i := 3) (j := 4) rfl nd rfl rfl (by decide) rfl rfl (va_cons (ve_exv V_BadCommand_1 (hr.mono (by decide)) (by rfl) (va_cons (ve_var 0) va_nil)) (va_cons (ve_exvK V_BadCommand_0_word (hr.mono (by decide)) (by rfl) (vk_cons (ve_var 0) vk_nil)) va_nil)) (by rfl))
    (vss_one (vs_ret (ve_callB (FnB.mono H__law_one_right (by decide)) m__law_one_right_len hr gd (by rfl) (vb_bor 3 (vb_bor 4 (vb_cons ve_str (vb_cons (VN.ve (vn_lst (va_cons (ve_xat T.a_word (ve_var 3)) (va_cons (ve_xat T.a_word (ve_var 4)) va_nil)))) (vb_bor 0 vb_nil))))))))))))))))))))⟩
/-! law -/
abbrev S_law : Stmt := top 31
theorem sc_law : FnScope ["script", "pen", "turn", "one", "two", "error", "other"] ["script"] (defScope S_law) := ⟨rfl, rfl, rfl, by decide +kernel, rfl, by decide +kernel, by decide +kernel⟩
noncomputable def g_law : SF :=
    sSeq (sOwn 1 (nCall m__law_pen [0] (aBor 0 aNil)))
    (sSeq (sFor (iRange1 (aCons (eK (.int 4)) aNil)) (gSetD 2) (sSeq (sPar 3 4 (aCons (eCallM 1 m__law_odd aNil) (aCons (eCallM 1 m__law_odd aNil) aNil)))
    (sSeq (sIf (tOr' (tNot' (tTru (eCall m__law_values_right [3] (aBor 3 aNil)))) (tNot' (tTru (eCall m__law_values_right [4] (aBor 4 aNil))))) (sRet (eK (.bl false))) sNil)
    (sSeq (sPar 5 6 (aCons (eMkE "BadText" [("line", 1), ("word", 2)] 2 0 gD_BadText_2 (aCons (eVar 3) (aCons (eVar 4) aNil)) aNil) (aCons (eMkE "BadText" [("line", 1), ("word", 2)] 0 2 gD_BadText_0_word_line aNil (aCons (eVar 4) (aCons (eVar 3) aNil))) aNil)))
    (sSeq (sIf (tNot' (tTru (eCall m__law_one_right [5, 6] (aBor 5 (aBor 6 (aCons (eK (.str "text")) (aCons (eN (nLst (aCons (eN (nLst (aCons (eXat (atN "line") "line" (eVar 5)) (aCons (eXat (atN "word") "word" (eVar 5)) aNil)))) (aCons (eN (nLst (aCons (eXat (atN "line") "line" (eVar 6)) (aCons (eXat (atN "word") "word" (eVar 6)) aNil)))) aNil)))) (aCons (eN (nLst (aCons (eVar 3) (aCons (eVar 4) aNil)))) aNil)))))))) (sRet (eK (.bl false))) sNil)
    (sSeq (sPar 5 6 (aCons (eMkE "TooMany" [("what", 1), ("most", 2)] 2 0 gD_TooMany_2 (aCons (eVar 3) (aCons (eVar 4) aNil)) aNil) (aCons (eMkE "TooMany" [("what", 1), ("most", 2)] 0 2 gD_TooMany_0_most_what aNil (aCons (eVar 4) (aCons (eVar 3) aNil))) aNil)))
    (sIf (tNot' (tTru (eCall m__law_one_right [5, 6] (aBor 5 (aBor 6 (aCons (eK (.str "many")) (aCons (eN (nLst (aCons (eN (nLst (aCons (eXat (atN "what") "what" (eVar 5)) (aCons (eXat (atN "most") "most" (eVar 5)) aNil)))) (aCons (eN (nLst (aCons (eXat (atN "what") "what" (eVar 6)) (aCons (eXat (atN "most") "most" (eVar 6)) aNil)))) aNil)))) (aCons (eN (nLst (aCons (eVar 3) (aCons (eVar 4) aNil)))) aNil)))))))) (sRet (eK (.bl false))) sNil)))))))
    (sRet (e2 oEq (eCall m__law_classes [] (aCons (eMkE "Nothing" [] 0 0 gD_Nothing_0 aNil aNil) aNil)) (eN (nLst (aCons (eK (.str "none")) (aCons (eK (.str "base")) (aCons (eK (.str "value")) aNil))))))))
noncomputable def m_law : List D → Option D := fnV 7 1 g_law
theorem m_law_len : ∀ ds d, m_law ds = some d → ds.length = 1 := fnV_len
theorem ok_law (T : Fx K mg) {f : Addr} {fd : FuncData} (F : FunV K "law" "law" S_law f fd)
    (H__law_pen : FnB P w K mg base 1 "_law_pen" ["script"] (spN K mg 1 m__law_pen))
    (H__law_odd : FnB P w K mg base 3 "_law_odd" ["pen"] (spM K mg 0 m__law_odd))
    (H__law_values_right : FnB P w K mg base 3 "_law_values_right" ["one"] (spV K mg 1 m__law_values_right))
    (V_BadText_0_word_line : XvB P w K mg base 1 "BadText" [("line", 1), ("word", 2)] 0 ["word", "line"] gD_BadText_0_word_line)
    (V_BadText_2 : XvB P w K mg base 1 "BadText" [("line", 1), ("word", 2)] 2 [] gD_BadText_2)
    (H__law_one_right : FnB P w K mg base 2 "_law_one_right" ["error", "other", "word", "kept", "due"] (spV K mg 5 m__law_one_right))
    (V_TooMany_0_most_what : XvB P w K mg base 1 "TooMany" [("what", 1), ("most", 2)] 0 ["most", "what"] gD_TooMany_0_most_what)
    (V_TooMany_2 : XvB P w K mg base 1 "TooMany" [("what", 1), ("most", 2)] 2 [] gD_TooMany_2)
    (H__law_classes : FnB P w K mg base 1 "_law_classes" ["error"] (spV K mg 1 m__law_classes))
    (V_Nothing_0 : XvB P w K mg base 1 "Nothing" [] 0 [] gD_Nothing_0) : FnG P w K mg base (L2.CX P w) 4 f fd ["script"] (spV K mg 1 m_law) := by
  refine fn_plain F sc_law rfl fun cdv A outer s H E B hcd hr gd => ?_
  have nd := sc_law.nd
  exact ⟨_, vss_cons (vs_own (i := 1) nd rfl (by first | exact Or.inl rfl | exact Or.inr rfl) (vn_call (FnB.mono H__law_pen (by decide)) m__law_pen_len hr gd (by rfl) (vb_bor 0 vb_nil)))
    (vss_cons (vs_for (by first | exact PassesOwn.never | exact PassesOwn.leaving) rfl (vi_range1 (by rfl) T.b_range (va_cons ve_int va_nil)) (vg_name (i := 2) nd rfl (by first | exact Or.inl rfl | exact Or.inr rfl)) (vss_cons (vs_par (i := 3) (j := 4) rfl nd rfl rfl (by decide) rfl rfl (va_cons (ve_callMB 1 (FnB.mono H__law_odd (by decide)) m__law_odd_len hr gd (by rfl) va_nil) (va_cons (ve_callMB 1 (FnB.mono H__law_odd (by decide)) m__law_odd_len hr gd (by rfl) va_nil) va_nil)) (by rfl))
    (vss_cons (vs_if (VW.vt (vw_or (vt_not (vt_tru (ve_callB (FnB.mono H__law_values_right (by decide)) m__law_values_right_len hr gd (by rfl) (vb_bor 3 vb_nil)))) (vw_or1 (vt_not (vt_tru (ve_callB (FnB.mono H__law_values_right (by decide)) m__law_values_right_len hr gd (by rfl) (vb_bor 4 vb_nil))))))) (vss_one (vs_ret ve_bl)) vss_nil)
    (vss_cons (vs_par (i := 5) (j := 6) rfl nd rfl rfl (by decide) rfl rfl (va_cons (ve_exv V_BadText_2 (hr.mono (by decide)) (by rfl) (va_cons (ve_var 3) (va_cons (ve_var 4) va_nil))) (va_cons (ve_exvK V_BadText_0_word_line (hr.mono (by decide)) (by rfl) (vk_cons (ve_var 4) (vk_cons (ve_var 3) vk_nil))) va_nil)) (by rfl))
    (vss_cons (vs_if (vt_not (vt_tru (ve_callB (FnB.mono H__law_one_right (by decide)) m__law_one_right_len hr gd (by rfl) (vb_bor 5 (vb_bor 6 (vb_cons ve_str (vb_cons (VN.ve (vn_lst (va_cons (VN.ve (vn_lst (va_cons (ve_xat T.a_line (ve_var 5)) (va_cons (ve_xat T.a_word (ve_var 5)) va_nil)))) (va_cons (VN.ve (vn_lst (va_cons (ve_xat T.a_line (ve_var 6)) (va_cons (ve_xat T.a_word (ve_var 6)) va_nil)))) va_nil)))) (vb_cons (VN.ve (vn_lst (va_cons (ve_var 3) (va_cons (ve_var 4) va_nil)))) vb_nil)))))))) (vss_one (vs_ret ve_bl)) vss_nil)
    (vss_cons (vs_par (i := 5) (j := 6) rfl nd rfl rfl (by decide) rfl rfl (va_cons (ve_exv V_TooMany_2 (hr.mono (by decide)) (by rfl) (va_cons (ve_var 3) (va_cons (ve_var 4) va_nil))) (va_cons (ve_exvK V_TooMany_0_most_what (hr.mono (by decide)) (by rfl) (vk_cons (ve_var 4) (vk_cons (ve_var 3) vk_nil))) va_nil)) (by rfl))
    (vss_one (vs_if (vt_not (vt_tru (ve_callB (FnB.mono H__law_one_right (by decide)) m__law_one_right_len hr gd (by rfl) (vb_bor 5 (vb_bor 6 (vb_cons ve_str (vb_cons (VN.ve (vn_lst (va_cons (VN.ve (vn_lst (va_cons (ve_xat T.a_what (ve_var 5)) (va_cons (ve_xat T.a_most (ve_var 5)) va_nil)))) (va_cons (VN.ve (vn_lst (va_cons (ve_xat T.a_what (ve_var 6)) (va_cons (ve_xat T.a_most (ve_var 6)) va_nil)))) va_nil)))) (vb_cons (VN.ve (vn_lst (va_cons (ve_var 3) (va_cons (ve_var 4) va_nil)))) vb_nil)))))))) (vss_one (vs_ret ve_bl)) vss_nil))))))))
    (vss_one (vs_ret (ve_cm (cm_eqK (K := K) rfl hr.units) (ve_callB (FnB.mono H__law_classes (by decide)) m__law_classes_len hr gd (by rfl) (vb_cons (ve_exv0 V_Nothing_0 (hr.mono (by decide)) (by rfl)) vb_nil)) (VN.ve (vn_lst (va_cons ve_str (va_cons ve_str (va_cons ve_str va_nil)))))))))⟩
end
end Wk
end

section
set_option Elab.async false
set_option linter.all false
set_option maxRecDepth 100000
set_option maxHeartbeats 4000000
open VL in
local macro_rules
  | `(tactic| subst_eqs) => `(tactic| simp only [W_ret, W_K, W_var, W_e2, W_e1, W_eB2, W_aBor, W_eT, W_tTru, W_tAnd, W_tOr, W_tNot, W_eIf, W_eNot, W_eAnd, W_eOr, W_aNil, W_aCons, W_aStar, W_eTup, W_nLst, W_eN, W_eCB, W_eCall, W_nCall, W_eCallX, W_eCallC, W_eCallCX, W_eCallM, W_eHeard, W_eXat, W_iItems, W_eCh, W_iNum, W_iPar, W_iRange3, W_eStep, W_iRange1, W_iRange2, W_oPart, W_eCut, W_nCut, W_nAdd, W_nMul, W_nList, W_nComp, Cp_nil, Cp_cons, W_eIsiT, W_eApp, W_ePop, W_ePopAt,
    thR_nx, thR_rt, thR_ex, thR_bk, thR_ct, Rn_nil, Rn_bk, Rn_ct, Rn_never, Rn_retN, Rn_seq, Rn_set, Rn_own, Rn_frz, frzE_ow, frzE_fr, frzE_succ, Rn_parO2, Rn_parO3, Rn_putA, itI_at, Rn_aug, frI_at, Rn_ret, Rn_expr, Rn_if, Rn_asg, two_at, three_at, Rn_par, Rn_par3, Rn_put, Rn_raise, tryR_nx, tryR_rt, tryR_ex, Rn_try, loopR_nx, loopR_ct, loopR_bk, loopR_rt, loopR_ex, Rn_for, Rn_forNil, Rn_forCons, againR_nx, againR_ct, againR_bk, againR_rt, againR_ex, endV_rt, endV_nx, endM_rt, endM_nx, endX_rt, endX_nx, endX_ex, lentOf_at, Gt_fnV, Gt_fnM, GX_fnX, Gt_fnN,
    rdS_fr, rdS_ow, rdS_succ, isFr_fr, isFr_ow, isFr_succ, plainAt_fr, plainAt_none, plainAt_succ, lendE_nil, lendE_fr, lendE_none, lendE_ow, frE_nil, frE_fr, frE_none, frE_ow, unlE_nil, unlE_cons, unl_fr, unl_ow, unl_none, hideE_nil, hideE_cons, shownE_nil, shownE_cons, gSetD_at, gNilD_at, Gt_gCons, gTupD_at,
    Gt_some, Gt_map, Gt_bind, GX_ok, GX_error, varW_fr, varW_ow, owW_ow, oAdd_int, oSub_int, oNeg_int, Gt_mul, Gt_div, Gt_mod, Gt_pow, Gt_shl, oCmp_int, asB_bl, asI_int, tru_bl, tru_int, tru_non, bAbs_nat, bInt_int, bInt_bl, bGcd_int, bBits_int, bLen_lst, bLen_frl, bLen_tup, oIsN_non, oIsN_int, oIsN_tup, oIsN_lst, oIsN_bl, oIsN_str, oNotN_non, oNotN_int, oNotN_tup, oNotN_lst, oNotN_bl, oNotN_str, oIx_lst, oIx_frl, oIx_tup, itemsD_lst, itemsD_frl, itemsD_tup, asItems_lst, asItems_frl, asItems_tup, bTuple_lst, bTuple_frl, bTuple_tup, numD_at, parD_at, Gt_rng3, rowD_lst, rowD_frl, rowD_tup, Gt_stepT, Gt_stepL, Gt_stepF, Gt_rng1, Gt_rng2, oCutA_lst, oCutA_frl, oCutA_tup, lstD_lst, lstD_frl,
    atI_0, atI_1, atI_2, atI_3, ixN_3_0, ixN_3_1, ixN_3_2, oEq_int, oNe_int, oEq_lay, oNe_lay, lay, layL, deepD, deepL, deq, deqL, strOk_ofString, beq_iff_eq, beq_self_eq_true, beq_eq_false_iff_ne, Bool.true_eq_false, Bool.not_eq_false,  Nat.max_self, Nat.zero_le, Nat.max_zero, Nat.zero_max, Bool.and_eq_true,  envV_at, envM_at, dLt, dLe, dGt, dGe,
    List.map_cons, List.map_nil, List.cons_append, List.nil_append, List.replicate_succ, List.replicate_zero, Nat.reduceSub, Nat.reduceAdd, Nat.zero_add, List.length_cons, List.length_nil, List.getElem?_cons_zero, List.getElem?_cons_succ, List.set_cons_zero, List.getD_cons_zero, List.getD_cons_succ,  List.set_cons_succ, List.all_cons, List.all_nil, Bool.and_true, Bool.true_and, Bool.true_or, Bool.or_true, Bool.false_or, Bool.and_false, Bool.false_and, Bool.or_false, Bool.not_true, Bool.not_false, noL, noLs, le_sizeLine, lt_sizeLine, Nat.reduceLeDiff, true_and, and_true, decide_eq_true_eq, if_true, if_false, reduceIte, Bool.false_eq_true, Int.reduceAdd, Int.reduceSub, Int.reduceMul, Int.reducePow, Int.reduceNeg, Int.reduceToNat, Int.reduceLT, Int.reduceLE, Nat.reducePow, Int.reduceEq, Int.reduceAbs, Int.cast_ofNat_Int, log2_small, Nat.reduceLT,  decide_true, decide_false, Bool.not_eq_true', decide_eq_false_iff_not, Bool.not_eq_true, eq_self, ne_eq, not_true_eq_false, not_false_eq_true])

namespace Wk
open PySem L2 VL
structure Pen where
  cs : List Int
  t : Int
  r : Int
def penD (p : Pen) : List D := [.lst (p.cs.map D.int), .int p.t, .int p.r]
structure PenOk (T : Int) (p : Pen) : Prop where
  t0 : 0 ≤ p.t
  tT : p.t ≤ T
  r0 : 0 ≤ p.r
  bits : ∀ c ∈ p.cs, Builtin.Int.intBits c ≤ 1048576
  len : p.cs.length ≤ 63
theorem mix (cell t many : Int) (h0 : 0 < many) (t0 : 0 ≤ t) (t1 : t ≤ 1000000) : mulOk 60013 t = true ∧ (cell % 2147483549 + 60013 * t + 2003).natAbs < 18446744073709551616 ∧ mulOk 2 t = true ∧
    mulOk ((cell % 2147483549 + 60013 * t + 2003) ^ 5 % 2147483587) (2 * t + 307) = true ∧ mulOk 50021 t = true ∧ mulOk (50021 * t) t = true ∧
    ((cell % 2147483549 + 60013 * t + 2003) ^ 5 % 2147483587 * (2 * t + 307) + 50021 * t * t + 2003).natAbs < 18446744073709551616 := by
  have a1 := Int.emod_nonneg cell (show (2147483549 : Int) ≠ 0 by decide)
  have a2 := Int.emod_lt_of_pos cell (show (0 : Int) < 2147483549 by decide)
  have b1 := Int.emod_nonneg ((cell % 2147483549 + 60013 * t + 2003) ^ 5) (show (2147483587 : Int) ≠ 0 by decide)
  have b2 := Int.emod_lt_of_pos ((cell % 2147483549 + 60013 * t + 2003) ^ 5) (show (0 : Int) < 2147483587 by decide)
  exact ⟨mulOk_of 64 64 (by decide) (by omega) (by decide), by omega, mulOk_of 64 64 (by decide) (by omega) (by decide), mulOk_of 64 64 (by omega) (by omega) (by decide), mulOk_of 64 64 (by decide) (by omega) (by decide), mulOk_of 64 64 (by omega) (by omega) (by decide), mix_small b1 (by omega) t0 t1 (by decide) (by decide) (by decide) (by decide) (by decide) (by decide)⟩
theorem draw {T many : Int} {p : Pen} {P : D × List D → Prop} (ok : PenOk T p) (hT : T ≤ 1000000) (h0 : 0 < many) (h1 : many.natAbs.log2 < 9000)
    (k : ∀ v p', PenOk (T + 1) p' → 0 ≤ v → v < many → P (.int v, penD p')) : Gt (m__law_draw (penD p) [.int many]) P := by
  obtain ⟨cs, t, r⟩ := p
  obtain ⟨t0, tT, r0, bits', len⟩ := ok
  dsimp only at *
  unfold m__law_draw g__law_draw penD
  subst_eqs
  try simp only [oNe_nil]
  try subst_eqs
  have e0 := Int.emod_nonneg
  have fin : ∀ v, P (.int (v % many), [D.lst (cs.map D.int), .int (t + 1), .int r]) := fun v => k _ ⟨cs, t + 1, r⟩ ⟨by dsimp only; omega, by dsimp only; omega, r0, bits', len⟩ (Int.emod_nonneg _ (Int.ne_of_gt h0)) (Int.emod_lt_of_pos _ h0)
  split
  · exact ⟨h0, ⟨h0, h1⟩, k _ ⟨cs, t, r / many⟩ ⟨t0, by dsimp only; omega, Int.ediv_nonneg r0 (by omega), bits', len⟩ (Int.emod_nonneg _ (Int.ne_of_gt h0)) (Int.emod_lt_of_pos _ h0)⟩
  refine ⟨mulOk_of 32 64 (by decide) (by omega) (by decide), ?_⟩
  split
  · rename_i hne
    have hlen : 0 < cs.length := by
      cases cs with
      | nil => simp at hne
      | cons _ _ => simp
    rw [List.length_map]
    refine ⟨by omega, ?_⟩
    have hj := Int.emod_nonneg t (show (cs.length : Int) ≠ 0 by omega)
    have hj2 := Int.emod_lt_of_pos t (show (0 : Int) < cs.length by omega)
    obtain ⟨c, hc⟩ : ∃ c, cs[(t % (cs.length : Int)).toNat]? = some c := ⟨_, List.getElem?_eq_getElem (by omega)⟩
    have hm := bits' _ (List.mem_of_getElem? hc)
    refine Gt.of (atI_of (d := .int c) hj (by rw [List.getElem?_map, hc]; rfl)) ?_
    subst_eqs
    rw [List.length_map]
    have hc0 : bits (c.natAbs : Int) ≤ 1048576 := bits_natAbs hm
    obtain ⟨x1, x2, x3, x4, x5, x6, x7⟩ := mix c t many h0 t0 (by omega)
    generalize (c.natAbs : Int) = ac at hc0 ⊢
    split
    · split
      · have g0 : 0 ≤ 2 * (ac - 1000000000000000000) + (if c < 0 then 1 else 0) := by split <;> omega
        exact ⟨mulOk_bits (bits_lit (a := 2) (by decide)) (bits_sub hc0 (bits_lit (a := 60) (by decide))) (by decide), ⟨h0, h1⟩, h0, k _ ⟨cs, t + 1, _ / many⟩ ⟨by dsimp only; omega, by dsimp only; omega, Int.ediv_nonneg g0 (by omega), bits', len⟩ (Int.emod_nonneg _ (Int.ne_of_gt h0)) (Int.emod_lt_of_pos _ h0)⟩
      · exact ⟨x1, x2, x3, x4, x5, x6, x7, h0, fin _⟩
    · exact ⟨x1, x2, x3, x4, x5, x6, x7, h0, fin _⟩
  · rename_i hne
    have e : cs = [] := by
      cases cs with
      | nil => rfl
      | cons _ _ => simp at hne
    subst e
    subst_eqs
    obtain ⟨x1, x2, x3, x4, x5, x6, x7⟩ := mix (60013 * t + 2003) t many h0 t0 (by omega)
    split
    · rename_i z
      omega
    · exact ⟨x1, x2, x3, x4, x5, x6, x7, h0, fin _⟩
theorem pick {T : Int} {p : Pen} {xs : List D} {P : D × List D → Prop} (ok : PenOk T p) (hT : T ≤ 1000000) (h0 : 0 < xs.length) (h1 : xs.length < 1000000)
    (k : ∀ v ∈ xs, ∀ p', PenOk (T + 1) p' → P (v, penD p')) : Gt (m__law_pick (penD p) [.lst xs]) P := by
  unfold m__law_pick g__law_pick
  subst_eqs
  refine draw ok hT (by omega) ?_ fun v p' ok' a b => ?_
  · refine Nat.lt_of_le_of_lt (log2_of_bits (a := 64) (bits_small (by omega) (by omega))) (by decide)
  · dsimp only
    subst_eqs
    obtain ⟨d, hd⟩ : ∃ d, xs[v.toNat]? = some d := ⟨_, List.getElem?_eq_getElem (by omega)⟩
    refine Gt.of (atI_of a hd) ?_
    subst_eqs
    exact k d (List.mem_of_getElem? hd) p' ok'
def odds : List D := [.non, .bl true, .int 7, .int (-1000000000000000000000000000000), .str "near", .str "", .tup [.str "a", .int 1], .lst [.str "a"], .dic [(.inr "a", .int 1)], .tup [], .int 0, .bl false]
theorem values {d : D} (h : d ∈ odds) : m__law_values_right [d] = some (.bl true) := by
  unfold odds at h
  simp only [List.mem_cons, List.not_mem_nil, or_false] at h
  rcases h with rfl | rfl | rfl | rfl | rfl | rfl | rfl | rfl | rfl | rfl | rfl | rfl
  all_goals kernel_rfl
theorem lawPen {ns : List Int} (hl : ns.length ≤ 63) (hb : ∀ z ∈ ns, Builtin.Int.intBits z ≤ 1048576) : ∃ p, PenOk 0 p ∧ m__law_pen [.frl (ns.map D.int)] = some (penD p) := by
  refine ⟨⟨ns, 0, 0⟩, ⟨Int.le_refl _, Int.le_refl _, Int.le_refl _, hb, hl⟩, ?_⟩
  refine gv_eq ?_
  unfold m__law_pen g__law_pen
  subst_eqs
  rw [show cutD (ns.map D.int) none (some 63) = ns.map D.int from cutD_le (k := 63) (by rw [List.length_map]; exact hl)]
  try subst_eqs
  rfl
theorem PenOk.mono {T T' : Int} {p : Pen} (ok : PenOk T p) (h : T ≤ T') : PenOk T' p := ⟨ok.t0, Int.le_trans ok.tT h, ok.r0, ok.bits, ok.len⟩
theorem odd_ {T : Int} {p : Pen} {P : D × List D → Prop} (ok : PenOk T p) (hT : T ≤ 900000) (k : ∀ v ∈ odds, ∀ p', PenOk (T + 1) p' → P (v, penD p')) : Gt (m__law_odd (penD p) []) P := by
  unfold m__law_odd g__law_odd
  subst_eqs
  refine pick ok (by omega) (by decide) (by decide) fun odd ho p1 ok1 => ?_
  have ho : odd ∈ odds := ho
  dsimp only
  subst_eqs
  exact k odd ho p1 ok1
end Wk
end

section
set_option Elab.async false
set_option linter.all false
set_option maxRecDepth 100000
set_option maxHeartbeats 4000000
namespace Wk
open PySem L2 VL
theorem text_0 {b : D} (hb : b ∈ odds) : m__law_one_right [.exn "BadText" [("word", b), ("line", .non)], .exn "BadText" [("word", b), ("line", .non)], .str "text", .lst [.lst [.non, b], .lst [.non, b]], .lst [.non, b]] = some (.bl true) := by
  unfold odds at hb
  simp only [List.mem_cons, List.not_mem_nil, or_false] at hb
  rcases hb with rfl | rfl | rfl | rfl | rfl | rfl | rfl | rfl | rfl | rfl | rfl | rfl <;> kernel_rfl
theorem text_1 {b : D} (hb : b ∈ odds) : m__law_one_right [.exn "BadText" [("word", b), ("line", .bl true)], .exn "BadText" [("word", b), ("line", .bl true)], .str "text", .lst [.lst [.bl true, b], .lst [.bl true, b]], .lst [.bl true, b]] = some (.bl true) := by
  unfold odds at hb
  simp only [List.mem_cons, List.not_mem_nil, or_false] at hb
  rcases hb with rfl | rfl | rfl | rfl | rfl | rfl | rfl | rfl | rfl | rfl | rfl | rfl <;> kernel_rfl
theorem text_2 {b : D} (hb : b ∈ odds) : m__law_one_right [.exn "BadText" [("word", b), ("line", .int 7)], .exn "BadText" [("word", b), ("line", .int 7)], .str "text", .lst [.lst [.int 7, b], .lst [.int 7, b]], .lst [.int 7, b]] = some (.bl true) := by
  unfold odds at hb
  simp only [List.mem_cons, List.not_mem_nil, or_false] at hb
  rcases hb with rfl | rfl | rfl | rfl | rfl | rfl | rfl | rfl | rfl | rfl | rfl | rfl <;> kernel_rfl
theorem text_3 {b : D} (hb : b ∈ odds) : m__law_one_right [.exn "BadText" [("word", b), ("line", .int (-1000000000000000000000000000000))], .exn "BadText" [("word", b), ("line", .int (-1000000000000000000000000000000))], .str "text", .lst [.lst [.int (-1000000000000000000000000000000), b], .lst [.int (-1000000000000000000000000000000), b]], .lst [.int (-1000000000000000000000000000000), b]] = some (.bl true) := by
  unfold odds at hb
  simp only [List.mem_cons, List.not_mem_nil, or_false] at hb
  rcases hb with rfl | rfl | rfl | rfl | rfl | rfl | rfl | rfl | rfl | rfl | rfl | rfl <;> kernel_rfl
theorem text_4 {b : D} (hb : b ∈ odds) : m__law_one_right [.exn "BadText" [("word", b), ("line", .str "near")], .exn "BadText" [("word", b), ("line", .str "near")], .str "text", .lst [.lst [.str "near", b], .lst [.str "near", b]], .lst [.str "near", b]] = some (.bl true) := by
  unfold odds at hb
  simp only [List.mem_cons, List.not_mem_nil, or_false] at hb
  rcases hb with rfl | rfl | rfl | rfl | rfl | rfl | rfl | rfl | rfl | rfl | rfl | rfl <;> kernel_rfl
theorem text_5 {b : D} (hb : b ∈ odds) : m__law_one_right [.exn "BadText" [("word", b), ("line", .str "")], .exn "BadText" [("word", b), ("line", .str "")], .str "text", .lst [.lst [.str "", b], .lst [.str "", b]], .lst [.str "", b]] = some (.bl true) := by
  unfold odds at hb
  simp only [List.mem_cons, List.not_mem_nil, or_false] at hb
  rcases hb with rfl | rfl | rfl | rfl | rfl | rfl | rfl | rfl | rfl | rfl | rfl | rfl <;> kernel_rfl
theorem text_6 {b : D} (hb : b ∈ odds) : m__law_one_right [.exn "BadText" [("word", b), ("line", .tup [.str "a", .int 1])], .exn "BadText" [("word", b), ("line", .tup [.str "a", .int 1])], .str "text", .lst [.lst [.tup [.str "a", .int 1], b], .lst [.tup [.str "a", .int 1], b]], .lst [.tup [.str "a", .int 1], b]] = some (.bl true) := by
  unfold odds at hb
  simp only [List.mem_cons, List.not_mem_nil, or_false] at hb
  rcases hb with rfl | rfl | rfl | rfl | rfl | rfl | rfl | rfl | rfl | rfl | rfl | rfl <;> kernel_rfl
theorem text_7 {b : D} (hb : b ∈ odds) : m__law_one_right [.exn "BadText" [("word", b), ("line", .lst [.str "a"])], .exn "BadText" [("word", b), ("line", .lst [.str "a"])], .str "text", .lst [.lst [.lst [.str "a"], b], .lst [.lst [.str "a"], b]], .lst [.lst [.str "a"], b]] = some (.bl true) := by
  unfold odds at hb
  simp only [List.mem_cons, List.not_mem_nil, or_false] at hb
  rcases hb with rfl | rfl | rfl | rfl | rfl | rfl | rfl | rfl | rfl | rfl | rfl | rfl <;> kernel_rfl
theorem text_8 {b : D} (hb : b ∈ odds) : m__law_one_right [.exn "BadText" [("word", b), ("line", .dic [(.inr "a", .int 1)])], .exn "BadText" [("word", b), ("line", .dic [(.inr "a", .int 1)])], .str "text", .lst [.lst [.dic [(.inr "a", .int 1)], b], .lst [.dic [(.inr "a", .int 1)], b]], .lst [.dic [(.inr "a", .int 1)], b]] = some (.bl true) := by
  unfold odds at hb
  simp only [List.mem_cons, List.not_mem_nil, or_false] at hb
  rcases hb with rfl | rfl | rfl | rfl | rfl | rfl | rfl | rfl | rfl | rfl | rfl | rfl <;> kernel_rfl
theorem text_9 {b : D} (hb : b ∈ odds) : m__law_one_right [.exn "BadText" [("word", b), ("line", .tup [])], .exn "BadText" [("word", b), ("line", .tup [])], .str "text", .lst [.lst [.tup [], b], .lst [.tup [], b]], .lst [.tup [], b]] = some (.bl true) := by
  unfold odds at hb
  simp only [List.mem_cons, List.not_mem_nil, or_false] at hb
  rcases hb with rfl | rfl | rfl | rfl | rfl | rfl | rfl | rfl | rfl | rfl | rfl | rfl <;> kernel_rfl
theorem text_10 {b : D} (hb : b ∈ odds) : m__law_one_right [.exn "BadText" [("word", b), ("line", .int 0)], .exn "BadText" [("word", b), ("line", .int 0)], .str "text", .lst [.lst [.int 0, b], .lst [.int 0, b]], .lst [.int 0, b]] = some (.bl true) := by
  unfold odds at hb
  simp only [List.mem_cons, List.not_mem_nil, or_false] at hb
  rcases hb with rfl | rfl | rfl | rfl | rfl | rfl | rfl | rfl | rfl | rfl | rfl | rfl <;> kernel_rfl
theorem text_11 {b : D} (hb : b ∈ odds) : m__law_one_right [.exn "BadText" [("word", b), ("line", .bl false)], .exn "BadText" [("word", b), ("line", .bl false)], .str "text", .lst [.lst [.bl false, b], .lst [.bl false, b]], .lst [.bl false, b]] = some (.bl true) := by
  unfold odds at hb
  simp only [List.mem_cons, List.not_mem_nil, or_false] at hb
  rcases hb with rfl | rfl | rfl | rfl | rfl | rfl | rfl | rfl | rfl | rfl | rfl | rfl <;> kernel_rfl
theorem text_ {a b : D} (ha : a ∈ odds) (hb : b ∈ odds) : m__law_one_right [.exn "BadText" [("word", b), ("line", a)], .exn "BadText" [("word", b), ("line", a)], .str "text", .lst [.lst [a, b], .lst [a, b]], .lst [a, b]] = some (.bl true) := by
  unfold odds at ha
  simp only [List.mem_cons, List.not_mem_nil, or_false] at ha
  rcases ha with rfl | rfl | rfl | rfl | rfl | rfl | rfl | rfl | rfl | rfl | rfl | rfl
  · exact text_0 hb
  · exact text_1 hb
  · exact text_2 hb
  · exact text_3 hb
  · exact text_4 hb
  · exact text_5 hb
  · exact text_6 hb
  · exact text_7 hb
  · exact text_8 hb
  · exact text_9 hb
  · exact text_10 hb
  · exact text_11 hb
theorem many_0 {b : D} (hb : b ∈ odds) : m__law_one_right [.exn "TooMany" [("most", b), ("what", .non)], .exn "TooMany" [("most", b), ("what", .non)], .str "many", .lst [.lst [.non, b], .lst [.non, b]], .lst [.non, b]] = some (.bl true) := by
  unfold odds at hb
  simp only [List.mem_cons, List.not_mem_nil, or_false] at hb
  rcases hb with rfl | rfl | rfl | rfl | rfl | rfl | rfl | rfl | rfl | rfl | rfl | rfl <;> kernel_rfl
theorem many_1 {b : D} (hb : b ∈ odds) : m__law_one_right [.exn "TooMany" [("most", b), ("what", .bl true)], .exn "TooMany" [("most", b), ("what", .bl true)], .str "many", .lst [.lst [.bl true, b], .lst [.bl true, b]], .lst [.bl true, b]] = some (.bl true) := by
  unfold odds at hb
  simp only [List.mem_cons, List.not_mem_nil, or_false] at hb
  rcases hb with rfl | rfl | rfl | rfl | rfl | rfl | rfl | rfl | rfl | rfl | rfl | rfl <;> kernel_rfl
theorem many_2 {b : D} (hb : b ∈ odds) : m__law_one_right [.exn "TooMany" [("most", b), ("what", .int 7)], .exn "TooMany" [("most", b), ("what", .int 7)], .str "many", .lst [.lst [.int 7, b], .lst [.int 7, b]], .lst [.int 7, b]] = some (.bl true) := by
  unfold odds at hb
  simp only [List.mem_cons, List.not_mem_nil, or_false] at hb
  rcases hb with rfl | rfl | rfl | rfl | rfl | rfl | rfl | rfl | rfl | rfl | rfl | rfl <;> kernel_rfl
theorem many_3 {b : D} (hb : b ∈ odds) : m__law_one_right [.exn "TooMany" [("most", b), ("what", .int (-1000000000000000000000000000000))], .exn "TooMany" [("most", b), ("what", .int (-1000000000000000000000000000000))], .str "many", .lst [.lst [.int (-1000000000000000000000000000000), b], .lst [.int (-1000000000000000000000000000000), b]], .lst [.int (-1000000000000000000000000000000), b]] = some (.bl true) := by
  unfold odds at hb
  simp only [List.mem_cons, List.not_mem_nil, or_false] at hb
  rcases hb with rfl | rfl | rfl | rfl | rfl | rfl | rfl | rfl | rfl | rfl | rfl | rfl <;> kernel_rfl
theorem many_4 {b : D} (hb : b ∈ odds) : m__law_one_right [.exn "TooMany" [("most", b), ("what", .str "near")], .exn "TooMany" [("most", b), ("what", .str "near")], .str "many", .lst [.lst [.str "near", b], .lst [.str "near", b]], .lst [.str "near", b]] = some (.bl true) := by
  unfold odds at hb
  simp only [List.mem_cons, List.not_mem_nil, or_false] at hb
  rcases hb with rfl | rfl | rfl | rfl | rfl | rfl | rfl | rfl | rfl | rfl | rfl | rfl <;> kernel_rfl
theorem many_5 {b : D} (hb : b ∈ odds) : m__law_one_right [.exn "TooMany" [("most", b), ("what", .str "")], .exn "TooMany" [("most", b), ("what", .str "")], .str "many", .lst [.lst [.str "", b], .lst [.str "", b]], .lst [.str "", b]] = some (.bl true) := by
  unfold odds at hb
  simp only [List.mem_cons, List.not_mem_nil, or_false] at hb
  rcases hb with rfl | rfl | rfl | rfl | rfl | rfl | rfl | rfl | rfl | rfl | rfl | rfl <;> kernel_rfl
theorem many_6 {b : D} (hb : b ∈ odds) : m__law_one_right [.exn "TooMany" [("most", b), ("what", .tup [.str "a", .int 1])], .exn "TooMany" [("most", b), ("what", .tup [.str "a", .int 1])], .str "many", .lst [.lst [.tup [.str "a", .int 1], b], .lst [.tup [.str "a", .int 1], b]], .lst [.tup [.str "a", .int 1], b]] = some (.bl true) := by
  unfold odds at hb
  simp only [List.mem_cons, List.not_mem_nil, or_false] at hb
  rcases hb with rfl | rfl | rfl | rfl | rfl | rfl | rfl | rfl | rfl | rfl | rfl | rfl <;> kernel_rfl
theorem many_7 {b : D} (hb : b ∈ odds) : m__law_one_right [.exn "TooMany" [("most", b), ("what", .lst [.str "a"])], .exn "TooMany" [("most", b), ("what", .lst [.str "a"])], .str "many", .lst [.lst [.lst [.str "a"], b], .lst [.lst [.str "a"], b]], .lst [.lst [.str "a"], b]] = some (.bl true) := by
  unfold odds at hb
  simp only [List.mem_cons, List.not_mem_nil, or_false] at hb
  rcases hb with rfl | rfl | rfl | rfl | rfl | rfl | rfl | rfl | rfl | rfl | rfl | rfl <;> kernel_rfl
theorem many_8 {b : D} (hb : b ∈ odds) : m__law_one_right [.exn "TooMany" [("most", b), ("what", .dic [(.inr "a", .int 1)])], .exn "TooMany" [("most", b), ("what", .dic [(.inr "a", .int 1)])], .str "many", .lst [.lst [.dic [(.inr "a", .int 1)], b], .lst [.dic [(.inr "a", .int 1)], b]], .lst [.dic [(.inr "a", .int 1)], b]] = some (.bl true) := by
  unfold odds at hb
  simp only [List.mem_cons, List.not_mem_nil, or_false] at hb
  rcases hb with rfl | rfl | rfl | rfl | rfl | rfl | rfl | rfl | rfl | rfl | rfl | rfl <;> kernel_rfl
theorem many_9 {b : D} (hb : b ∈ odds) : m__law_one_right [.exn "TooMany" [("most", b), ("what", .tup [])], .exn "TooMany" [("most", b), ("what", .tup [])], .str "many", .lst [.lst [.tup [], b], .lst [.tup [], b]], .lst [.tup [], b]] = some (.bl true) := by
  unfold odds at hb
  simp only [List.mem_cons, List.not_mem_nil, or_false] at hb
  rcases hb with rfl | rfl | rfl | rfl | rfl | rfl | rfl | rfl | rfl | rfl | rfl | rfl <;> kernel_rfl
theorem many_10 {b : D} (hb : b ∈ odds) : m__law_one_right [.exn "TooMany" [("most", b), ("what", .int 0)], .exn "TooMany" [("most", b), ("what", .int 0)], .str "many", .lst [.lst [.int 0, b], .lst [.int 0, b]], .lst [.int 0, b]] = some (.bl true) := by
  unfold odds at hb
  simp only [List.mem_cons, List.not_mem_nil, or_false] at hb
  rcases hb with rfl | rfl | rfl | rfl | rfl | rfl | rfl | rfl | rfl | rfl | rfl | rfl <;> kernel_rfl
theorem many_11 {b : D} (hb : b ∈ odds) : m__law_one_right [.exn "TooMany" [("most", b), ("what", .bl false)], .exn "TooMany" [("most", b), ("what", .bl false)], .str "many", .lst [.lst [.bl false, b], .lst [.bl false, b]], .lst [.bl false, b]] = some (.bl true) := by
  unfold odds at hb
  simp only [List.mem_cons, List.not_mem_nil, or_false] at hb
  rcases hb with rfl | rfl | rfl | rfl | rfl | rfl | rfl | rfl | rfl | rfl | rfl | rfl <;> kernel_rfl
theorem many_ {a b : D} (ha : a ∈ odds) (hb : b ∈ odds) : m__law_one_right [.exn "TooMany" [("most", b), ("what", a)], .exn "TooMany" [("most", b), ("what", a)], .str "many", .lst [.lst [a, b], .lst [a, b]], .lst [a, b]] = some (.bl true) := by
  unfold odds at ha
  simp only [List.mem_cons, List.not_mem_nil, or_false] at ha
  rcases ha with rfl | rfl | rfl | rfl | rfl | rfl | rfl | rfl | rfl | rfl | rfl | rfl
  · exact many_0 hb
  · exact many_1 hb
  · exact many_2 hb
  · exact many_3 hb
  · exact many_4 hb
  · exact many_5 hb
  · exact many_6 hb
  · exact many_7 hb
  · exact many_8 hb
  · exact many_9 hb
  · exact many_10 hb
  · exact many_11 hb
end Wk
end

section
set_option Elab.async false
set_option linter.all false
set_option maxRecDepth 100000
set_option maxHeartbeats 4000000
open VL in
local macro_rules
  | `(tactic| subst_eqs) => `(tactic| simp only [W_ret, W_K, W_var, W_e2, W_e1, W_eB2, W_aBor, W_eT, W_tTru, W_tAnd, W_tOr, W_tNot, W_eIf, W_eNot, W_eAnd, W_eOr, W_aNil, W_aCons, W_aStar, W_eTup, W_nLst, W_eN, W_eCB, W_eCall, W_nCall, W_eCallX, W_eCallC, W_eCallCX, W_eCallM, W_eHeard, W_eXat, W_iItems, W_eCh, W_iNum, W_iPar, W_iRange3, W_eStep, W_iRange1, W_iRange2, W_oPart, W_eCut, W_nCut, W_nAdd, W_nMul, W_nList, W_nComp, Cp_nil, Cp_cons, W_eIsiT, W_eApp, W_ePop, W_ePopAt,
    thR_nx, thR_rt, thR_ex, thR_bk, thR_ct, Rn_nil, Rn_bk, Rn_ct, Rn_never, Rn_retN, Rn_seq, Rn_set, Rn_own, Rn_frz, frzE_ow, frzE_fr, frzE_succ, Rn_parO2, Rn_parO3, Rn_putA, itI_at, Rn_aug, frI_at, Rn_ret, Rn_expr, Rn_if, Rn_asg, two_at, three_at, Rn_par, Rn_par3, Rn_put, Rn_raise, tryR_nx, tryR_rt, tryR_ex, Rn_try, loopR_nx, loopR_ct, loopR_bk, loopR_rt, loopR_ex, Rn_for, Rn_forNil, Rn_forCons, againR_nx, againR_ct, againR_bk, againR_rt, againR_ex, endV_rt, endV_nx, endM_rt, endM_nx, endX_rt, endX_nx, endX_ex, lentOf_at, Gt_fnV, Gt_fnM, GX_fnX, Gt_fnN,
    rdS_fr, rdS_ow, rdS_succ, isFr_fr, isFr_ow, isFr_succ, plainAt_fr, plainAt_none, plainAt_succ, lendE_nil, lendE_fr, lendE_none, lendE_ow, frE_nil, frE_fr, frE_none, frE_ow, unlE_nil, unlE_cons, unl_fr, unl_ow, unl_none, hideE_nil, hideE_cons, shownE_nil, shownE_cons, gSetD_at, gNilD_at, Gt_gCons, gTupD_at,
    Gt_some, Gt_map, Gt_bind, GX_ok, GX_error, varW_fr, varW_ow, owW_ow, oAdd_int, oSub_int, oNeg_int, Gt_mul, Gt_div, Gt_mod, Gt_pow, Gt_shl, oCmp_int, asB_bl, asI_int, tru_bl, tru_int, tru_non, bAbs_nat, bInt_int, bInt_bl, bGcd_int, bBits_int, bLen_lst, bLen_frl, bLen_tup, oIsN_non, oIsN_int, oIsN_tup, oIsN_lst, oIsN_bl, oIsN_str, oNotN_non, oNotN_int, oNotN_tup, oNotN_lst, oNotN_bl, oNotN_str, oIx_lst, oIx_frl, oIx_tup, itemsD_lst, itemsD_frl, itemsD_tup, asItems_lst, asItems_frl, asItems_tup, bTuple_lst, bTuple_frl, bTuple_tup, numD_at, parD_at, Gt_rng3, rowD_lst, rowD_frl, rowD_tup, Gt_stepT, Gt_stepL, Gt_stepF, Gt_rng1, Gt_rng2, oCutA_lst, oCutA_frl, oCutA_tup, lstD_lst, lstD_frl,
    atI_0, atI_1, atI_2, atI_3, ixN_3_0, ixN_3_1, ixN_3_2, oEq_int, oNe_int, oEq_lay, oNe_lay, lay, layL, deepD, deepL, deq, deqL, strOk_ofString, beq_iff_eq, beq_self_eq_true, beq_eq_false_iff_ne, Bool.true_eq_false, Bool.not_eq_false,  Nat.max_self, Nat.zero_le, Nat.max_zero, Nat.zero_max, Bool.and_eq_true,  envV_at, envM_at, dLt, dLe, dGt, dGe,
    List.map_cons, List.map_nil, List.cons_append, List.nil_append, List.replicate_succ, List.replicate_zero, Nat.reduceSub, Nat.reduceAdd, Nat.zero_add, List.length_cons, List.length_nil, List.getElem?_cons_zero, List.getElem?_cons_succ, List.set_cons_zero, List.getD_cons_zero, List.getD_cons_succ,  List.set_cons_succ, List.all_cons, List.all_nil, Bool.and_true, Bool.true_and, Bool.true_or, Bool.or_true, Bool.false_or, Bool.and_false, Bool.false_and, Bool.or_false, Bool.not_true, Bool.not_false, noL, noLs, le_sizeLine, lt_sizeLine, Nat.reduceLeDiff, true_and, and_true, decide_eq_true_eq, if_true, if_false, reduceIte, Bool.false_eq_true, Int.reduceAdd, Int.reduceSub, Int.reduceMul, Int.reducePow, Int.reduceNeg, Int.reduceToNat, Int.reduceLT, Int.reduceLE, Nat.reducePow, Int.reduceEq, Int.reduceAbs, Int.cast_ofNat_Int, log2_small, Nat.reduceLT,  decide_true, decide_false, Bool.not_eq_true', decide_eq_false_iff_not, Bool.not_eq_true, eq_self, ne_eq, not_true_eq_false, not_false_eq_true])

namespace Wk
open PySem L2 VL
def mkE (x : Str) (fds : List (Str × Nat)) (n m : Nat) (gD : List D → List D → List D) (ds es : List D) : Option D := if ds.length = n ∧ es.length = m ∧ (gD ds es).length = fds.length then (getF (gD ds es) fds []).map fun gs => .exn x gs else none
theorem W_eMkE {x : Str} {fds : List (Str × Nat)} {n m : Nat} {gD : List D → List D → List D} {f1 f2 : VL.Env → Option (Out (List D))} {ε : VL.Env} {P : D → VL.Env → Prop} {X : Exn → VL.Env → Prop} :
    W (eMkE x fds n m gD f1 f2) ε P X = W f1 ε (fun ds ε1 => W f2 ε1 (fun es ε2 => Gt (mkE x fds n m gD ds es) fun d => P d ε2) X) X := by
  have e : (fun (a : List D) (ε' : VL.Env) => W (bnd f2 fun es => lift (if a.length = n ∧ es.length = m ∧ (gD a es).length = fds.length then (getF (gD a es) fds []).map fun gs => D.exn x gs else none)) ε' P X) = fun ds ε1 => W f2 ε1 (fun es ε2 => Gt (mkE x fds n m gD ds es) fun d => P d ε2) X := by
    funext a ε'
    have e2 : (fun (es : List D) (ε2 : VL.Env) => W (lift (if a.length = n ∧ es.length = m ∧ (gD a es).length = fds.length then (getF (gD a es) fds []).map fun gs => D.exn x gs else none)) ε2 P X) = fun es ε2 => Gt (mkE x fds n m gD a es) fun d => P d ε2 := by
      funext es ε2
      rw [W_lift]
      rfl
    rw [W_bnd, e2]
  unfold eMkE
  rw [W_bnd, e]
theorem none_ : m__law_classes [.exn "Nothing" []] = some (.lst [.str "none", .str "base", .str "value"]) := by
  kernel_rfl
theorem plain (ns : List Int) (hl : ns.length ≤ 63) (hb : ∀ z ∈ ns, Builtin.Int.intBits z ≤ 1048576) : m_law [.frl (ns.map D.int)] = some (.bl true) := by
  obtain ⟨p, ok, hp⟩ := lawPen hl hb
  refine gv_eq ?_
  unfold m_law g_law
  subst_eqs
  rw [hp]
  subst_eqs
  refine range_inv (fun i ε => ∃ p' s2 s3 s4 s5 s6, PenOk (20 * i) p' ∧ ε = [some (.fr (.frl (ns.map D.int))), some (.ow false (penD p')), s2, s3, s4, s5, s6]) (by decide) ⟨p, none, none, none, none, none, ok.mono (by decide), rfl⟩ ?_ ?_
  · rintro ε ⟨p0, s2, s3, s4, s5, s6, ok0, rfl⟩
    subst_eqs
    simp only [W_eMkE]
    subst_eqs
    rw [show mkE "Nothing" [] 0 0 gD_Nothing_0 [] [] = some (.exn "Nothing" []) from rfl]
    subst_eqs
    rw [none_]
    subst_eqs
  · rintro i ε h1 h2 ⟨p0, s2, s3, s4, s5, s6, ok0, rfl⟩
    subst_eqs
    refine odd_ ok0 (by omega) fun a ha p1 ok1 => ?_
    dsimp only
    subst_eqs
    refine odd_ ok1 (by omega) fun b hb2 p2 ok2 => ?_
    dsimp only
    subst_eqs
    rw [values ha]
    subst_eqs
    rw [values hb2]
    subst_eqs
    simp only [W_eMkE]
    subst_eqs
    rw [show mkE "BadText" [("line", 1), ("word", 2)] 2 0 gD_BadText_2 [a, b] [] = some (.exn "BadText" [("word", b), ("line", a)]) from rfl]
    subst_eqs
    simp only [W_eMkE]
    subst_eqs
    rw [show mkE "BadText" [("line", 1), ("word", 2)] 0 2 gD_BadText_0_word_line [] [b, a] = some (.exn "BadText" [("word", b), ("line", a)]) from rfl]
    subst_eqs
    have x1 : bXat (atN "line") "line" (.exn "BadText" [("word", b), ("line", a)]) = some a := rfl
    have x2 : bXat (atN "word") "word" (.exn "BadText" [("word", b), ("line", a)]) = some b := rfl
    rw [x1]
    subst_eqs
    rw [x2]
    subst_eqs
    rw [x1]
    subst_eqs
    rw [x2]
    subst_eqs
    rw [show m__law_one_right _ = some (.bl true) from text_ ha hb2]
    subst_eqs
    clear x1 x2
    simp only [W_eMkE]
    subst_eqs
    rw [show mkE "TooMany" [("what", 1), ("most", 2)] 2 0 gD_TooMany_2 [a, b] [] = some (.exn "TooMany" [("most", b), ("what", a)]) from rfl]
    subst_eqs
    simp only [W_eMkE]
    subst_eqs
    rw [show mkE "TooMany" [("what", 1), ("most", 2)] 0 2 gD_TooMany_0_most_what [] [b, a] = some (.exn "TooMany" [("most", b), ("what", a)]) from rfl]
    subst_eqs
    have x1 : bXat (atN "what") "what" (.exn "TooMany" [("most", b), ("what", a)]) = some a := rfl
    have x2 : bXat (atN "most") "most" (.exn "TooMany" [("most", b), ("what", a)]) = some b := rfl
    rw [x1]
    subst_eqs
    rw [x2]
    subst_eqs
    rw [x1]
    subst_eqs
    rw [x2]
    subst_eqs
    rw [show m__law_one_right _ = some (.bl true) from many_ ha hb2]
    subst_eqs
    clear x1 x2
    exact ⟨p2, _, _, _, _, _, ok2.mono (by omega), rfl⟩
end Wk
end

section
set_option Elab.async false
set_option linter.all false
set_option maxRecDepth 100000
set_option maxHeartbeats 0
namespace Wk
open PySem PySem.Spec PyProof.Rows L2 VL He
def dd (x : Str) (i : Nat) (dfl : List Dv := []) : DefD := ⟨(x, none), x, x, defArgs (top i), defBody (top i), defScope (top i), dfl, []⟩
def inC (i j : Nat) : Stmt := (C8.clsBody (top i)).getD j (.Pass ⟨0, 0, 0, 0⟩)
def fn : List DefD := [dd "_law_pen" 24, dd "_law_draw" 25, dd "_law_pick" 26, dd "_law_classes" 27, dd "_law_odd" 28, dd "_law_one_right" 29, dd "_law_values_right" 30, dd "law" 31]
def glL : List Str := ["_law_pen", "_law_draw", "_law_pick", "_law_classes", "_law_odd", "_law_one_right", "_law_values_right", "law", "BadAnswers", "BadBox", "BadCommand", "BadForm", "BadFormat", "BadLoop", "BadName", "BadNumber", "BadPrices", "BadProgram", "BadRoot", "BadTable", "BadText", "BadValues", "BadWay", "ByNothing", "HoldsNothing", "Misfit", "NoRow", "Nothing", "OnceError", "TooMany"]
def fa : List Fa := glL.map Fa.glo ++ [.free "ValueError", .free "abs", .free "int", .free "isinstance", .free "len", .free "list", .free "range", .free "repr", .free "super"]
theorem glo_fa : ∀ n ∈ glL, Fa.glo n ∈ fa := fun n h => List.mem_append_left _ (List.mem_map_of_mem (f := Fa.glo) h)
abbrev I_BadAnswers : Stmt := inC 10 0
abbrev I_BadBox : Stmt := inC 9 0
abbrev I_BadCommand : Stmt := inC 20 0
abbrev I_BadForm : Stmt := inC 6 0
abbrev I_BadFormat : Stmt := inC 3 0
abbrev I_BadLoop : Stmt := inC 13 0
abbrev I_BadName : Stmt := inC 5 0
abbrev I_BadNumber : Stmt := inC 2 0
abbrev I_BadPrices : Stmt := inC 14 0
abbrev I_BadProgram : Stmt := inC 7 0
abbrev I_BadRoot : Stmt := inC 12 0
abbrev I_BadTable : Stmt := inC 11 0
abbrev I_BadText : Stmt := inC 19 0
abbrev I_BadValues : Stmt := inC 8 0
abbrev I_BadWay : Stmt := inC 4 0
abbrev I_ByNothing : Stmt := inC 16 0
abbrev I_HoldsNothing : Stmt := inC 17 0
abbrev I_Misfit : Stmt := inC 18 0
abbrev I_NoRow : Stmt := inC 15 0
abbrev I_Nothing : Stmt := inC 21 0
abbrev I_TooMany : Stmt := inC 22 0
def inits : List ExD := [⟨"BadAnswers", I_BadAnswers⟩, ⟨"BadBox", I_BadBox⟩, ⟨"BadCommand", I_BadCommand⟩, ⟨"BadForm", I_BadForm⟩, ⟨"BadFormat", I_BadFormat⟩, ⟨"BadLoop", I_BadLoop⟩, ⟨"BadName", I_BadName⟩, ⟨"BadNumber", I_BadNumber⟩, ⟨"BadPrices", I_BadPrices⟩, ⟨"BadProgram", I_BadProgram⟩, ⟨"BadRoot", I_BadRoot⟩, ⟨"BadTable", I_BadTable⟩, ⟨"BadText", I_BadText⟩, ⟨"BadValues", I_BadValues⟩, ⟨"BadWay", I_BadWay⟩, ⟨"ByNothing", I_ByNothing⟩, ⟨"HoldsNothing", I_HoldsNothing⟩, ⟨"Misfit", I_Misfit⟩, ⟨"NoRow", I_NoRow⟩, ⟨"Nothing", I_Nothing⟩, ⟨"TooMany", I_TooMany⟩]
def fileOf : Str := PySem.Challenge.pw_askedatonce_k00_errors_of_questions_at_o.main.file
def exs (K : PySem.W.Frag) : List Bool := [oneB K,
  oexB K "BadAnswers",
  morB K "BadAnswers" ["at"],
  initB fileOf K "BadAnswers",
  oexB K "BadBox",
  morB K "BadBox" ["name"],
  initB fileOf K "BadBox",
  oexB K "BadCommand",
  morB K "BadCommand" ["word"],
  initB fileOf K "BadCommand",
  oexB K "BadForm",
  morB K "BadForm" ["value"],
  initB fileOf K "BadForm",
  oexB K "BadFormat",
  morB K "BadFormat" ["part"],
  initB fileOf K "BadFormat",
  oexB K "BadLoop",
  morB K "BadLoop" ["part"],
  initB fileOf K "BadLoop",
  oexB K "BadName",
  morB K "BadName" ["value"],
  initB fileOf K "BadName",
  oexB K "BadNumber",
  morB K "BadNumber" ["part"],
  initB fileOf K "BadNumber",
  oexB K "BadPrices",
  morB K "BadPrices" ["part"],
  initB fileOf K "BadPrices",
  oexB K "BadProgram",
  morB K "BadProgram" ["part"],
  initB fileOf K "BadProgram",
  oexB K "BadRoot",
  morB K "BadRoot" ["part"],
  initB fileOf K "BadRoot",
  oexB K "BadTable",
  morB K "BadTable" ["part"],
  initB fileOf K "BadTable",
  oexB K "BadText",
  morB K "BadText" ["line", "word"],
  initB fileOf K "BadText",
  oexB K "BadValues",
  morB K "BadValues" ["name"],
  initB fileOf K "BadValues",
  oexB K "BadWay",
  morB K "BadWay" ["value"],
  initB fileOf K "BadWay",
  oexB K "ByNothing",
  morB K "ByNothing" ["row"],
  initB fileOf K "ByNothing",
  oexB K "HoldsNothing",
  morB K "HoldsNothing" ["row"],
  initB fileOf K "HoldsNothing",
  oexB K "Misfit",
  morB K "Misfit" ["part"],
  initB fileOf K "Misfit",
  oexB K "NoRow",
  morB K "NoRow" ["value"],
  initB fileOf K "NoRow",
  oexB K "Nothing",
  morB K "Nothing" [],
  initB fileOf K "Nothing",
  oexB K "TooMany",
  morB K "TooMany" ["what", "most"],
  initB fileOf K "TooMany",
  isxB.all fun p => isxN.all fun x => decide (PySem.W.kitOne K (.ref (ga K p.1)) (.ref (ga K x)) = some (decide (x ∈ p.2))),
  isxN.all fun x => decide (PySem.W.kitOne K (.type "NoneType") (.ref (ga K x)) = some false),
  isxB.all fun p => morB K p.1 [],
  (K.lookup PySem.sysModules).isSome,
  isxM.all fun n => decide (PySem.W.kitOne K (.ref (ga K n)) (.type "ValueError") = some true)]
def ex (K : PySem.W.Frag) : Bool := (exs K).all id
def tf : List Defn := []
theorem ex_at {K : PySem.W.Frag} (h : ex K = true) (i : Nat) {b : Bool} (e : (exs K)[i]? = some b) : b = true := List.all_eq_true.mp h b (List.mem_of_getElem? e)
section
variable {w : World} {h : Heap} {K : PySem.W.Frag} {mg : Str → Option Value} {base : Heap}
theorem facts (KX : K.In h) (G : h.Ns mainGlobals mg) (c : SaysV fa fn tf ex inits w h K) : Fx K mg := by
  have d := c.d
  have m := c.more
  have g_BadAnswers : mg "BadAnswers" = some (.ref (ga K "BadAnswers")) := glo_ok KX G (d.fact 8 (f := .glo "BadAnswers") rfl)
  have g_BadBox : mg "BadBox" = some (.ref (ga K "BadBox")) := glo_ok KX G (d.fact 9 (f := .glo "BadBox") rfl)
  have g_BadCommand : mg "BadCommand" = some (.ref (ga K "BadCommand")) := glo_ok KX G (d.fact 10 (f := .glo "BadCommand") rfl)
  have g_BadForm : mg "BadForm" = some (.ref (ga K "BadForm")) := glo_ok KX G (d.fact 11 (f := .glo "BadForm") rfl)
  have g_BadFormat : mg "BadFormat" = some (.ref (ga K "BadFormat")) := glo_ok KX G (d.fact 12 (f := .glo "BadFormat") rfl)
  have g_BadLoop : mg "BadLoop" = some (.ref (ga K "BadLoop")) := glo_ok KX G (d.fact 13 (f := .glo "BadLoop") rfl)
  have g_BadName : mg "BadName" = some (.ref (ga K "BadName")) := glo_ok KX G (d.fact 14 (f := .glo "BadName") rfl)
  have g_BadNumber : mg "BadNumber" = some (.ref (ga K "BadNumber")) := glo_ok KX G (d.fact 15 (f := .glo "BadNumber") rfl)
  have g_BadPrices : mg "BadPrices" = some (.ref (ga K "BadPrices")) := glo_ok KX G (d.fact 16 (f := .glo "BadPrices") rfl)
  have g_BadProgram : mg "BadProgram" = some (.ref (ga K "BadProgram")) := glo_ok KX G (d.fact 17 (f := .glo "BadProgram") rfl)
  have g_BadRoot : mg "BadRoot" = some (.ref (ga K "BadRoot")) := glo_ok KX G (d.fact 18 (f := .glo "BadRoot") rfl)
  have g_BadTable : mg "BadTable" = some (.ref (ga K "BadTable")) := glo_ok KX G (d.fact 19 (f := .glo "BadTable") rfl)
  have g_BadText : mg "BadText" = some (.ref (ga K "BadText")) := glo_ok KX G (d.fact 20 (f := .glo "BadText") rfl)
  have g_BadValues : mg "BadValues" = some (.ref (ga K "BadValues")) := glo_ok KX G (d.fact 21 (f := .glo "BadValues") rfl)
  have g_BadWay : mg "BadWay" = some (.ref (ga K "BadWay")) := glo_ok KX G (d.fact 22 (f := .glo "BadWay") rfl)
  have g_ByNothing : mg "ByNothing" = some (.ref (ga K "ByNothing")) := glo_ok KX G (d.fact 23 (f := .glo "ByNothing") rfl)
  have g_HoldsNothing : mg "HoldsNothing" = some (.ref (ga K "HoldsNothing")) := glo_ok KX G (d.fact 24 (f := .glo "HoldsNothing") rfl)
  have g_Misfit : mg "Misfit" = some (.ref (ga K "Misfit")) := glo_ok KX G (d.fact 25 (f := .glo "Misfit") rfl)
  have g_NoRow : mg "NoRow" = some (.ref (ga K "NoRow")) := glo_ok KX G (d.fact 26 (f := .glo "NoRow") rfl)
  have g_Nothing : mg "Nothing" = some (.ref (ga K "Nothing")) := glo_ok KX G (d.fact 27 (f := .glo "Nothing") rfl)
  have g_OnceError : mg "OnceError" = some (.ref (ga K "OnceError")) := glo_ok KX G (d.fact 28 (f := .glo "OnceError") rfl)
  have g_TooMany : mg "TooMany" = some (.ref (ga K "TooMany")) := glo_ok KX G (d.fact 29 (f := .glo "TooMany") rfl)
  have gl : ∀ n, Fa.glo n ∈ fa → mg n = some (.ref (ga K n)) := fun n hn => by
    obtain ⟨i, hi⟩ := List.getElem?_of_mem hn
    exact glo_ok KX G (d.fact i (f := .glo n) hi)
  have gM : ∀ n ∈ isxM, n ∈ isxB.map (·.1) := by decide +kernel
  have gN : ∀ n ∈ isxM, Fa.glo n ∈ fa := fun n h => glo_fa n ((by decide +kernel : ∀ n ∈ isxM, n ∈ glL) n h)
  have gB : ∀ p ∈ isxB, Fa.glo p.1 ∈ fa := fun p h => glo_fa p.1 ((by decide +kernel : ∀ n ∈ isxB.map (·.1), n ∈ glL) p.1 (List.mem_map_of_mem (f := (·.1)) h))
  have gX : ∀ n ∈ isxN, Fa.glo n ∈ fa := fun n h => glo_fa n ((by decide +kernel : ∀ n ∈ isxN, n ∈ glL) n h)
  have xcN : ∀ n ∈ isxB.map (·.1), ExcC K (ga K n) := fun n hn => by
    obtain ⟨p, hp, rfl⟩ := List.mem_map.mp hn
    exact (mor_ok (List.all_eq_true.mp (ex_at m 66 rfl) p hp)).excC (ex_at m 0 rfl)
  have isx : IsX K mg isxT isxN := by
    refine ⟨fun n x b e => ?_, fun x hx => ⟨_, gl x (gX x hx), of_decide_eq_true (List.all_eq_true.mp (ex_at m 65 rfl) x hx)⟩⟩
    unfold isxT at e
    split at e
    · rename_i hx
      obtain ⟨bs, hb, rfl⟩ := Option.map_eq_some_iff.mp e
      have hp : (n, bs) ∈ isxB := VL.lookup_mem hb
      exact ⟨_, _, gl n (gB _ hp), gl x (gX x hx), xcN n (List.mem_map_of_mem (f := (·.1)) hp), of_decide_eq_true (List.all_eq_true.mp (List.all_eq_true.mp (ex_at m 64 rfl) _ hp) x hx)⟩
    · cases e
  have a_at : AtX K mg (atN "at") "at" := by
    refine ⟨fun n hn => ?_⟩
    have hn : n ∈ (["BadAnswers"] : List Str) := hn
    simp only [List.mem_cons, List.mem_nil_iff, or_false, List.not_mem_nil] at hn
    subst hn
    exact ⟨_, g_BadAnswers, (mor_ok (ex_at m 2 rfl)).xf, (mor_ok (ex_at m 2 rfl)).no _ (by decide)⟩
  have a_line : AtX K mg (atN "line") "line" := by
    refine ⟨fun n hn => ?_⟩
    have hn : n ∈ (["BadText"] : List Str) := hn
    simp only [List.mem_cons, List.mem_nil_iff, or_false, List.not_mem_nil] at hn
    subst hn
    exact ⟨_, g_BadText, (mor_ok (ex_at m 38 rfl)).xf, (mor_ok (ex_at m 38 rfl)).no _ (by decide)⟩
  have a_most : AtX K mg (atN "most") "most" := by
    refine ⟨fun n hn => ?_⟩
    have hn : n ∈ (["TooMany"] : List Str) := hn
    simp only [List.mem_cons, List.mem_nil_iff, or_false, List.not_mem_nil] at hn
    subst hn
    exact ⟨_, g_TooMany, (mor_ok (ex_at m 62 rfl)).xf, (mor_ok (ex_at m 62 rfl)).no _ (by decide)⟩
  have a_name : AtX K mg (atN "name") "name" := by
    refine ⟨fun n hn => ?_⟩
    have hn : n ∈ (["BadBox", "BadValues"] : List Str) := hn
    simp only [List.mem_cons, List.mem_nil_iff, or_false, List.not_mem_nil] at hn
    rcases hn with rfl | rfl
    · exact ⟨_, g_BadBox, (mor_ok (ex_at m 5 rfl)).xf, (mor_ok (ex_at m 5 rfl)).no _ (by decide)⟩
    · exact ⟨_, g_BadValues, (mor_ok (ex_at m 41 rfl)).xf, (mor_ok (ex_at m 41 rfl)).no _ (by decide)⟩
  have a_part : AtX K mg (atN "part") "part" := by
    refine ⟨fun n hn => ?_⟩
    have hn : n ∈ (["BadFormat", "BadLoop", "BadNumber", "BadPrices", "BadProgram", "BadRoot", "BadTable", "Misfit"] : List Str) := hn
    simp only [List.mem_cons, List.mem_nil_iff, or_false, List.not_mem_nil] at hn
    rcases hn with rfl | rfl | rfl | rfl | rfl | rfl | rfl | rfl
    · exact ⟨_, g_BadFormat, (mor_ok (ex_at m 14 rfl)).xf, (mor_ok (ex_at m 14 rfl)).no _ (by decide)⟩
    · exact ⟨_, g_BadLoop, (mor_ok (ex_at m 17 rfl)).xf, (mor_ok (ex_at m 17 rfl)).no _ (by decide)⟩
    · exact ⟨_, g_BadNumber, (mor_ok (ex_at m 23 rfl)).xf, (mor_ok (ex_at m 23 rfl)).no _ (by decide)⟩
    · exact ⟨_, g_BadPrices, (mor_ok (ex_at m 26 rfl)).xf, (mor_ok (ex_at m 26 rfl)).no _ (by decide)⟩
    · exact ⟨_, g_BadProgram, (mor_ok (ex_at m 29 rfl)).xf, (mor_ok (ex_at m 29 rfl)).no _ (by decide)⟩
    · exact ⟨_, g_BadRoot, (mor_ok (ex_at m 32 rfl)).xf, (mor_ok (ex_at m 32 rfl)).no _ (by decide)⟩
    · exact ⟨_, g_BadTable, (mor_ok (ex_at m 35 rfl)).xf, (mor_ok (ex_at m 35 rfl)).no _ (by decide)⟩
    · exact ⟨_, g_Misfit, (mor_ok (ex_at m 53 rfl)).xf, (mor_ok (ex_at m 53 rfl)).no _ (by decide)⟩
  have a_row : AtX K mg (atN "row") "row" := by
    refine ⟨fun n hn => ?_⟩
    have hn : n ∈ (["ByNothing", "HoldsNothing"] : List Str) := hn
    simp only [List.mem_cons, List.mem_nil_iff, or_false, List.not_mem_nil] at hn
    rcases hn with rfl | rfl
    · exact ⟨_, g_ByNothing, (mor_ok (ex_at m 47 rfl)).xf, (mor_ok (ex_at m 47 rfl)).no _ (by decide)⟩
    · exact ⟨_, g_HoldsNothing, (mor_ok (ex_at m 50 rfl)).xf, (mor_ok (ex_at m 50 rfl)).no _ (by decide)⟩
  have a_value : AtX K mg (atN "value") "value" := by
    refine ⟨fun n hn => ?_⟩
    have hn : n ∈ (["BadForm", "BadName", "BadWay", "NoRow"] : List Str) := hn
    simp only [List.mem_cons, List.mem_nil_iff, or_false, List.not_mem_nil] at hn
    rcases hn with rfl | rfl | rfl | rfl
    · exact ⟨_, g_BadForm, (mor_ok (ex_at m 11 rfl)).xf, (mor_ok (ex_at m 11 rfl)).no _ (by decide)⟩
    · exact ⟨_, g_BadName, (mor_ok (ex_at m 20 rfl)).xf, (mor_ok (ex_at m 20 rfl)).no _ (by decide)⟩
    · exact ⟨_, g_BadWay, (mor_ok (ex_at m 44 rfl)).xf, (mor_ok (ex_at m 44 rfl)).no _ (by decide)⟩
    · exact ⟨_, g_NoRow, (mor_ok (ex_at m 56 rfl)).xf, (mor_ok (ex_at m 56 rfl)).no _ (by decide)⟩
  have a_what : AtX K mg (atN "what") "what" := by
    refine ⟨fun n hn => ?_⟩
    have hn : n ∈ (["TooMany"] : List Str) := hn
    simp only [List.mem_cons, List.mem_nil_iff, or_false, List.not_mem_nil] at hn
    subst hn
    exact ⟨_, g_TooMany, (mor_ok (ex_at m 62 rfl)).xf, (mor_ok (ex_at m 62 rfl)).no _ (by decide)⟩
  have a_word : AtX K mg (atN "word") "word" := by
    refine ⟨fun n hn => ?_⟩
    have hn : n ∈ (["BadCommand", "BadText"] : List Str) := hn
    simp only [List.mem_cons, List.mem_nil_iff, or_false, List.not_mem_nil] at hn
    rcases hn with rfl | rfl
    · exact ⟨_, g_BadCommand, (mor_ok (ex_at m 8 rfl)).xf, (mor_ok (ex_at m 8 rfl)).no _ (by decide)⟩
    · exact ⟨_, g_BadText, (mor_ok (ex_at m 38 rfl)).xf, (mor_ok (ex_at m 38 rfl)).no _ (by decide)⟩
  exact ⟨free_ok KX G (d.fact 30 (f := .free "ValueError") rfl), free_ok KX G (d.fact 31 (f := .free "abs") rfl), free_ok KX G (d.fact 32 (f := .free "int") rfl), free_ok KX G (d.fact 33 (f := .free "isinstance") rfl), free_ok KX G (d.fact 34 (f := .free "len") rfl), free_ok KX G (d.fact 35 (f := .free "list") rfl), free_ok KX G (d.fact 36 (f := .free "range") rfl), free_ok KX G (d.fact 37 (f := .free "repr") rfl), ⟨_, g_BadAnswers⟩, ⟨_, g_BadBox⟩, ⟨_, g_BadCommand⟩, ⟨_, g_BadForm⟩, ⟨_, g_BadFormat⟩, ⟨_, g_BadLoop⟩, ⟨_, g_BadName⟩, ⟨_, g_BadNumber⟩, ⟨_, g_BadPrices⟩, ⟨_, g_BadProgram⟩, ⟨_, g_BadRoot⟩, ⟨_, g_BadTable⟩, ⟨_, g_BadText⟩, ⟨_, g_BadValues⟩, ⟨_, g_BadWay⟩, ⟨_, g_ByNothing⟩, ⟨_, g_HoldsNothing⟩, ⟨_, g_Misfit⟩, ⟨_, g_NoRow⟩, ⟨_, g_Nothing⟩, ⟨_, g_OnceError⟩, ⟨_, g_TooMany⟩, Option.isSome_iff_exists.mp (ex_at m 67 rfl), ⟨fun n hn => ⟨_, gl n (gN n hn), xcN n (gM n hn), of_decide_eq_true (List.all_eq_true.mp (ex_at m 68 rfl) n hn)⟩⟩, isx, a_at, a_line, a_most, a_name, a_part, a_row, a_value, a_what, a_word⟩
theorem xv_BadAnswers (KX : K.In h) (G : h.Ns mainGlobals mg) (c : SaysV fa fn tf ex inits w h K) : XvB PySem.Challenge.rw_askedatonce_k00_errors_of_questions_at_o.prog w K mg base 1 "BadAnswers" [("at", 1)] 0 ["at"] gD_BadAnswers_0_at ∧ XvB PySem.Challenge.rw_askedatonce_k00_errors_of_questions_at_o.prog w K mg base 1 "BadAnswers" [("at", 1)] 1 [] gD_BadAnswers_1 := by
  have m := c.more
  have M := mor_ok (ex_at m 2 rfl)
  have T : SupF PySem.Challenge.rw_askedatonce_k00_errors_of_questions_at_o.prog K mg (ga K "BadAnswers") (initAt K "BadAnswers") (ExD.nf K ⟨"BadAnswers", I_BadAnswers⟩) := sup_ok (fs := ["at"]) (d := ⟨"BadAnswers", I_BadAnswers⟩) (c.init 0 (d := ⟨"BadAnswers", I_BadAnswers⟩) rfl) (ex_at m 3 rfl) (ex_at m 1 rfl) (ex_at m 2 rfl) (ex_at m 0 rfl) (free_ok KX G (c.d.fact 38 (f := .free "super") rfl)) (by decide +kernel) (by rfl) ⟨_, rfl, rfl⟩ (by decide +kernel)
  obtain ⟨fd, F1, oc, od, doc, pm, ct, osl, efd, lk⟩ := sup_init (CX := L2.CX PySem.Challenge.rw_askedatonce_k00_errors_of_questions_at_o.prog w) (P := PySem.Challenge.rw_askedatonce_k00_errors_of_questions_at_o.prog) (w := w) (K := K) (mg := mg) (base := base) (k := 0) (N := ["self", "at", "__class__"]) (ps := ["at"]) (t := tFs K [("at", 1)]) T (show NdefX.NScope ["self", "at", "__class__"] ["self", "at"] ["__class__"] (defScope I_BadAnswers) from NdefX.nscope_by (by decide +kernel)) (by rfl) (fun L => by rfl) (fun L => by rfl) (fun A outer s H E => pss_cons (ps_ost (pe_var (i := 0) rfl (Or.inl rfl)) (pe_var (i := 1) rfl (Or.inl rfl))) (pss_nil))
  have no : ∀ p ∈ ([("at", 1)] : List (Str × Nat)), PySem.W.findIn K (.ref (ga K "BadAnswers")) p.1 = some none := fun p hp => M.no p.1 (List.mem_map_of_mem (f := (·.1)) hp)
  have gg : mg "BadAnswers" = some (.ref (ga K "BadAnswers")) := glo_ok KX G (c.d.fact 8 (f := .glo "BadAnswers") rfl)
  subst efd
  refine ⟨?_, ?_⟩
  · refine ⟨by decide, by decide, ga K "BadAnswers", initAt K "BadAnswers", _, ["self", "at", "__class__"], ["at"], (fun us ws => match us, ws with | [p0], [z0] => [p0, z0] | _, _ => []), (fun us ws => match us, ws with | [p0], [z0] => [p0, z0] | _, _ => []), F1, T.own, M.ini, M.tyI, ⟨fun s us ws _ l1 l2 => .of_eq (match us, ws, l1, l2 with | [_], [_], _, _ => rfl), fun {vs us zs ws} r1 r2 => by
      cases r1 with
      | nil => (first | exact .nil | (cases r2 <;> exact .nil))
      | cons x0 r1 =>
        cases r1 with
        | cons _ _ => exact .nil
        | nil =>
          cases r2 with
          | nil => exact .nil
          | cons y0 r2 =>
            cases r2 with
            | cons _ _ => exact .nil
            | nil => exact .cons x0 (.cons y0 .nil)⟩, gg, no, rfl, fun F a vs zs ds es h1 h2 r1 r2 => ?_⟩
    match ds, es, h1, h2, r1, r2 with | [], [e0], _, _, .nil, .cons c0 .nil => exact ⟨_, rfl, .cons c0 .nil⟩
  · refine ⟨by decide, by decide, ga K "BadAnswers", initAt K "BadAnswers", _, ["self", "at", "__class__"], ["at"], (fun us _ => us), (fun vs _ => vs), F1, T.own, M.ini, M.tyI, ⟨fun s us ws _ l1 _ => .of_eq (match us, l1 with | [_, _], _ => rfl), fun r1 _ => r1⟩, gg, no, rfl, fun F a vs zs ds es h1 h2 r1 r2 => ?_⟩
    match ds, es, h1, h2, r1, r2 with | [d0], [], _, _, .cons a0 .nil, .nil => exact ⟨_, rfl, .cons a0 .nil⟩
theorem xv_BadBox (KX : K.In h) (G : h.Ns mainGlobals mg) (c : SaysV fa fn tf ex inits w h K) : XvB PySem.Challenge.rw_askedatonce_k00_errors_of_questions_at_o.prog w K mg base 1 "BadBox" [("name", 1)] 0 ["name"] gD_BadBox_0_name ∧ XvB PySem.Challenge.rw_askedatonce_k00_errors_of_questions_at_o.prog w K mg base 1 "BadBox" [("name", 1)] 1 [] gD_BadBox_1 := by
  have m := c.more
  have M := mor_ok (ex_at m 5 rfl)
  have T : SupF PySem.Challenge.rw_askedatonce_k00_errors_of_questions_at_o.prog K mg (ga K "BadBox") (initAt K "BadBox") (ExD.nf K ⟨"BadBox", I_BadBox⟩) := sup_ok (fs := ["name"]) (d := ⟨"BadBox", I_BadBox⟩) (c.init 1 (d := ⟨"BadBox", I_BadBox⟩) rfl) (ex_at m 6 rfl) (ex_at m 4 rfl) (ex_at m 5 rfl) (ex_at m 0 rfl) (free_ok KX G (c.d.fact 38 (f := .free "super") rfl)) (by decide +kernel) (by rfl) ⟨_, rfl, rfl⟩ (by decide +kernel)
  obtain ⟨fd, F1, oc, od, doc, pm, ct, osl, efd, lk⟩ := sup_init (CX := L2.CX PySem.Challenge.rw_askedatonce_k00_errors_of_questions_at_o.prog w) (P := PySem.Challenge.rw_askedatonce_k00_errors_of_questions_at_o.prog) (w := w) (K := K) (mg := mg) (base := base) (k := 0) (N := ["self", "name", "__class__"]) (ps := ["name"]) (t := tFs K [("name", 1)]) T (show NdefX.NScope ["self", "name", "__class__"] ["self", "name"] ["__class__"] (defScope I_BadBox) from NdefX.nscope_by (by decide +kernel)) (by rfl) (fun L => by rfl) (fun L => by rfl) (fun A outer s H E => pss_cons (ps_ost (pe_var (i := 0) rfl (Or.inl rfl)) (pe_var (i := 1) rfl (Or.inl rfl))) (pss_nil))
  have no : ∀ p ∈ ([("name", 1)] : List (Str × Nat)), PySem.W.findIn K (.ref (ga K "BadBox")) p.1 = some none := fun p hp => M.no p.1 (List.mem_map_of_mem (f := (·.1)) hp)
  have gg : mg "BadBox" = some (.ref (ga K "BadBox")) := glo_ok KX G (c.d.fact 9 (f := .glo "BadBox") rfl)
  subst efd
  refine ⟨?_, ?_⟩
  · refine ⟨by decide, by decide, ga K "BadBox", initAt K "BadBox", _, ["self", "name", "__class__"], ["name"], (fun us ws => match us, ws with | [p0], [z0] => [p0, z0] | _, _ => []), (fun us ws => match us, ws with | [p0], [z0] => [p0, z0] | _, _ => []), F1, T.own, M.ini, M.tyI, ⟨fun s us ws _ l1 l2 => .of_eq (match us, ws, l1, l2 with | [_], [_], _, _ => rfl), fun {vs us zs ws} r1 r2 => by
      cases r1 with
      | nil => (first | exact .nil | (cases r2 <;> exact .nil))
      | cons x0 r1 =>
        cases r1 with
        | cons _ _ => exact .nil
        | nil =>
          cases r2 with
          | nil => exact .nil
          | cons y0 r2 =>
            cases r2 with
            | cons _ _ => exact .nil
            | nil => exact .cons x0 (.cons y0 .nil)⟩, gg, no, rfl, fun F a vs zs ds es h1 h2 r1 r2 => ?_⟩
    match ds, es, h1, h2, r1, r2 with | [], [e0], _, _, .nil, .cons c0 .nil => exact ⟨_, rfl, .cons c0 .nil⟩
  · refine ⟨by decide, by decide, ga K "BadBox", initAt K "BadBox", _, ["self", "name", "__class__"], ["name"], (fun us _ => us), (fun vs _ => vs), F1, T.own, M.ini, M.tyI, ⟨fun s us ws _ l1 _ => .of_eq (match us, l1 with | [_, _], _ => rfl), fun r1 _ => r1⟩, gg, no, rfl, fun F a vs zs ds es h1 h2 r1 r2 => ?_⟩
    match ds, es, h1, h2, r1, r2 with | [d0], [], _, _, .cons a0 .nil, .nil => exact ⟨_, rfl, .cons a0 .nil⟩
theorem xv_BadCommand (KX : K.In h) (G : h.Ns mainGlobals mg) (c : SaysV fa fn tf ex inits w h K) : XvB PySem.Challenge.rw_askedatonce_k00_errors_of_questions_at_o.prog w K mg base 1 "BadCommand" [("word", 1)] 0 ["word"] gD_BadCommand_0_word ∧ XvB PySem.Challenge.rw_askedatonce_k00_errors_of_questions_at_o.prog w K mg base 1 "BadCommand" [("word", 1)] 1 [] gD_BadCommand_1 := by
  have m := c.more
  have M := mor_ok (ex_at m 8 rfl)
  have T : SupF PySem.Challenge.rw_askedatonce_k00_errors_of_questions_at_o.prog K mg (ga K "BadCommand") (initAt K "BadCommand") (ExD.nf K ⟨"BadCommand", I_BadCommand⟩) := sup_ok (fs := ["word"]) (d := ⟨"BadCommand", I_BadCommand⟩) (c.init 2 (d := ⟨"BadCommand", I_BadCommand⟩) rfl) (ex_at m 9 rfl) (ex_at m 7 rfl) (ex_at m 8 rfl) (ex_at m 0 rfl) (free_ok KX G (c.d.fact 38 (f := .free "super") rfl)) (by decide +kernel) (by rfl) ⟨_, rfl, rfl⟩ (by decide +kernel)
  obtain ⟨fd, F1, oc, od, doc, pm, ct, osl, efd, lk⟩ := sup_init (CX := L2.CX PySem.Challenge.rw_askedatonce_k00_errors_of_questions_at_o.prog w) (P := PySem.Challenge.rw_askedatonce_k00_errors_of_questions_at_o.prog) (w := w) (K := K) (mg := mg) (base := base) (k := 0) (N := ["self", "word", "__class__"]) (ps := ["word"]) (t := tFs K [("word", 1)]) T (show NdefX.NScope ["self", "word", "__class__"] ["self", "word"] ["__class__"] (defScope I_BadCommand) from NdefX.nscope_by (by decide +kernel)) (by rfl) (fun L => by rfl) (fun L => by rfl) (fun A outer s H E => pss_cons (ps_ost (pe_var (i := 0) rfl (Or.inl rfl)) (pe_var (i := 1) rfl (Or.inl rfl))) (pss_nil))
  have no : ∀ p ∈ ([("word", 1)] : List (Str × Nat)), PySem.W.findIn K (.ref (ga K "BadCommand")) p.1 = some none := fun p hp => M.no p.1 (List.mem_map_of_mem (f := (·.1)) hp)
  have gg : mg "BadCommand" = some (.ref (ga K "BadCommand")) := glo_ok KX G (c.d.fact 10 (f := .glo "BadCommand") rfl)
  subst efd
  refine ⟨?_, ?_⟩
  · refine ⟨by decide, by decide, ga K "BadCommand", initAt K "BadCommand", _, ["self", "word", "__class__"], ["word"], (fun us ws => match us, ws with | [p0], [z0] => [p0, z0] | _, _ => []), (fun us ws => match us, ws with | [p0], [z0] => [p0, z0] | _, _ => []), F1, T.own, M.ini, M.tyI, ⟨fun s us ws _ l1 l2 => .of_eq (match us, ws, l1, l2 with | [_], [_], _, _ => rfl), fun {vs us zs ws} r1 r2 => by
      cases r1 with
      | nil => (first | exact .nil | (cases r2 <;> exact .nil))
      | cons x0 r1 =>
        cases r1 with
        | cons _ _ => exact .nil
        | nil =>
          cases r2 with
          | nil => exact .nil
          | cons y0 r2 =>
            cases r2 with
            | cons _ _ => exact .nil
            | nil => exact .cons x0 (.cons y0 .nil)⟩, gg, no, rfl, fun F a vs zs ds es h1 h2 r1 r2 => ?_⟩
    match ds, es, h1, h2, r1, r2 with | [], [e0], _, _, .nil, .cons c0 .nil => exact ⟨_, rfl, .cons c0 .nil⟩
  · refine ⟨by decide, by decide, ga K "BadCommand", initAt K "BadCommand", _, ["self", "word", "__class__"], ["word"], (fun us _ => us), (fun vs _ => vs), F1, T.own, M.ini, M.tyI, ⟨fun s us ws _ l1 _ => .of_eq (match us, l1 with | [_, _], _ => rfl), fun r1 _ => r1⟩, gg, no, rfl, fun F a vs zs ds es h1 h2 r1 r2 => ?_⟩
    match ds, es, h1, h2, r1, r2 with | [d0], [], _, _, .cons a0 .nil, .nil => exact ⟨_, rfl, .cons a0 .nil⟩
theorem xv_BadForm (KX : K.In h) (G : h.Ns mainGlobals mg) (c : SaysV fa fn tf ex inits w h K) : XvB PySem.Challenge.rw_askedatonce_k00_errors_of_questions_at_o.prog w K mg base 1 "BadForm" [("value", 1)] 0 ["value"] gD_BadForm_0_value ∧ XvB PySem.Challenge.rw_askedatonce_k00_errors_of_questions_at_o.prog w K mg base 1 "BadForm" [("value", 1)] 1 [] gD_BadForm_1 := by
  have m := c.more
  have M := mor_ok (ex_at m 11 rfl)
  have T : SupF PySem.Challenge.rw_askedatonce_k00_errors_of_questions_at_o.prog K mg (ga K "BadForm") (initAt K "BadForm") (ExD.nf K ⟨"BadForm", I_BadForm⟩) := sup_ok (fs := ["value"]) (d := ⟨"BadForm", I_BadForm⟩) (c.init 3 (d := ⟨"BadForm", I_BadForm⟩) rfl) (ex_at m 12 rfl) (ex_at m 10 rfl) (ex_at m 11 rfl) (ex_at m 0 rfl) (free_ok KX G (c.d.fact 38 (f := .free "super") rfl)) (by decide +kernel) (by rfl) ⟨_, rfl, rfl⟩ (by decide +kernel)
  obtain ⟨fd, F1, oc, od, doc, pm, ct, osl, efd, lk⟩ := sup_init (CX := L2.CX PySem.Challenge.rw_askedatonce_k00_errors_of_questions_at_o.prog w) (P := PySem.Challenge.rw_askedatonce_k00_errors_of_questions_at_o.prog) (w := w) (K := K) (mg := mg) (base := base) (k := 0) (N := ["self", "value", "__class__"]) (ps := ["value"]) (t := tFs K [("value", 1)]) T (show NdefX.NScope ["self", "value", "__class__"] ["self", "value"] ["__class__"] (defScope I_BadForm) from NdefX.nscope_by (by decide +kernel)) (by rfl) (fun L => by rfl) (fun L => by rfl) (fun A outer s H E => pss_cons (ps_ost (pe_var (i := 0) rfl (Or.inl rfl)) (pe_var (i := 1) rfl (Or.inl rfl))) (pss_nil))
  have no : ∀ p ∈ ([("value", 1)] : List (Str × Nat)), PySem.W.findIn K (.ref (ga K "BadForm")) p.1 = some none := fun p hp => M.no p.1 (List.mem_map_of_mem (f := (·.1)) hp)
  have gg : mg "BadForm" = some (.ref (ga K "BadForm")) := glo_ok KX G (c.d.fact 11 (f := .glo "BadForm") rfl)
  subst efd
  refine ⟨?_, ?_⟩
  · refine ⟨by decide, by decide, ga K "BadForm", initAt K "BadForm", _, ["self", "value", "__class__"], ["value"], (fun us ws => match us, ws with | [p0], [z0] => [p0, z0] | _, _ => []), (fun us ws => match us, ws with | [p0], [z0] => [p0, z0] | _, _ => []), F1, T.own, M.ini, M.tyI, ⟨fun s us ws _ l1 l2 => .of_eq (match us, ws, l1, l2 with | [_], [_], _, _ => rfl), fun {vs us zs ws} r1 r2 => by
      cases r1 with
      | nil => (first | exact .nil | (cases r2 <;> exact .nil))
      | cons x0 r1 =>
        cases r1 with
        | cons _ _ => exact .nil
        | nil =>
          cases r2 with
          | nil => exact .nil
          | cons y0 r2 =>
            cases r2 with
            | cons _ _ => exact .nil
            | nil => exact .cons x0 (.cons y0 .nil)⟩, gg, no, rfl, fun F a vs zs ds es h1 h2 r1 r2 => ?_⟩
    match ds, es, h1, h2, r1, r2 with | [], [e0], _, _, .nil, .cons c0 .nil => exact ⟨_, rfl, .cons c0 .nil⟩
  · refine ⟨by decide, by decide, ga K "BadForm", initAt K "BadForm", _, ["self", "value", "__class__"], ["value"], (fun us _ => us), (fun vs _ => vs), F1, T.own, M.ini, M.tyI, ⟨fun s us ws _ l1 _ => .of_eq (match us, l1 with | [_, _], _ => rfl), fun r1 _ => r1⟩, gg, no, rfl, fun F a vs zs ds es h1 h2 r1 r2 => ?_⟩
    match ds, es, h1, h2, r1, r2 with | [d0], [], _, _, .cons a0 .nil, .nil => exact ⟨_, rfl, .cons a0 .nil⟩
theorem xv_BadFormat (KX : K.In h) (G : h.Ns mainGlobals mg) (c : SaysV fa fn tf ex inits w h K) : XvB PySem.Challenge.rw_askedatonce_k00_errors_of_questions_at_o.prog w K mg base 1 "BadFormat" [("part", 1)] 0 ["part"] gD_BadFormat_0_part ∧ XvB PySem.Challenge.rw_askedatonce_k00_errors_of_questions_at_o.prog w K mg base 1 "BadFormat" [("part", 1)] 1 [] gD_BadFormat_1 := by
  have m := c.more
  have M := mor_ok (ex_at m 14 rfl)
  have T : SupF PySem.Challenge.rw_askedatonce_k00_errors_of_questions_at_o.prog K mg (ga K "BadFormat") (initAt K "BadFormat") (ExD.nf K ⟨"BadFormat", I_BadFormat⟩) := sup_ok (fs := ["part"]) (d := ⟨"BadFormat", I_BadFormat⟩) (c.init 4 (d := ⟨"BadFormat", I_BadFormat⟩) rfl) (ex_at m 15 rfl) (ex_at m 13 rfl) (ex_at m 14 rfl) (ex_at m 0 rfl) (free_ok KX G (c.d.fact 38 (f := .free "super") rfl)) (by decide +kernel) (by rfl) ⟨_, rfl, rfl⟩ (by decide +kernel)
  obtain ⟨fd, F1, oc, od, doc, pm, ct, osl, efd, lk⟩ := sup_init (CX := L2.CX PySem.Challenge.rw_askedatonce_k00_errors_of_questions_at_o.prog w) (P := PySem.Challenge.rw_askedatonce_k00_errors_of_questions_at_o.prog) (w := w) (K := K) (mg := mg) (base := base) (k := 0) (N := ["self", "part", "__class__"]) (ps := ["part"]) (t := tFs K [("part", 1)]) T (show NdefX.NScope ["self", "part", "__class__"] ["self", "part"] ["__class__"] (defScope I_BadFormat) from NdefX.nscope_by (by decide +kernel)) (by rfl) (fun L => by rfl) (fun L => by rfl) (fun A outer s H E => pss_cons (ps_ost (pe_var (i := 0) rfl (Or.inl rfl)) (pe_var (i := 1) rfl (Or.inl rfl))) (pss_nil))
  have no : ∀ p ∈ ([("part", 1)] : List (Str × Nat)), PySem.W.findIn K (.ref (ga K "BadFormat")) p.1 = some none := fun p hp => M.no p.1 (List.mem_map_of_mem (f := (·.1)) hp)
  have gg : mg "BadFormat" = some (.ref (ga K "BadFormat")) := glo_ok KX G (c.d.fact 12 (f := .glo "BadFormat") rfl)
  subst efd
  refine ⟨?_, ?_⟩
  · refine ⟨by decide, by decide, ga K "BadFormat", initAt K "BadFormat", _, ["self", "part", "__class__"], ["part"], (fun us ws => match us, ws with | [p0], [z0] => [p0, z0] | _, _ => []), (fun us ws => match us, ws with | [p0], [z0] => [p0, z0] | _, _ => []), F1, T.own, M.ini, M.tyI, ⟨fun s us ws _ l1 l2 => .of_eq (match us, ws, l1, l2 with | [_], [_], _, _ => rfl), fun {vs us zs ws} r1 r2 => by
      cases r1 with
      | nil => (first | exact .nil | (cases r2 <;> exact .nil))
      | cons x0 r1 =>
        cases r1 with
        | cons _ _ => exact .nil
        | nil =>
          cases r2 with
          | nil => exact .nil
          | cons y0 r2 =>
            cases r2 with
            | cons _ _ => exact .nil
            | nil => exact .cons x0 (.cons y0 .nil)⟩, gg, no, rfl, fun F a vs zs ds es h1 h2 r1 r2 => ?_⟩
    match ds, es, h1, h2, r1, r2 with | [], [e0], _, _, .nil, .cons c0 .nil => exact ⟨_, rfl, .cons c0 .nil⟩
  · refine ⟨by decide, by decide, ga K "BadFormat", initAt K "BadFormat", _, ["self", "part", "__class__"], ["part"], (fun us _ => us), (fun vs _ => vs), F1, T.own, M.ini, M.tyI, ⟨fun s us ws _ l1 _ => .of_eq (match us, l1 with | [_, _], _ => rfl), fun r1 _ => r1⟩, gg, no, rfl, fun F a vs zs ds es h1 h2 r1 r2 => ?_⟩
    match ds, es, h1, h2, r1, r2 with | [d0], [], _, _, .cons a0 .nil, .nil => exact ⟨_, rfl, .cons a0 .nil⟩
theorem xv_BadLoop (KX : K.In h) (G : h.Ns mainGlobals mg) (c : SaysV fa fn tf ex inits w h K) : XvB PySem.Challenge.rw_askedatonce_k00_errors_of_questions_at_o.prog w K mg base 1 "BadLoop" [("part", 1)] 0 ["part"] gD_BadLoop_0_part ∧ XvB PySem.Challenge.rw_askedatonce_k00_errors_of_questions_at_o.prog w K mg base 1 "BadLoop" [("part", 1)] 1 [] gD_BadLoop_1 := by
  have m := c.more
  have M := mor_ok (ex_at m 17 rfl)
  have T : SupF PySem.Challenge.rw_askedatonce_k00_errors_of_questions_at_o.prog K mg (ga K "BadLoop") (initAt K "BadLoop") (ExD.nf K ⟨"BadLoop", I_BadLoop⟩) := sup_ok (fs := ["part"]) (d := ⟨"BadLoop", I_BadLoop⟩) (c.init 5 (d := ⟨"BadLoop", I_BadLoop⟩) rfl) (ex_at m 18 rfl) (ex_at m 16 rfl) (ex_at m 17 rfl) (ex_at m 0 rfl) (free_ok KX G (c.d.fact 38 (f := .free "super") rfl)) (by decide +kernel) (by rfl) ⟨_, rfl, rfl⟩ (by decide +kernel)
  obtain ⟨fd, F1, oc, od, doc, pm, ct, osl, efd, lk⟩ := sup_init (CX := L2.CX PySem.Challenge.rw_askedatonce_k00_errors_of_questions_at_o.prog w) (P := PySem.Challenge.rw_askedatonce_k00_errors_of_questions_at_o.prog) (w := w) (K := K) (mg := mg) (base := base) (k := 0) (N := ["self", "part", "__class__"]) (ps := ["part"]) (t := tFs K [("part", 1)]) T (show NdefX.NScope ["self", "part", "__class__"] ["self", "part"] ["__class__"] (defScope I_BadLoop) from NdefX.nscope_by (by decide +kernel)) (by rfl) (fun L => by rfl) (fun L => by rfl) (fun A outer s H E => pss_cons (ps_ost (pe_var (i := 0) rfl (Or.inl rfl)) (pe_var (i := 1) rfl (Or.inl rfl))) (pss_nil))
  have no : ∀ p ∈ ([("part", 1)] : List (Str × Nat)), PySem.W.findIn K (.ref (ga K "BadLoop")) p.1 = some none := fun p hp => M.no p.1 (List.mem_map_of_mem (f := (·.1)) hp)
  have gg : mg "BadLoop" = some (.ref (ga K "BadLoop")) := glo_ok KX G (c.d.fact 13 (f := .glo "BadLoop") rfl)
  subst efd
  refine ⟨?_, ?_⟩
  · refine ⟨by decide, by decide, ga K "BadLoop", initAt K "BadLoop", _, ["self", "part", "__class__"], ["part"], (fun us ws => match us, ws with | [p0], [z0] => [p0, z0] | _, _ => []), (fun us ws => match us, ws with | [p0], [z0] => [p0, z0] | _, _ => []), F1, T.own, M.ini, M.tyI, ⟨fun s us ws _ l1 l2 => .of_eq (match us, ws, l1, l2 with | [_], [_], _, _ => rfl), fun {vs us zs ws} r1 r2 => by
      cases r1 with
      | nil => (first | exact .nil | (cases r2 <;> exact .nil))
      | cons x0 r1 =>
        cases r1 with
        | cons _ _ => exact .nil
        | nil =>
          cases r2 with
          | nil => exact .nil
          | cons y0 r2 =>
            cases r2 with
            | cons _ _ => exact .nil
            | nil => exact .cons x0 (.cons y0 .nil)⟩, gg, no, rfl, fun F a vs zs ds es h1 h2 r1 r2 => ?_⟩
    match ds, es, h1, h2, r1, r2 with | [], [e0], _, _, .nil, .cons c0 .nil => exact ⟨_, rfl, .cons c0 .nil⟩
  · refine ⟨by decide, by decide, ga K "BadLoop", initAt K "BadLoop", _, ["self", "part", "__class__"], ["part"], (fun us _ => us), (fun vs _ => vs), F1, T.own, M.ini, M.tyI, ⟨fun s us ws _ l1 _ => .of_eq (match us, l1 with | [_, _], _ => rfl), fun r1 _ => r1⟩, gg, no, rfl, fun F a vs zs ds es h1 h2 r1 r2 => ?_⟩
    match ds, es, h1, h2, r1, r2 with | [d0], [], _, _, .cons a0 .nil, .nil => exact ⟨_, rfl, .cons a0 .nil⟩
theorem xv_BadName (KX : K.In h) (G : h.Ns mainGlobals mg) (c : SaysV fa fn tf ex inits w h K) : XvB PySem.Challenge.rw_askedatonce_k00_errors_of_questions_at_o.prog w K mg base 1 "BadName" [("value", 1)] 0 ["value"] gD_BadName_0_value ∧ XvB PySem.Challenge.rw_askedatonce_k00_errors_of_questions_at_o.prog w K mg base 1 "BadName" [("value", 1)] 1 [] gD_BadName_1 := by
  have m := c.more
  have M := mor_ok (ex_at m 20 rfl)
  have T : SupF PySem.Challenge.rw_askedatonce_k00_errors_of_questions_at_o.prog K mg (ga K "BadName") (initAt K "BadName") (ExD.nf K ⟨"BadName", I_BadName⟩) := sup_ok (fs := ["value"]) (d := ⟨"BadName", I_BadName⟩) (c.init 6 (d := ⟨"BadName", I_BadName⟩) rfl) (ex_at m 21 rfl) (ex_at m 19 rfl) (ex_at m 20 rfl) (ex_at m 0 rfl) (free_ok KX G (c.d.fact 38 (f := .free "super") rfl)) (by decide +kernel) (by rfl) ⟨_, rfl, rfl⟩ (by decide +kernel)
  obtain ⟨fd, F1, oc, od, doc, pm, ct, osl, efd, lk⟩ := sup_init (CX := L2.CX PySem.Challenge.rw_askedatonce_k00_errors_of_questions_at_o.prog w) (P := PySem.Challenge.rw_askedatonce_k00_errors_of_questions_at_o.prog) (w := w) (K := K) (mg := mg) (base := base) (k := 0) (N := ["self", "value", "__class__"]) (ps := ["value"]) (t := tFs K [("value", 1)]) T (show NdefX.NScope ["self", "value", "__class__"] ["self", "value"] ["__class__"] (defScope I_BadName) from NdefX.nscope_by (by decide +kernel)) (by rfl) (fun L => by rfl) (fun L => by rfl) (fun A outer s H E => pss_cons (ps_ost (pe_var (i := 0) rfl (Or.inl rfl)) (pe_var (i := 1) rfl (Or.inl rfl))) (pss_nil))
  have no : ∀ p ∈ ([("value", 1)] : List (Str × Nat)), PySem.W.findIn K (.ref (ga K "BadName")) p.1 = some none := fun p hp => M.no p.1 (List.mem_map_of_mem (f := (·.1)) hp)
  have gg : mg "BadName" = some (.ref (ga K "BadName")) := glo_ok KX G (c.d.fact 14 (f := .glo "BadName") rfl)
  subst efd
  refine ⟨?_, ?_⟩
  · refine ⟨by decide, by decide, ga K "BadName", initAt K "BadName", _, ["self", "value", "__class__"], ["value"], (fun us ws => match us, ws with | [p0], [z0] => [p0, z0] | _, _ => []), (fun us ws => match us, ws with | [p0], [z0] => [p0, z0] | _, _ => []), F1, T.own, M.ini, M.tyI, ⟨fun s us ws _ l1 l2 => .of_eq (match us, ws, l1, l2 with | [_], [_], _, _ => rfl), fun {vs us zs ws} r1 r2 => by
      cases r1 with
      | nil => (first | exact .nil | (cases r2 <;> exact .nil))
      | cons x0 r1 =>
        cases r1 with
        | cons _ _ => exact .nil
        | nil =>
          cases r2 with
          | nil => exact .nil
          | cons y0 r2 =>
            cases r2 with
            | cons _ _ => exact .nil
            | nil => exact .cons x0 (.cons y0 .nil)⟩, gg, no, rfl, fun F a vs zs ds es h1 h2 r1 r2 => ?_⟩
    match ds, es, h1, h2, r1, r2 with | [], [e0], _, _, .nil, .cons c0 .nil => exact ⟨_, rfl, .cons c0 .nil⟩
  · refine ⟨by decide, by decide, ga K "BadName", initAt K "BadName", _, ["self", "value", "__class__"], ["value"], (fun us _ => us), (fun vs _ => vs), F1, T.own, M.ini, M.tyI, ⟨fun s us ws _ l1 _ => .of_eq (match us, l1 with | [_, _], _ => rfl), fun r1 _ => r1⟩, gg, no, rfl, fun F a vs zs ds es h1 h2 r1 r2 => ?_⟩
    match ds, es, h1, h2, r1, r2 with | [d0], [], _, _, .cons a0 .nil, .nil => exact ⟨_, rfl, .cons a0 .nil⟩
theorem xv_BadNumber (KX : K.In h) (G : h.Ns mainGlobals mg) (c : SaysV fa fn tf ex inits w h K) : XvB PySem.Challenge.rw_askedatonce_k00_errors_of_questions_at_o.prog w K mg base 1 "BadNumber" [("part", 1)] 0 ["part"] gD_BadNumber_0_part ∧ XvB PySem.Challenge.rw_askedatonce_k00_errors_of_questions_at_o.prog w K mg base 1 "BadNumber" [("part", 1)] 1 [] gD_BadNumber_1 := by
  have m := c.more
  have M := mor_ok (ex_at m 23 rfl)
  have T : SupF PySem.Challenge.rw_askedatonce_k00_errors_of_questions_at_o.prog K mg (ga K "BadNumber") (initAt K "BadNumber") (ExD.nf K ⟨"BadNumber", I_BadNumber⟩) := sup_ok (fs := ["part"]) (d := ⟨"BadNumber", I_BadNumber⟩) (c.init 7 (d := ⟨"BadNumber", I_BadNumber⟩) rfl) (ex_at m 24 rfl) (ex_at m 22 rfl) (ex_at m 23 rfl) (ex_at m 0 rfl) (free_ok KX G (c.d.fact 38 (f := .free "super") rfl)) (by decide +kernel) (by rfl) ⟨_, rfl, rfl⟩ (by decide +kernel)
  obtain ⟨fd, F1, oc, od, doc, pm, ct, osl, efd, lk⟩ := sup_init (CX := L2.CX PySem.Challenge.rw_askedatonce_k00_errors_of_questions_at_o.prog w) (P := PySem.Challenge.rw_askedatonce_k00_errors_of_questions_at_o.prog) (w := w) (K := K) (mg := mg) (base := base) (k := 0) (N := ["self", "part", "__class__"]) (ps := ["part"]) (t := tFs K [("part", 1)]) T (show NdefX.NScope ["self", "part", "__class__"] ["self", "part"] ["__class__"] (defScope I_BadNumber) from NdefX.nscope_by (by decide +kernel)) (by rfl) (fun L => by rfl) (fun L => by rfl) (fun A outer s H E => pss_cons (ps_ost (pe_var (i := 0) rfl (Or.inl rfl)) (pe_var (i := 1) rfl (Or.inl rfl))) (pss_nil))
  have no : ∀ p ∈ ([("part", 1)] : List (Str × Nat)), PySem.W.findIn K (.ref (ga K "BadNumber")) p.1 = some none := fun p hp => M.no p.1 (List.mem_map_of_mem (f := (·.1)) hp)
  have gg : mg "BadNumber" = some (.ref (ga K "BadNumber")) := glo_ok KX G (c.d.fact 15 (f := .glo "BadNumber") rfl)
  subst efd
  refine ⟨?_, ?_⟩
  · refine ⟨by decide, by decide, ga K "BadNumber", initAt K "BadNumber", _, ["self", "part", "__class__"], ["part"], (fun us ws => match us, ws with | [p0], [z0] => [p0, z0] | _, _ => []), (fun us ws => match us, ws with | [p0], [z0] => [p0, z0] | _, _ => []), F1, T.own, M.ini, M.tyI, ⟨fun s us ws _ l1 l2 => .of_eq (match us, ws, l1, l2 with | [_], [_], _, _ => rfl), fun {vs us zs ws} r1 r2 => by
      cases r1 with
      | nil => (first | exact .nil | (cases r2 <;> exact .nil))
      | cons x0 r1 =>
        cases r1 with
        | cons _ _ => exact .nil
        | nil =>
          cases r2 with
          | nil => exact .nil
          | cons y0 r2 =>
            cases r2 with
            | cons _ _ => exact .nil
            | nil => exact .cons x0 (.cons y0 .nil)⟩, gg, no, rfl, fun F a vs zs ds es h1 h2 r1 r2 => ?_⟩
    match ds, es, h1, h2, r1, r2 with | [], [e0], _, _, .nil, .cons c0 .nil => exact ⟨_, rfl, .cons c0 .nil⟩
  · refine ⟨by decide, by decide, ga K "BadNumber", initAt K "BadNumber", _, ["self", "part", "__class__"], ["part"], (fun us _ => us), (fun vs _ => vs), F1, T.own, M.ini, M.tyI, ⟨fun s us ws _ l1 _ => .of_eq (match us, l1 with | [_, _], _ => rfl), fun r1 _ => r1⟩, gg, no, rfl, fun F a vs zs ds es h1 h2 r1 r2 => ?_⟩
    match ds, es, h1, h2, r1, r2 with | [d0], [], _, _, .cons a0 .nil, .nil => exact ⟨_, rfl, .cons a0 .nil⟩
theorem xv_BadPrices (KX : K.In h) (G : h.Ns mainGlobals mg) (c : SaysV fa fn tf ex inits w h K) : XvB PySem.Challenge.rw_askedatonce_k00_errors_of_questions_at_o.prog w K mg base 1 "BadPrices" [("part", 1)] 0 ["part"] gD_BadPrices_0_part ∧ XvB PySem.Challenge.rw_askedatonce_k00_errors_of_questions_at_o.prog w K mg base 1 "BadPrices" [("part", 1)] 1 [] gD_BadPrices_1 := by
  have m := c.more
  have M := mor_ok (ex_at m 26 rfl)
  have T : SupF PySem.Challenge.rw_askedatonce_k00_errors_of_questions_at_o.prog K mg (ga K "BadPrices") (initAt K "BadPrices") (ExD.nf K ⟨"BadPrices", I_BadPrices⟩) := sup_ok (fs := ["part"]) (d := ⟨"BadPrices", I_BadPrices⟩) (c.init 8 (d := ⟨"BadPrices", I_BadPrices⟩) rfl) (ex_at m 27 rfl) (ex_at m 25 rfl) (ex_at m 26 rfl) (ex_at m 0 rfl) (free_ok KX G (c.d.fact 38 (f := .free "super") rfl)) (by decide +kernel) (by rfl) ⟨_, rfl, rfl⟩ (by decide +kernel)
  obtain ⟨fd, F1, oc, od, doc, pm, ct, osl, efd, lk⟩ := sup_init (CX := L2.CX PySem.Challenge.rw_askedatonce_k00_errors_of_questions_at_o.prog w) (P := PySem.Challenge.rw_askedatonce_k00_errors_of_questions_at_o.prog) (w := w) (K := K) (mg := mg) (base := base) (k := 0) (N := ["self", "part", "__class__"]) (ps := ["part"]) (t := tFs K [("part", 1)]) T (show NdefX.NScope ["self", "part", "__class__"] ["self", "part"] ["__class__"] (defScope I_BadPrices) from NdefX.nscope_by (by decide +kernel)) (by rfl) (fun L => by rfl) (fun L => by rfl) (fun A outer s H E => pss_cons (ps_ost (pe_var (i := 0) rfl (Or.inl rfl)) (pe_var (i := 1) rfl (Or.inl rfl))) (pss_nil))
  have no : ∀ p ∈ ([("part", 1)] : List (Str × Nat)), PySem.W.findIn K (.ref (ga K "BadPrices")) p.1 = some none := fun p hp => M.no p.1 (List.mem_map_of_mem (f := (·.1)) hp)
  have gg : mg "BadPrices" = some (.ref (ga K "BadPrices")) := glo_ok KX G (c.d.fact 16 (f := .glo "BadPrices") rfl)
  subst efd
  refine ⟨?_, ?_⟩
  · refine ⟨by decide, by decide, ga K "BadPrices", initAt K "BadPrices", _, ["self", "part", "__class__"], ["part"], (fun us ws => match us, ws with | [p0], [z0] => [p0, z0] | _, _ => []), (fun us ws => match us, ws with | [p0], [z0] => [p0, z0] | _, _ => []), F1, T.own, M.ini, M.tyI, ⟨fun s us ws _ l1 l2 => .of_eq (match us, ws, l1, l2 with | [_], [_], _, _ => rfl), fun {vs us zs ws} r1 r2 => by
      cases r1 with
      | nil => (first | exact .nil | (cases r2 <;> exact .nil))
      | cons x0 r1 =>
        cases r1 with
        | cons _ _ => exact .nil
        | nil =>
          cases r2 with
          | nil => exact .nil
          | cons y0 r2 =>
            cases r2 with
            | cons _ _ => exact .nil
            | nil => exact .cons x0 (.cons y0 .nil)⟩, gg, no, rfl, fun F a vs zs ds es h1 h2 r1 r2 => ?_⟩
    match ds, es, h1, h2, r1, r2 with | [], [e0], _, _, .nil, .cons c0 .nil => exact ⟨_, rfl, .cons c0 .nil⟩
  · refine ⟨by decide, by decide, ga K "BadPrices", initAt K "BadPrices", _, ["self", "part", "__class__"], ["part"], (fun us _ => us), (fun vs _ => vs), F1, T.own, M.ini, M.tyI, ⟨fun s us ws _ l1 _ => .of_eq (match us, l1 with | [_, _], _ => rfl), fun r1 _ => r1⟩, gg, no, rfl, fun F a vs zs ds es h1 h2 r1 r2 => ?_⟩
    match ds, es, h1, h2, r1, r2 with | [d0], [], _, _, .cons a0 .nil, .nil => exact ⟨_, rfl, .cons a0 .nil⟩
theorem xv_BadProgram (KX : K.In h) (G : h.Ns mainGlobals mg) (c : SaysV fa fn tf ex inits w h K) : XvB PySem.Challenge.rw_askedatonce_k00_errors_of_questions_at_o.prog w K mg base 1 "BadProgram" [("part", 1)] 0 ["part"] gD_BadProgram_0_part ∧ XvB PySem.Challenge.rw_askedatonce_k00_errors_of_questions_at_o.prog w K mg base 1 "BadProgram" [("part", 1)] 1 [] gD_BadProgram_1 := by
  have m := c.more
  have M := mor_ok (ex_at m 29 rfl)
  have T : SupF PySem.Challenge.rw_askedatonce_k00_errors_of_questions_at_o.prog K mg (ga K "BadProgram") (initAt K "BadProgram") (ExD.nf K ⟨"BadProgram", I_BadProgram⟩) := sup_ok (fs := ["part"]) (d := ⟨"BadProgram", I_BadProgram⟩) (c.init 9 (d := ⟨"BadProgram", I_BadProgram⟩) rfl) (ex_at m 30 rfl) (ex_at m 28 rfl) (ex_at m 29 rfl) (ex_at m 0 rfl) (free_ok KX G (c.d.fact 38 (f := .free "super") rfl)) (by decide +kernel) (by rfl) ⟨_, rfl, rfl⟩ (by decide +kernel)
  obtain ⟨fd, F1, oc, od, doc, pm, ct, osl, efd, lk⟩ := sup_init (CX := L2.CX PySem.Challenge.rw_askedatonce_k00_errors_of_questions_at_o.prog w) (P := PySem.Challenge.rw_askedatonce_k00_errors_of_questions_at_o.prog) (w := w) (K := K) (mg := mg) (base := base) (k := 0) (N := ["self", "part", "__class__"]) (ps := ["part"]) (t := tFs K [("part", 1)]) T (show NdefX.NScope ["self", "part", "__class__"] ["self", "part"] ["__class__"] (defScope I_BadProgram) from NdefX.nscope_by (by decide +kernel)) (by rfl) (fun L => by rfl) (fun L => by rfl) (fun A outer s H E => pss_cons (ps_ost (pe_var (i := 0) rfl (Or.inl rfl)) (pe_var (i := 1) rfl (Or.inl rfl))) (pss_nil))
  have no : ∀ p ∈ ([("part", 1)] : List (Str × Nat)), PySem.W.findIn K (.ref (ga K "BadProgram")) p.1 = some none := fun p hp => M.no p.1 (List.mem_map_of_mem (f := (·.1)) hp)
  have gg : mg "BadProgram" = some (.ref (ga K "BadProgram")) := glo_ok KX G (c.d.fact 17 (f := .glo "BadProgram") rfl)
  subst efd
  refine ⟨?_, ?_⟩
  · refine ⟨by decide, by decide, ga K "BadProgram", initAt K "BadProgram", _, ["self", "part", "__class__"], ["part"], (fun us ws => match us, ws with | [p0], [z0] => [p0, z0] | _, _ => []), (fun us ws => match us, ws with | [p0], [z0] => [p0, z0] | _, _ => []), F1, T.own, M.ini, M.tyI, ⟨fun s us ws _ l1 l2 => .of_eq (match us, ws, l1, l2 with | [_], [_], _, _ => rfl), fun {vs us zs ws} r1 r2 => by
      cases r1 with
      | nil => (first | exact .nil | (cases r2 <;> exact .nil))
      | cons x0 r1 =>
        cases r1 with
        | cons _ _ => exact .nil
        | nil =>
          cases r2 with
          | nil => exact .nil
          | cons y0 r2 =>
            cases r2 with
            | cons _ _ => exact .nil
            | nil => exact .cons x0 (.cons y0 .nil)⟩, gg, no, rfl, fun F a vs zs ds es h1 h2 r1 r2 => ?_⟩
    match ds, es, h1, h2, r1, r2 with | [], [e0], _, _, .nil, .cons c0 .nil => exact ⟨_, rfl, .cons c0 .nil⟩
  · refine ⟨by decide, by decide, ga K "BadProgram", initAt K "BadProgram", _, ["self", "part", "__class__"], ["part"], (fun us _ => us), (fun vs _ => vs), F1, T.own, M.ini, M.tyI, ⟨fun s us ws _ l1 _ => .of_eq (match us, l1 with | [_, _], _ => rfl), fun r1 _ => r1⟩, gg, no, rfl, fun F a vs zs ds es h1 h2 r1 r2 => ?_⟩
    match ds, es, h1, h2, r1, r2 with | [d0], [], _, _, .cons a0 .nil, .nil => exact ⟨_, rfl, .cons a0 .nil⟩
theorem xv_BadRoot (KX : K.In h) (G : h.Ns mainGlobals mg) (c : SaysV fa fn tf ex inits w h K) : XvB PySem.Challenge.rw_askedatonce_k00_errors_of_questions_at_o.prog w K mg base 1 "BadRoot" [("part", 1)] 0 ["part"] gD_BadRoot_0_part ∧ XvB PySem.Challenge.rw_askedatonce_k00_errors_of_questions_at_o.prog w K mg base 1 "BadRoot" [("part", 1)] 1 [] gD_BadRoot_1 := by
  have m := c.more
  have M := mor_ok (ex_at m 32 rfl)
  have T : SupF PySem.Challenge.rw_askedatonce_k00_errors_of_questions_at_o.prog K mg (ga K "BadRoot") (initAt K "BadRoot") (ExD.nf K ⟨"BadRoot", I_BadRoot⟩) := sup_ok (fs := ["part"]) (d := ⟨"BadRoot", I_BadRoot⟩) (c.init 10 (d := ⟨"BadRoot", I_BadRoot⟩) rfl) (ex_at m 33 rfl) (ex_at m 31 rfl) (ex_at m 32 rfl) (ex_at m 0 rfl) (free_ok KX G (c.d.fact 38 (f := .free "super") rfl)) (by decide +kernel) (by rfl) ⟨_, rfl, rfl⟩ (by decide +kernel)
  obtain ⟨fd, F1, oc, od, doc, pm, ct, osl, efd, lk⟩ := sup_init (CX := L2.CX PySem.Challenge.rw_askedatonce_k00_errors_of_questions_at_o.prog w) (P := PySem.Challenge.rw_askedatonce_k00_errors_of_questions_at_o.prog) (w := w) (K := K) (mg := mg) (base := base) (k := 0) (N := ["self", "part", "__class__"]) (ps := ["part"]) (t := tFs K [("part", 1)]) T (show NdefX.NScope ["self", "part", "__class__"] ["self", "part"] ["__class__"] (defScope I_BadRoot) from NdefX.nscope_by (by decide +kernel)) (by rfl) (fun L => by rfl) (fun L => by rfl) (fun A outer s H E => pss_cons (ps_ost (pe_var (i := 0) rfl (Or.inl rfl)) (pe_var (i := 1) rfl (Or.inl rfl))) (pss_nil))
  have no : ∀ p ∈ ([("part", 1)] : List (Str × Nat)), PySem.W.findIn K (.ref (ga K "BadRoot")) p.1 = some none := fun p hp => M.no p.1 (List.mem_map_of_mem (f := (·.1)) hp)
  have gg : mg "BadRoot" = some (.ref (ga K "BadRoot")) := glo_ok KX G (c.d.fact 18 (f := .glo "BadRoot") rfl)
  subst efd
  refine ⟨?_, ?_⟩
  · refine ⟨by decide, by decide, ga K "BadRoot", initAt K "BadRoot", _, ["self", "part", "__class__"], ["part"], (fun us ws => match us, ws with | [p0], [z0] => [p0, z0] | _, _ => []), (fun us ws => match us, ws with | [p0], [z0] => [p0, z0] | _, _ => []), F1, T.own, M.ini, M.tyI, ⟨fun s us ws _ l1 l2 => .of_eq (match us, ws, l1, l2 with | [_], [_], _, _ => rfl), fun {vs us zs ws} r1 r2 => by
      cases r1 with
      | nil => (first | exact .nil | (cases r2 <;> exact .nil))
      | cons x0 r1 =>
        cases r1 with
        | cons _ _ => exact .nil
        | nil =>
          cases r2 with
          | nil => exact .nil
          | cons y0 r2 =>
            cases r2 with
            | cons _ _ => exact .nil
            | nil => exact .cons x0 (.cons y0 .nil)⟩, gg, no, rfl, fun F a vs zs ds es h1 h2 r1 r2 => ?_⟩
    match ds, es, h1, h2, r1, r2 with | [], [e0], _, _, .nil, .cons c0 .nil => exact ⟨_, rfl, .cons c0 .nil⟩
  · refine ⟨by decide, by decide, ga K "BadRoot", initAt K "BadRoot", _, ["self", "part", "__class__"], ["part"], (fun us _ => us), (fun vs _ => vs), F1, T.own, M.ini, M.tyI, ⟨fun s us ws _ l1 _ => .of_eq (match us, l1 with | [_, _], _ => rfl), fun r1 _ => r1⟩, gg, no, rfl, fun F a vs zs ds es h1 h2 r1 r2 => ?_⟩
    match ds, es, h1, h2, r1, r2 with | [d0], [], _, _, .cons a0 .nil, .nil => exact ⟨_, rfl, .cons a0 .nil⟩
theorem xv_BadTable (KX : K.In h) (G : h.Ns mainGlobals mg) (c : SaysV fa fn tf ex inits w h K) : XvB PySem.Challenge.rw_askedatonce_k00_errors_of_questions_at_o.prog w K mg base 1 "BadTable" [("part", 1)] 0 ["part"] gD_BadTable_0_part ∧ XvB PySem.Challenge.rw_askedatonce_k00_errors_of_questions_at_o.prog w K mg base 1 "BadTable" [("part", 1)] 1 [] gD_BadTable_1 := by
  have m := c.more
  have M := mor_ok (ex_at m 35 rfl)
  have T : SupF PySem.Challenge.rw_askedatonce_k00_errors_of_questions_at_o.prog K mg (ga K "BadTable") (initAt K "BadTable") (ExD.nf K ⟨"BadTable", I_BadTable⟩) := sup_ok (fs := ["part"]) (d := ⟨"BadTable", I_BadTable⟩) (c.init 11 (d := ⟨"BadTable", I_BadTable⟩) rfl) (ex_at m 36 rfl) (ex_at m 34 rfl) (ex_at m 35 rfl) (ex_at m 0 rfl) (free_ok KX G (c.d.fact 38 (f := .free "super") rfl)) (by decide +kernel) (by rfl) ⟨_, rfl, rfl⟩ (by decide +kernel)
  obtain ⟨fd, F1, oc, od, doc, pm, ct, osl, efd, lk⟩ := sup_init (CX := L2.CX PySem.Challenge.rw_askedatonce_k00_errors_of_questions_at_o.prog w) (P := PySem.Challenge.rw_askedatonce_k00_errors_of_questions_at_o.prog) (w := w) (K := K) (mg := mg) (base := base) (k := 0) (N := ["self", "part", "__class__"]) (ps := ["part"]) (t := tFs K [("part", 1)]) T (show NdefX.NScope ["self", "part", "__class__"] ["self", "part"] ["__class__"] (defScope I_BadTable) from NdefX.nscope_by (by decide +kernel)) (by rfl) (fun L => by rfl) (fun L => by rfl) (fun A outer s H E => pss_cons (ps_ost (pe_var (i := 0) rfl (Or.inl rfl)) (pe_var (i := 1) rfl (Or.inl rfl))) (pss_nil))
  have no : ∀ p ∈ ([("part", 1)] : List (Str × Nat)), PySem.W.findIn K (.ref (ga K "BadTable")) p.1 = some none := fun p hp => M.no p.1 (List.mem_map_of_mem (f := (·.1)) hp)
  have gg : mg "BadTable" = some (.ref (ga K "BadTable")) := glo_ok KX G (c.d.fact 19 (f := .glo "BadTable") rfl)
  subst efd
  refine ⟨?_, ?_⟩
  · refine ⟨by decide, by decide, ga K "BadTable", initAt K "BadTable", _, ["self", "part", "__class__"], ["part"], (fun us ws => match us, ws with | [p0], [z0] => [p0, z0] | _, _ => []), (fun us ws => match us, ws with | [p0], [z0] => [p0, z0] | _, _ => []), F1, T.own, M.ini, M.tyI, ⟨fun s us ws _ l1 l2 => .of_eq (match us, ws, l1, l2 with | [_], [_], _, _ => rfl), fun {vs us zs ws} r1 r2 => by
      cases r1 with
      | nil => (first | exact .nil | (cases r2 <;> exact .nil))
      | cons x0 r1 =>
        cases r1 with
        | cons _ _ => exact .nil
        | nil =>
          cases r2 with
          | nil => exact .nil
          | cons y0 r2 =>
            cases r2 with
            | cons _ _ => exact .nil
            | nil => exact .cons x0 (.cons y0 .nil)⟩, gg, no, rfl, fun F a vs zs ds es h1 h2 r1 r2 => ?_⟩
    match ds, es, h1, h2, r1, r2 with | [], [e0], _, _, .nil, .cons c0 .nil => exact ⟨_, rfl, .cons c0 .nil⟩
  · refine ⟨by decide, by decide, ga K "BadTable", initAt K "BadTable", _, ["self", "part", "__class__"], ["part"], (fun us _ => us), (fun vs _ => vs), F1, T.own, M.ini, M.tyI, ⟨fun s us ws _ l1 _ => .of_eq (match us, l1 with | [_, _], _ => rfl), fun r1 _ => r1⟩, gg, no, rfl, fun F a vs zs ds es h1 h2 r1 r2 => ?_⟩
    match ds, es, h1, h2, r1, r2 with | [d0], [], _, _, .cons a0 .nil, .nil => exact ⟨_, rfl, .cons a0 .nil⟩
theorem xv_BadText (KX : K.In h) (G : h.Ns mainGlobals mg) (c : SaysV fa fn tf ex inits w h K) : XvB PySem.Challenge.rw_askedatonce_k00_errors_of_questions_at_o.prog w K mg base 1 "BadText" [("line", 1), ("word", 2)] 0 ["word", "line"] gD_BadText_0_word_line ∧ XvB PySem.Challenge.rw_askedatonce_k00_errors_of_questions_at_o.prog w K mg base 1 "BadText" [("line", 1), ("word", 2)] 2 [] gD_BadText_2 := by
  have m := c.more
  have M := mor_ok (ex_at m 38 rfl)
  have T : SupF PySem.Challenge.rw_askedatonce_k00_errors_of_questions_at_o.prog K mg (ga K "BadText") (initAt K "BadText") (ExD.nf K ⟨"BadText", I_BadText⟩) := sup_ok (fs := ["line", "word"]) (d := ⟨"BadText", I_BadText⟩) (c.init 12 (d := ⟨"BadText", I_BadText⟩) rfl) (ex_at m 39 rfl) (ex_at m 37 rfl) (ex_at m 38 rfl) (ex_at m 0 rfl) (free_ok KX G (c.d.fact 38 (f := .free "super") rfl)) (by decide +kernel) (by rfl) ⟨_, rfl, rfl⟩ (by decide +kernel)
  obtain ⟨fd, F1, oc, od, doc, pm, ct, osl, efd, lk⟩ := sup_init (CX := L2.CX PySem.Challenge.rw_askedatonce_k00_errors_of_questions_at_o.prog w) (P := PySem.Challenge.rw_askedatonce_k00_errors_of_questions_at_o.prog) (w := w) (K := K) (mg := mg) (base := base) (k := 0) (N := ["self", "line", "word", "__class__"]) (ps := ["line", "word"]) (t := tFs K [("line", 1), ("word", 2)]) T (show NdefX.NScope ["self", "line", "word", "__class__"] ["self", "line", "word"] ["__class__"] (defScope I_BadText) from NdefX.nscope_by (by decide +kernel)) (by rfl) (fun L => by rfl) (fun L => by rfl) (fun A outer s H E => pss_cons (ps_ost (pe_var (i := 0) rfl (Or.inl rfl)) (pe_var (i := 1) rfl (Or.inl rfl))) (pss_cons (ps_ost (pe_var (i := 0) rfl (Or.inl rfl)) (pe_var (i := 2) rfl (Or.inl rfl))) (pss_nil)))
  have no : ∀ p ∈ ([("line", 1), ("word", 2)] : List (Str × Nat)), PySem.W.findIn K (.ref (ga K "BadText")) p.1 = some none := fun p hp => M.no p.1 (List.mem_map_of_mem (f := (·.1)) hp)
  have gg : mg "BadText" = some (.ref (ga K "BadText")) := glo_ok KX G (c.d.fact 20 (f := .glo "BadText") rfl)
  subst efd
  refine ⟨?_, ?_⟩
  · refine ⟨by decide, by decide, ga K "BadText", initAt K "BadText", _, ["self", "line", "word", "__class__"], ["line", "word"], (fun us ws => match us, ws with | [p0], [z0, z1] => [p0, z1, z0] | _, _ => []), (fun us ws => match us, ws with | [p0], [z0, z1] => [p0, z1, z0] | _, _ => []), F1, T.own, M.ini, M.tyI, ⟨fun s us ws _ l1 l2 => .of_eq (match us, ws, l1, l2 with | [_], [_, _], _, _ => rfl), fun {vs us zs ws} r1 r2 => by
      cases r1 with
      | nil => (first | exact .nil | (cases r2 <;> exact .nil))
      | cons x0 r1 =>
        cases r1 with
        | cons _ _ => exact .nil
        | nil =>
          cases r2 with
          | nil => exact .nil
          | cons y0 r2 =>
            cases r2 with
            | nil => exact .nil
            | cons y1 r2 =>
              cases r2 with
              | cons _ _ => exact .nil
              | nil => exact .cons x0 (.cons y1 (.cons y0 .nil))⟩, gg, no, rfl, fun F a vs zs ds es h1 h2 r1 r2 => ?_⟩
    match ds, es, h1, h2, r1, r2 with | [], [e0, e1], _, _, .nil, .cons c0 (.cons c1 .nil) => exact ⟨_, rfl, .cons c1 (.cons c0 .nil)⟩
  · refine ⟨by decide, by decide, ga K "BadText", initAt K "BadText", _, ["self", "line", "word", "__class__"], ["line", "word"], (fun us _ => us), (fun vs _ => vs), F1, T.own, M.ini, M.tyI, ⟨fun s us ws _ l1 _ => .of_eq (match us, l1 with | [_, _, _], _ => rfl), fun r1 _ => r1⟩, gg, no, rfl, fun F a vs zs ds es h1 h2 r1 r2 => ?_⟩
    match ds, es, h1, h2, r1, r2 with | [d0, d1], [], _, _, .cons a0 (.cons a1 .nil), .nil => exact ⟨_, rfl, .cons a0 (.cons a1 .nil)⟩
theorem xv_BadValues (KX : K.In h) (G : h.Ns mainGlobals mg) (c : SaysV fa fn tf ex inits w h K) : XvB PySem.Challenge.rw_askedatonce_k00_errors_of_questions_at_o.prog w K mg base 1 "BadValues" [("name", 1)] 0 ["name"] gD_BadValues_0_name ∧ XvB PySem.Challenge.rw_askedatonce_k00_errors_of_questions_at_o.prog w K mg base 1 "BadValues" [("name", 1)] 1 [] gD_BadValues_1 := by
  have m := c.more
  have M := mor_ok (ex_at m 41 rfl)
  have T : SupF PySem.Challenge.rw_askedatonce_k00_errors_of_questions_at_o.prog K mg (ga K "BadValues") (initAt K "BadValues") (ExD.nf K ⟨"BadValues", I_BadValues⟩) := sup_ok (fs := ["name"]) (d := ⟨"BadValues", I_BadValues⟩) (c.init 13 (d := ⟨"BadValues", I_BadValues⟩) rfl) (ex_at m 42 rfl) (ex_at m 40 rfl) (ex_at m 41 rfl) (ex_at m 0 rfl) (free_ok KX G (c.d.fact 38 (f := .free "super") rfl)) (by decide +kernel) (by rfl) ⟨_, rfl, rfl⟩ (by decide +kernel)
  obtain ⟨fd, F1, oc, od, doc, pm, ct, osl, efd, lk⟩ := sup_init (CX := L2.CX PySem.Challenge.rw_askedatonce_k00_errors_of_questions_at_o.prog w) (P := PySem.Challenge.rw_askedatonce_k00_errors_of_questions_at_o.prog) (w := w) (K := K) (mg := mg) (base := base) (k := 0) (N := ["self", "name", "__class__"]) (ps := ["name"]) (t := tFs K [("name", 1)]) T (show NdefX.NScope ["self", "name", "__class__"] ["self", "name"] ["__class__"] (defScope I_BadValues) from NdefX.nscope_by (by decide +kernel)) (by rfl) (fun L => by rfl) (fun L => by rfl) (fun A outer s H E => pss_cons (ps_ost (pe_var (i := 0) rfl (Or.inl rfl)) (pe_var (i := 1) rfl (Or.inl rfl))) (pss_nil))
  have no : ∀ p ∈ ([("name", 1)] : List (Str × Nat)), PySem.W.findIn K (.ref (ga K "BadValues")) p.1 = some none := fun p hp => M.no p.1 (List.mem_map_of_mem (f := (·.1)) hp)
  have gg : mg "BadValues" = some (.ref (ga K "BadValues")) := glo_ok KX G (c.d.fact 21 (f := .glo "BadValues") rfl)
  subst efd
  refine ⟨?_, ?_⟩
  · refine ⟨by decide, by decide, ga K "BadValues", initAt K "BadValues", _, ["self", "name", "__class__"], ["name"], (fun us ws => match us, ws with | [p0], [z0] => [p0, z0] | _, _ => []), (fun us ws => match us, ws with | [p0], [z0] => [p0, z0] | _, _ => []), F1, T.own, M.ini, M.tyI, ⟨fun s us ws _ l1 l2 => .of_eq (match us, ws, l1, l2 with | [_], [_], _, _ => rfl), fun {vs us zs ws} r1 r2 => by
      cases r1 with
      | nil => (first | exact .nil | (cases r2 <;> exact .nil))
      | cons x0 r1 =>
        cases r1 with
        | cons _ _ => exact .nil
        | nil =>
          cases r2 with
          | nil => exact .nil
          | cons y0 r2 =>
            cases r2 with
            | cons _ _ => exact .nil
            | nil => exact .cons x0 (.cons y0 .nil)⟩, gg, no, rfl, fun F a vs zs ds es h1 h2 r1 r2 => ?_⟩
    match ds, es, h1, h2, r1, r2 with | [], [e0], _, _, .nil, .cons c0 .nil => exact ⟨_, rfl, .cons c0 .nil⟩
  · refine ⟨by decide, by decide, ga K "BadValues", initAt K "BadValues", _, ["self", "name", "__class__"], ["name"], (fun us _ => us), (fun vs _ => vs), F1, T.own, M.ini, M.tyI, ⟨fun s us ws _ l1 _ => .of_eq (match us, l1 with | [_, _], _ => rfl), fun r1 _ => r1⟩, gg, no, rfl, fun F a vs zs ds es h1 h2 r1 r2 => ?_⟩
    match ds, es, h1, h2, r1, r2 with | [d0], [], _, _, .cons a0 .nil, .nil => exact ⟨_, rfl, .cons a0 .nil⟩
theorem xv_BadWay (KX : K.In h) (G : h.Ns mainGlobals mg) (c : SaysV fa fn tf ex inits w h K) : XvB PySem.Challenge.rw_askedatonce_k00_errors_of_questions_at_o.prog w K mg base 1 "BadWay" [("value", 1)] 0 ["value"] gD_BadWay_0_value ∧ XvB PySem.Challenge.rw_askedatonce_k00_errors_of_questions_at_o.prog w K mg base 1 "BadWay" [("value", 1)] 1 [] gD_BadWay_1 := by
  have m := c.more
  have M := mor_ok (ex_at m 44 rfl)
  have T : SupF PySem.Challenge.rw_askedatonce_k00_errors_of_questions_at_o.prog K mg (ga K "BadWay") (initAt K "BadWay") (ExD.nf K ⟨"BadWay", I_BadWay⟩) := sup_ok (fs := ["value"]) (d := ⟨"BadWay", I_BadWay⟩) (c.init 14 (d := ⟨"BadWay", I_BadWay⟩) rfl) (ex_at m 45 rfl) (ex_at m 43 rfl) (ex_at m 44 rfl) (ex_at m 0 rfl) (free_ok KX G (c.d.fact 38 (f := .free "super") rfl)) (by decide +kernel) (by rfl) ⟨_, rfl, rfl⟩ (by decide +kernel)
  obtain ⟨fd, F1, oc, od, doc, pm, ct, osl, efd, lk⟩ := sup_init (CX := L2.CX PySem.Challenge.rw_askedatonce_k00_errors_of_questions_at_o.prog w) (P := PySem.Challenge.rw_askedatonce_k00_errors_of_questions_at_o.prog) (w := w) (K := K) (mg := mg) (base := base) (k := 0) (N := ["self", "value", "__class__"]) (ps := ["value"]) (t := tFs K [("value", 1)]) T (show NdefX.NScope ["self", "value", "__class__"] ["self", "value"] ["__class__"] (defScope I_BadWay) from NdefX.nscope_by (by decide +kernel)) (by rfl) (fun L => by rfl) (fun L => by rfl) (fun A outer s H E => pss_cons (ps_ost (pe_var (i := 0) rfl (Or.inl rfl)) (pe_var (i := 1) rfl (Or.inl rfl))) (pss_nil))
  have no : ∀ p ∈ ([("value", 1)] : List (Str × Nat)), PySem.W.findIn K (.ref (ga K "BadWay")) p.1 = some none := fun p hp => M.no p.1 (List.mem_map_of_mem (f := (·.1)) hp)
  have gg : mg "BadWay" = some (.ref (ga K "BadWay")) := glo_ok KX G (c.d.fact 22 (f := .glo "BadWay") rfl)
  subst efd
  refine ⟨?_, ?_⟩
  · refine ⟨by decide, by decide, ga K "BadWay", initAt K "BadWay", _, ["self", "value", "__class__"], ["value"], (fun us ws => match us, ws with | [p0], [z0] => [p0, z0] | _, _ => []), (fun us ws => match us, ws with | [p0], [z0] => [p0, z0] | _, _ => []), F1, T.own, M.ini, M.tyI, ⟨fun s us ws _ l1 l2 => .of_eq (match us, ws, l1, l2 with | [_], [_], _, _ => rfl), fun {vs us zs ws} r1 r2 => by
      cases r1 with
      | nil => (first | exact .nil | (cases r2 <;> exact .nil))
      | cons x0 r1 =>
        cases r1 with
        | cons _ _ => exact .nil
        | nil =>
          cases r2 with
          | nil => exact .nil
          | cons y0 r2 =>
            cases r2 with
            | cons _ _ => exact .nil
            | nil => exact .cons x0 (.cons y0 .nil)⟩, gg, no, rfl, fun F a vs zs ds es h1 h2 r1 r2 => ?_⟩
    match ds, es, h1, h2, r1, r2 with | [], [e0], _, _, .nil, .cons c0 .nil => exact ⟨_, rfl, .cons c0 .nil⟩
  · refine ⟨by decide, by decide, ga K "BadWay", initAt K "BadWay", _, ["self", "value", "__class__"], ["value"], (fun us _ => us), (fun vs _ => vs), F1, T.own, M.ini, M.tyI, ⟨fun s us ws _ l1 _ => .of_eq (match us, l1 with | [_, _], _ => rfl), fun r1 _ => r1⟩, gg, no, rfl, fun F a vs zs ds es h1 h2 r1 r2 => ?_⟩
    match ds, es, h1, h2, r1, r2 with | [d0], [], _, _, .cons a0 .nil, .nil => exact ⟨_, rfl, .cons a0 .nil⟩
theorem xv_ByNothing (KX : K.In h) (G : h.Ns mainGlobals mg) (c : SaysV fa fn tf ex inits w h K) : XvB PySem.Challenge.rw_askedatonce_k00_errors_of_questions_at_o.prog w K mg base 1 "ByNothing" [("row", 1)] 0 ["row"] gD_ByNothing_0_row ∧ XvB PySem.Challenge.rw_askedatonce_k00_errors_of_questions_at_o.prog w K mg base 1 "ByNothing" [("row", 1)] 1 [] gD_ByNothing_1 := by
  have m := c.more
  have M := mor_ok (ex_at m 47 rfl)
  have T : SupF PySem.Challenge.rw_askedatonce_k00_errors_of_questions_at_o.prog K mg (ga K "ByNothing") (initAt K "ByNothing") (ExD.nf K ⟨"ByNothing", I_ByNothing⟩) := sup_ok (fs := ["row"]) (d := ⟨"ByNothing", I_ByNothing⟩) (c.init 15 (d := ⟨"ByNothing", I_ByNothing⟩) rfl) (ex_at m 48 rfl) (ex_at m 46 rfl) (ex_at m 47 rfl) (ex_at m 0 rfl) (free_ok KX G (c.d.fact 38 (f := .free "super") rfl)) (by decide +kernel) (by rfl) ⟨_, rfl, rfl⟩ (by decide +kernel)
  obtain ⟨fd, F1, oc, od, doc, pm, ct, osl, efd, lk⟩ := sup_init (CX := L2.CX PySem.Challenge.rw_askedatonce_k00_errors_of_questions_at_o.prog w) (P := PySem.Challenge.rw_askedatonce_k00_errors_of_questions_at_o.prog) (w := w) (K := K) (mg := mg) (base := base) (k := 0) (N := ["self", "row", "__class__"]) (ps := ["row"]) (t := tFs K [("row", 1)]) T (show NdefX.NScope ["self", "row", "__class__"] ["self", "row"] ["__class__"] (defScope I_ByNothing) from NdefX.nscope_by (by decide +kernel)) (by rfl) (fun L => by rfl) (fun L => by rfl) (fun A outer s H E => pss_cons (ps_ost (pe_var (i := 0) rfl (Or.inl rfl)) (pe_var (i := 1) rfl (Or.inl rfl))) (pss_nil))
  have no : ∀ p ∈ ([("row", 1)] : List (Str × Nat)), PySem.W.findIn K (.ref (ga K "ByNothing")) p.1 = some none := fun p hp => M.no p.1 (List.mem_map_of_mem (f := (·.1)) hp)
  have gg : mg "ByNothing" = some (.ref (ga K "ByNothing")) := glo_ok KX G (c.d.fact 23 (f := .glo "ByNothing") rfl)
  subst efd
  refine ⟨?_, ?_⟩
  · refine ⟨by decide, by decide, ga K "ByNothing", initAt K "ByNothing", _, ["self", "row", "__class__"], ["row"], (fun us ws => match us, ws with | [p0], [z0] => [p0, z0] | _, _ => []), (fun us ws => match us, ws with | [p0], [z0] => [p0, z0] | _, _ => []), F1, T.own, M.ini, M.tyI, ⟨fun s us ws _ l1 l2 => .of_eq (match us, ws, l1, l2 with | [_], [_], _, _ => rfl), fun {vs us zs ws} r1 r2 => by
      cases r1 with
      | nil => (first | exact .nil | (cases r2 <;> exact .nil))
      | cons x0 r1 =>
        cases r1 with
        | cons _ _ => exact .nil
        | nil =>
          cases r2 with
          | nil => exact .nil
          | cons y0 r2 =>
            cases r2 with
            | cons _ _ => exact .nil
            | nil => exact .cons x0 (.cons y0 .nil)⟩, gg, no, rfl, fun F a vs zs ds es h1 h2 r1 r2 => ?_⟩
    match ds, es, h1, h2, r1, r2 with | [], [e0], _, _, .nil, .cons c0 .nil => exact ⟨_, rfl, .cons c0 .nil⟩
  · refine ⟨by decide, by decide, ga K "ByNothing", initAt K "ByNothing", _, ["self", "row", "__class__"], ["row"], (fun us _ => us), (fun vs _ => vs), F1, T.own, M.ini, M.tyI, ⟨fun s us ws _ l1 _ => .of_eq (match us, l1 with | [_, _], _ => rfl), fun r1 _ => r1⟩, gg, no, rfl, fun F a vs zs ds es h1 h2 r1 r2 => ?_⟩
    match ds, es, h1, h2, r1, r2 with | [d0], [], _, _, .cons a0 .nil, .nil => exact ⟨_, rfl, .cons a0 .nil⟩
theorem xv_HoldsNothing (KX : K.In h) (G : h.Ns mainGlobals mg) (c : SaysV fa fn tf ex inits w h K) : XvB PySem.Challenge.rw_askedatonce_k00_errors_of_questions_at_o.prog w K mg base 1 "HoldsNothing" [("row", 1)] 0 ["row"] gD_HoldsNothing_0_row ∧ XvB PySem.Challenge.rw_askedatonce_k00_errors_of_questions_at_o.prog w K mg base 1 "HoldsNothing" [("row", 1)] 1 [] gD_HoldsNothing_1 := by
  have m := c.more
  have M := mor_ok (ex_at m 50 rfl)
  have T : SupF PySem.Challenge.rw_askedatonce_k00_errors_of_questions_at_o.prog K mg (ga K "HoldsNothing") (initAt K "HoldsNothing") (ExD.nf K ⟨"HoldsNothing", I_HoldsNothing⟩) := sup_ok (fs := ["row"]) (d := ⟨"HoldsNothing", I_HoldsNothing⟩) (c.init 16 (d := ⟨"HoldsNothing", I_HoldsNothing⟩) rfl) (ex_at m 51 rfl) (ex_at m 49 rfl) (ex_at m 50 rfl) (ex_at m 0 rfl) (free_ok KX G (c.d.fact 38 (f := .free "super") rfl)) (by decide +kernel) (by rfl) ⟨_, rfl, rfl⟩ (by decide +kernel)
  obtain ⟨fd, F1, oc, od, doc, pm, ct, osl, efd, lk⟩ := sup_init (CX := L2.CX PySem.Challenge.rw_askedatonce_k00_errors_of_questions_at_o.prog w) (P := PySem.Challenge.rw_askedatonce_k00_errors_of_questions_at_o.prog) (w := w) (K := K) (mg := mg) (base := base) (k := 0) (N := ["self", "row", "__class__"]) (ps := ["row"]) (t := tFs K [("row", 1)]) T (show NdefX.NScope ["self", "row", "__class__"] ["self", "row"] ["__class__"] (defScope I_HoldsNothing) from NdefX.nscope_by (by decide +kernel)) (by rfl) (fun L => by rfl) (fun L => by rfl) (fun A outer s H E => pss_cons (ps_ost (pe_var (i := 0) rfl (Or.inl rfl)) (pe_var (i := 1) rfl (Or.inl rfl))) (pss_nil))
  have no : ∀ p ∈ ([("row", 1)] : List (Str × Nat)), PySem.W.findIn K (.ref (ga K "HoldsNothing")) p.1 = some none := fun p hp => M.no p.1 (List.mem_map_of_mem (f := (·.1)) hp)
  have gg : mg "HoldsNothing" = some (.ref (ga K "HoldsNothing")) := glo_ok KX G (c.d.fact 24 (f := .glo "HoldsNothing") rfl)
  subst efd
  refine ⟨?_, ?_⟩
  · refine ⟨by decide, by decide, ga K "HoldsNothing", initAt K "HoldsNothing", _, ["self", "row", "__class__"], ["row"], (fun us ws => match us, ws with | [p0], [z0] => [p0, z0] | _, _ => []), (fun us ws => match us, ws with | [p0], [z0] => [p0, z0] | _, _ => []), F1, T.own, M.ini, M.tyI, ⟨fun s us ws _ l1 l2 => .of_eq (match us, ws, l1, l2 with | [_], [_], _, _ => rfl), fun {vs us zs ws} r1 r2 => by
      cases r1 with
      | nil => (first | exact .nil | (cases r2 <;> exact .nil))
      | cons x0 r1 =>
        cases r1 with
        | cons _ _ => exact .nil
        | nil =>
          cases r2 with
          | nil => exact .nil
          | cons y0 r2 =>
            cases r2 with
            | cons _ _ => exact .nil
            | nil => exact .cons x0 (.cons y0 .nil)⟩, gg, no, rfl, fun F a vs zs ds es h1 h2 r1 r2 => ?_⟩
    match ds, es, h1, h2, r1, r2 with | [], [e0], _, _, .nil, .cons c0 .nil => exact ⟨_, rfl, .cons c0 .nil⟩
  · refine ⟨by decide, by decide, ga K "HoldsNothing", initAt K "HoldsNothing", _, ["self", "row", "__class__"], ["row"], (fun us _ => us), (fun vs _ => vs), F1, T.own, M.ini, M.tyI, ⟨fun s us ws _ l1 _ => .of_eq (match us, l1 with | [_, _], _ => rfl), fun r1 _ => r1⟩, gg, no, rfl, fun F a vs zs ds es h1 h2 r1 r2 => ?_⟩
    match ds, es, h1, h2, r1, r2 with | [d0], [], _, _, .cons a0 .nil, .nil => exact ⟨_, rfl, .cons a0 .nil⟩
theorem xv_Misfit (KX : K.In h) (G : h.Ns mainGlobals mg) (c : SaysV fa fn tf ex inits w h K) : XvB PySem.Challenge.rw_askedatonce_k00_errors_of_questions_at_o.prog w K mg base 1 "Misfit" [("part", 1)] 0 ["part"] gD_Misfit_0_part ∧ XvB PySem.Challenge.rw_askedatonce_k00_errors_of_questions_at_o.prog w K mg base 1 "Misfit" [("part", 1)] 1 [] gD_Misfit_1 := by
  have m := c.more
  have M := mor_ok (ex_at m 53 rfl)
  have T : SupF PySem.Challenge.rw_askedatonce_k00_errors_of_questions_at_o.prog K mg (ga K "Misfit") (initAt K "Misfit") (ExD.nf K ⟨"Misfit", I_Misfit⟩) := sup_ok (fs := ["part"]) (d := ⟨"Misfit", I_Misfit⟩) (c.init 17 (d := ⟨"Misfit", I_Misfit⟩) rfl) (ex_at m 54 rfl) (ex_at m 52 rfl) (ex_at m 53 rfl) (ex_at m 0 rfl) (free_ok KX G (c.d.fact 38 (f := .free "super") rfl)) (by decide +kernel) (by rfl) ⟨_, rfl, rfl⟩ (by decide +kernel)
  obtain ⟨fd, F1, oc, od, doc, pm, ct, osl, efd, lk⟩ := sup_init (CX := L2.CX PySem.Challenge.rw_askedatonce_k00_errors_of_questions_at_o.prog w) (P := PySem.Challenge.rw_askedatonce_k00_errors_of_questions_at_o.prog) (w := w) (K := K) (mg := mg) (base := base) (k := 0) (N := ["self", "part", "__class__"]) (ps := ["part"]) (t := tFs K [("part", 1)]) T (show NdefX.NScope ["self", "part", "__class__"] ["self", "part"] ["__class__"] (defScope I_Misfit) from NdefX.nscope_by (by decide +kernel)) (by rfl) (fun L => by rfl) (fun L => by rfl) (fun A outer s H E => pss_cons (ps_ost (pe_var (i := 0) rfl (Or.inl rfl)) (pe_var (i := 1) rfl (Or.inl rfl))) (pss_nil))
  have no : ∀ p ∈ ([("part", 1)] : List (Str × Nat)), PySem.W.findIn K (.ref (ga K "Misfit")) p.1 = some none := fun p hp => M.no p.1 (List.mem_map_of_mem (f := (·.1)) hp)
  have gg : mg "Misfit" = some (.ref (ga K "Misfit")) := glo_ok KX G (c.d.fact 25 (f := .glo "Misfit") rfl)
  subst efd
  refine ⟨?_, ?_⟩
  · refine ⟨by decide, by decide, ga K "Misfit", initAt K "Misfit", _, ["self", "part", "__class__"], ["part"], (fun us ws => match us, ws with | [p0], [z0] => [p0, z0] | _, _ => []), (fun us ws => match us, ws with | [p0], [z0] => [p0, z0] | _, _ => []), F1, T.own, M.ini, M.tyI, ⟨fun s us ws _ l1 l2 => .of_eq (match us, ws, l1, l2 with | [_], [_], _, _ => rfl), fun {vs us zs ws} r1 r2 => by
      cases r1 with
      | nil => (first | exact .nil | (cases r2 <;> exact .nil))
      | cons x0 r1 =>
        cases r1 with
        | cons _ _ => exact .nil
        | nil =>
          cases r2 with
          | nil => exact .nil
          | cons y0 r2 =>
            cases r2 with
            | cons _ _ => exact .nil
            | nil => exact .cons x0 (.cons y0 .nil)⟩, gg, no, rfl, fun F a vs zs ds es h1 h2 r1 r2 => ?_⟩
    match ds, es, h1, h2, r1, r2 with | [], [e0], _, _, .nil, .cons c0 .nil => exact ⟨_, rfl, .cons c0 .nil⟩
  · refine ⟨by decide, by decide, ga K "Misfit", initAt K "Misfit", _, ["self", "part", "__class__"], ["part"], (fun us _ => us), (fun vs _ => vs), F1, T.own, M.ini, M.tyI, ⟨fun s us ws _ l1 _ => .of_eq (match us, l1 with | [_, _], _ => rfl), fun r1 _ => r1⟩, gg, no, rfl, fun F a vs zs ds es h1 h2 r1 r2 => ?_⟩
    match ds, es, h1, h2, r1, r2 with | [d0], [], _, _, .cons a0 .nil, .nil => exact ⟨_, rfl, .cons a0 .nil⟩
theorem xv_NoRow (KX : K.In h) (G : h.Ns mainGlobals mg) (c : SaysV fa fn tf ex inits w h K) : XvB PySem.Challenge.rw_askedatonce_k00_errors_of_questions_at_o.prog w K mg base 1 "NoRow" [("value", 1)] 0 ["value"] gD_NoRow_0_value ∧ XvB PySem.Challenge.rw_askedatonce_k00_errors_of_questions_at_o.prog w K mg base 1 "NoRow" [("value", 1)] 1 [] gD_NoRow_1 := by
  have m := c.more
  have M := mor_ok (ex_at m 56 rfl)
  have T : SupF PySem.Challenge.rw_askedatonce_k00_errors_of_questions_at_o.prog K mg (ga K "NoRow") (initAt K "NoRow") (ExD.nf K ⟨"NoRow", I_NoRow⟩) := sup_ok (fs := ["value"]) (d := ⟨"NoRow", I_NoRow⟩) (c.init 18 (d := ⟨"NoRow", I_NoRow⟩) rfl) (ex_at m 57 rfl) (ex_at m 55 rfl) (ex_at m 56 rfl) (ex_at m 0 rfl) (free_ok KX G (c.d.fact 38 (f := .free "super") rfl)) (by decide +kernel) (by rfl) ⟨_, rfl, rfl⟩ (by decide +kernel)
  obtain ⟨fd, F1, oc, od, doc, pm, ct, osl, efd, lk⟩ := sup_init (CX := L2.CX PySem.Challenge.rw_askedatonce_k00_errors_of_questions_at_o.prog w) (P := PySem.Challenge.rw_askedatonce_k00_errors_of_questions_at_o.prog) (w := w) (K := K) (mg := mg) (base := base) (k := 0) (N := ["self", "value", "__class__"]) (ps := ["value"]) (t := tFs K [("value", 1)]) T (show NdefX.NScope ["self", "value", "__class__"] ["self", "value"] ["__class__"] (defScope I_NoRow) from NdefX.nscope_by (by decide +kernel)) (by rfl) (fun L => by rfl) (fun L => by rfl) (fun A outer s H E => pss_cons (ps_ost (pe_var (i := 0) rfl (Or.inl rfl)) (pe_var (i := 1) rfl (Or.inl rfl))) (pss_nil))
  have no : ∀ p ∈ ([("value", 1)] : List (Str × Nat)), PySem.W.findIn K (.ref (ga K "NoRow")) p.1 = some none := fun p hp => M.no p.1 (List.mem_map_of_mem (f := (·.1)) hp)
  have gg : mg "NoRow" = some (.ref (ga K "NoRow")) := glo_ok KX G (c.d.fact 26 (f := .glo "NoRow") rfl)
  subst efd
  refine ⟨?_, ?_⟩
  · refine ⟨by decide, by decide, ga K "NoRow", initAt K "NoRow", _, ["self", "value", "__class__"], ["value"], (fun us ws => match us, ws with | [p0], [z0] => [p0, z0] | _, _ => []), (fun us ws => match us, ws with | [p0], [z0] => [p0, z0] | _, _ => []), F1, T.own, M.ini, M.tyI, ⟨fun s us ws _ l1 l2 => .of_eq (match us, ws, l1, l2 with | [_], [_], _, _ => rfl), fun {vs us zs ws} r1 r2 => by
      cases r1 with
      | nil => (first | exact .nil | (cases r2 <;> exact .nil))
      | cons x0 r1 =>
        cases r1 with
        | cons _ _ => exact .nil
        | nil =>
          cases r2 with
          | nil => exact .nil
          | cons y0 r2 =>
            cases r2 with
            | cons _ _ => exact .nil
            | nil => exact .cons x0 (.cons y0 .nil)⟩, gg, no, rfl, fun F a vs zs ds es h1 h2 r1 r2 => ?_⟩
    match ds, es, h1, h2, r1, r2 with | [], [e0], _, _, .nil, .cons c0 .nil => exact ⟨_, rfl, .cons c0 .nil⟩
  · refine ⟨by decide, by decide, ga K "NoRow", initAt K "NoRow", _, ["self", "value", "__class__"], ["value"], (fun us _ => us), (fun vs _ => vs), F1, T.own, M.ini, M.tyI, ⟨fun s us ws _ l1 _ => .of_eq (match us, l1 with | [_, _], _ => rfl), fun r1 _ => r1⟩, gg, no, rfl, fun F a vs zs ds es h1 h2 r1 r2 => ?_⟩
    match ds, es, h1, h2, r1, r2 with | [d0], [], _, _, .cons a0 .nil, .nil => exact ⟨_, rfl, .cons a0 .nil⟩
theorem xv_Nothing (KX : K.In h) (G : h.Ns mainGlobals mg) (c : SaysV fa fn tf ex inits w h K) : XvB PySem.Challenge.rw_askedatonce_k00_errors_of_questions_at_o.prog w K mg base 1 "Nothing" [] 0 [] gD_Nothing_0 := by
  have m := c.more
  have M := mor_ok (ex_at m 59 rfl)
  have T : SupF PySem.Challenge.rw_askedatonce_k00_errors_of_questions_at_o.prog K mg (ga K "Nothing") (initAt K "Nothing") (ExD.nf K ⟨"Nothing", I_Nothing⟩) := sup_ok (fs := []) (d := ⟨"Nothing", I_Nothing⟩) (c.init 19 (d := ⟨"Nothing", I_Nothing⟩) rfl) (ex_at m 60 rfl) (ex_at m 58 rfl) (ex_at m 59 rfl) (ex_at m 0 rfl) (free_ok KX G (c.d.fact 38 (f := .free "super") rfl)) (by decide +kernel) (by rfl) ⟨_, rfl, rfl⟩ (by decide +kernel)
  obtain ⟨fd, F1, oc, od, doc, pm, ct, osl, efd, lk⟩ := sup_init (CX := L2.CX PySem.Challenge.rw_askedatonce_k00_errors_of_questions_at_o.prog w) (P := PySem.Challenge.rw_askedatonce_k00_errors_of_questions_at_o.prog) (w := w) (K := K) (mg := mg) (base := base) (k := 0) (N := ["self", "__class__"]) (ps := []) (t := tFs K []) T (show NdefX.NScope ["self", "__class__"] ["self"] ["__class__"] (defScope I_Nothing) from NdefX.nscope_by (by decide +kernel)) (by rfl) (fun L => by rfl) (fun L => by rfl) (fun A outer s H E => pss_nil)
  have no : ∀ p ∈ ([] : List (Str × Nat)), PySem.W.findIn K (.ref (ga K "Nothing")) p.1 = some none := fun p hp => M.no p.1 (List.mem_map_of_mem (f := (·.1)) hp)
  have gg : mg "Nothing" = some (.ref (ga K "Nothing")) := glo_ok KX G (c.d.fact 27 (f := .glo "Nothing") rfl)
  subst efd
  · refine ⟨by decide, by decide, ga K "Nothing", initAt K "Nothing", _, ["self", "__class__"], [], (fun us _ => us), (fun vs _ => vs), F1, T.own, M.ini, M.tyI, ⟨fun s us ws _ l1 _ => .of_eq (match us, l1 with | [_], _ => rfl), fun r1 _ => r1⟩, gg, no, rfl, fun F a vs zs ds es h1 h2 r1 r2 => ?_⟩
    match ds, es, h1, h2, r1, r2 with | [], [], _, _, .nil, .nil => exact ⟨_, rfl, .nil⟩
theorem xv_TooMany (KX : K.In h) (G : h.Ns mainGlobals mg) (c : SaysV fa fn tf ex inits w h K) : XvB PySem.Challenge.rw_askedatonce_k00_errors_of_questions_at_o.prog w K mg base 1 "TooMany" [("what", 1), ("most", 2)] 0 ["most", "what"] gD_TooMany_0_most_what ∧ XvB PySem.Challenge.rw_askedatonce_k00_errors_of_questions_at_o.prog w K mg base 1 "TooMany" [("what", 1), ("most", 2)] 2 [] gD_TooMany_2 := by
  have m := c.more
  have M := mor_ok (ex_at m 62 rfl)
  have T : SupF PySem.Challenge.rw_askedatonce_k00_errors_of_questions_at_o.prog K mg (ga K "TooMany") (initAt K "TooMany") (ExD.nf K ⟨"TooMany", I_TooMany⟩) := sup_ok (fs := ["what", "most"]) (d := ⟨"TooMany", I_TooMany⟩) (c.init 20 (d := ⟨"TooMany", I_TooMany⟩) rfl) (ex_at m 63 rfl) (ex_at m 61 rfl) (ex_at m 62 rfl) (ex_at m 0 rfl) (free_ok KX G (c.d.fact 38 (f := .free "super") rfl)) (by decide +kernel) (by rfl) ⟨_, rfl, rfl⟩ (by decide +kernel)
  obtain ⟨fd, F1, oc, od, doc, pm, ct, osl, efd, lk⟩ := sup_init (CX := L2.CX PySem.Challenge.rw_askedatonce_k00_errors_of_questions_at_o.prog w) (P := PySem.Challenge.rw_askedatonce_k00_errors_of_questions_at_o.prog) (w := w) (K := K) (mg := mg) (base := base) (k := 0) (N := ["self", "what", "most", "__class__"]) (ps := ["what", "most"]) (t := tFs K [("what", 1), ("most", 2)]) T (show NdefX.NScope ["self", "what", "most", "__class__"] ["self", "what", "most"] ["__class__"] (defScope I_TooMany) from NdefX.nscope_by (by decide +kernel)) (by rfl) (fun L => by rfl) (fun L => by rfl) (fun A outer s H E => pss_cons (ps_ost (pe_var (i := 0) rfl (Or.inl rfl)) (pe_var (i := 1) rfl (Or.inl rfl))) (pss_cons (ps_ost (pe_var (i := 0) rfl (Or.inl rfl)) (pe_var (i := 2) rfl (Or.inl rfl))) (pss_nil)))
  have no : ∀ p ∈ ([("what", 1), ("most", 2)] : List (Str × Nat)), PySem.W.findIn K (.ref (ga K "TooMany")) p.1 = some none := fun p hp => M.no p.1 (List.mem_map_of_mem (f := (·.1)) hp)
  have gg : mg "TooMany" = some (.ref (ga K "TooMany")) := glo_ok KX G (c.d.fact 29 (f := .glo "TooMany") rfl)
  subst efd
  refine ⟨?_, ?_⟩
  · refine ⟨by decide, by decide, ga K "TooMany", initAt K "TooMany", _, ["self", "what", "most", "__class__"], ["what", "most"], (fun us ws => match us, ws with | [p0], [z0, z1] => [p0, z1, z0] | _, _ => []), (fun us ws => match us, ws with | [p0], [z0, z1] => [p0, z1, z0] | _, _ => []), F1, T.own, M.ini, M.tyI, ⟨fun s us ws _ l1 l2 => .of_eq (match us, ws, l1, l2 with | [_], [_, _], _, _ => rfl), fun {vs us zs ws} r1 r2 => by
      cases r1 with
      | nil => (first | exact .nil | (cases r2 <;> exact .nil))
      | cons x0 r1 =>
        cases r1 with
        | cons _ _ => exact .nil
        | nil =>
          cases r2 with
          | nil => exact .nil
          | cons y0 r2 =>
            cases r2 with
            | nil => exact .nil
            | cons y1 r2 =>
              cases r2 with
              | cons _ _ => exact .nil
              | nil => exact .cons x0 (.cons y1 (.cons y0 .nil))⟩, gg, no, rfl, fun F a vs zs ds es h1 h2 r1 r2 => ?_⟩
    match ds, es, h1, h2, r1, r2 with | [], [e0, e1], _, _, .nil, .cons c0 (.cons c1 .nil) => exact ⟨_, rfl, .cons c1 (.cons c0 .nil)⟩
  · refine ⟨by decide, by decide, ga K "TooMany", initAt K "TooMany", _, ["self", "what", "most", "__class__"], ["what", "most"], (fun us _ => us), (fun vs _ => vs), F1, T.own, M.ini, M.tyI, ⟨fun s us ws _ l1 _ => .of_eq (match us, l1 with | [_, _, _], _ => rfl), fun r1 _ => r1⟩, gg, no, rfl, fun F a vs zs ds es h1 h2 r1 r2 => ?_⟩
    match ds, es, h1, h2, r1, r2 with | [d0, d1], [], _, _, .cons a0 (.cons a1 .nil), .nil => exact ⟨_, rfl, .cons a0 (.cons a1 .nil)⟩
theorem chain (KX : K.In h) (G : h.Ns mainGlobals mg) (c : SaysV fa fn tf ex inits w h K) :
    ∃ fd : FuncData, (∀ (s : Shared) (u : Value), BindsTo s fd ⟨[u], []⟩ [("script", u)]) ∧ ∀ base : Heap, (∀ p ∈ tf.map (cT K), LamX.TabB base mg p.1 p.2) → FnG PySem.Challenge.rw_askedatonce_k00_errors_of_questions_at_o.prog w K mg base (L2.CX PySem.Challenge.rw_askedatonce_k00_errors_of_questions_at_o.prog w) 4 (ga K "law") fd ["script"] (spV K mg 1 m_law) := by
  have d := c.d
  have T := facts KX G c
  obtain ⟨fd__law_pen, D__law_pen⟩ := d.def_ 0 (d := dd "_law_pen" 24) rfl
  have g__law_pen : mg "_law_pen" = some (.ref (ga K "_law_pen")) := glo_ok KX G (d.fact 0 (f := .glo "_law_pen") rfl)
  have b__law_pen : Binds K fd__law_pen ["script"] [] := FunD.bindsN D__law_pen fun _ _ _ _ _ _ us hl => match us, hl with | [_], _ => rfl
  obtain ⟨fd__law_draw, D__law_draw⟩ := d.def_ 1 (d := dd "_law_draw" 25) rfl
  have g__law_draw : mg "_law_draw" = some (.ref (ga K "_law_draw")) := glo_ok KX G (d.fact 1 (f := .glo "_law_draw") rfl)
  have b__law_draw : Binds K fd__law_draw ["pen", "many"] [] := FunD.bindsN D__law_draw fun _ _ _ _ _ _ us hl => match us, hl with | [_, _], _ => rfl
  obtain ⟨fd__law_pick, D__law_pick⟩ := d.def_ 2 (d := dd "_law_pick" 26) rfl
  have g__law_pick : mg "_law_pick" = some (.ref (ga K "_law_pick")) := glo_ok KX G (d.fact 2 (f := .glo "_law_pick") rfl)
  have b__law_pick : Binds K fd__law_pick ["pen", "some"] [] := FunD.bindsN D__law_pick fun _ _ _ _ _ _ us hl => match us, hl with | [_, _], _ => rfl
  obtain ⟨fd__law_classes, D__law_classes⟩ := d.def_ 3 (d := dd "_law_classes" 27) rfl
  have g__law_classes : mg "_law_classes" = some (.ref (ga K "_law_classes")) := glo_ok KX G (d.fact 3 (f := .glo "_law_classes") rfl)
  have b__law_classes : Binds K fd__law_classes ["error"] [] := FunD.bindsN D__law_classes fun _ _ _ _ _ _ us hl => match us, hl with | [_], _ => rfl
  obtain ⟨fd__law_odd, D__law_odd⟩ := d.def_ 4 (d := dd "_law_odd" 28) rfl
  have g__law_odd : mg "_law_odd" = some (.ref (ga K "_law_odd")) := glo_ok KX G (d.fact 4 (f := .glo "_law_odd") rfl)
  have b__law_odd : Binds K fd__law_odd ["pen"] [] := FunD.bindsN D__law_odd fun _ _ _ _ _ _ us hl => match us, hl with | [_], _ => rfl
  obtain ⟨fd__law_one_right, D__law_one_right⟩ := d.def_ 5 (d := dd "_law_one_right" 29) rfl
  have g__law_one_right : mg "_law_one_right" = some (.ref (ga K "_law_one_right")) := glo_ok KX G (d.fact 5 (f := .glo "_law_one_right") rfl)
  have b__law_one_right : Binds K fd__law_one_right ["error", "other", "word", "kept", "due"] [] := FunD.bindsN D__law_one_right fun _ _ _ _ _ _ us hl => match us, hl with | [_, _, _, _, _], _ => rfl
  obtain ⟨fd__law_values_right, D__law_values_right⟩ := d.def_ 6 (d := dd "_law_values_right" 30) rfl
  have g__law_values_right : mg "_law_values_right" = some (.ref (ga K "_law_values_right")) := glo_ok KX G (d.fact 6 (f := .glo "_law_values_right") rfl)
  have b__law_values_right : Binds K fd__law_values_right ["one"] [] := FunD.bindsN D__law_values_right fun _ _ _ _ _ _ us hl => match us, hl with | [_], _ => rfl
  obtain ⟨fd_law, D_law⟩ := d.def_ 7 (d := dd "law" 31) rfl
  have g_law : mg "law" = some (.ref (ga K "law")) := glo_ok KX G (d.fact 7 (f := .glo "law") rfl)
  refine ⟨fd_law, fun s u => FunD.bindsA (ps := ["script"]) D_law (fun _ _ _ _ _ _ us hl => match us, hl with | [_], _ => rfl) s [u] rfl, fun base TB => ?_⟩
  obtain ⟨V_BadAnswers_0_at, V_BadAnswers_1⟩ := xv_BadAnswers (base := base) KX G c
  obtain ⟨V_BadBox_0_name, V_BadBox_1⟩ := xv_BadBox (base := base) KX G c
  obtain ⟨V_BadCommand_0_word, V_BadCommand_1⟩ := xv_BadCommand (base := base) KX G c
  obtain ⟨V_BadForm_0_value, V_BadForm_1⟩ := xv_BadForm (base := base) KX G c
  obtain ⟨V_BadFormat_0_part, V_BadFormat_1⟩ := xv_BadFormat (base := base) KX G c
  obtain ⟨V_BadLoop_0_part, V_BadLoop_1⟩ := xv_BadLoop (base := base) KX G c
  obtain ⟨V_BadName_0_value, V_BadName_1⟩ := xv_BadName (base := base) KX G c
  obtain ⟨V_BadNumber_0_part, V_BadNumber_1⟩ := xv_BadNumber (base := base) KX G c
  obtain ⟨V_BadPrices_0_part, V_BadPrices_1⟩ := xv_BadPrices (base := base) KX G c
  obtain ⟨V_BadProgram_0_part, V_BadProgram_1⟩ := xv_BadProgram (base := base) KX G c
  obtain ⟨V_BadRoot_0_part, V_BadRoot_1⟩ := xv_BadRoot (base := base) KX G c
  obtain ⟨V_BadTable_0_part, V_BadTable_1⟩ := xv_BadTable (base := base) KX G c
  obtain ⟨V_BadText_0_word_line, V_BadText_2⟩ := xv_BadText (base := base) KX G c
  obtain ⟨V_BadValues_0_name, V_BadValues_1⟩ := xv_BadValues (base := base) KX G c
  obtain ⟨V_BadWay_0_value, V_BadWay_1⟩ := xv_BadWay (base := base) KX G c
  obtain ⟨V_ByNothing_0_row, V_ByNothing_1⟩ := xv_ByNothing (base := base) KX G c
  obtain ⟨V_HoldsNothing_0_row, V_HoldsNothing_1⟩ := xv_HoldsNothing (base := base) KX G c
  obtain ⟨V_Misfit_0_part, V_Misfit_1⟩ := xv_Misfit (base := base) KX G c
  obtain ⟨V_NoRow_0_value, V_NoRow_1⟩ := xv_NoRow (base := base) KX G c
  have V_Nothing_0 := xv_Nothing (base := base) KX G c
  obtain ⟨V_TooMany_0_most_what, V_TooMany_2⟩ := xv_TooMany (base := base) KX G c
  have o__law_pen := ok__law_pen (P := PySem.Challenge.rw_askedatonce_k00_errors_of_questions_at_o.prog) (w := w) (base := base) T (funV_of D__law_pen) 
  have H__law_pen : FnB PySem.Challenge.rw_askedatonce_k00_errors_of_questions_at_o.prog w K mg base 1 "_law_pen" ["script"] (spN K mg 1 m__law_pen) := ⟨_, _, o__law_pen, g__law_pen, D__law_pen.kp, b__law_pen⟩
  have o__law_draw := ok__law_draw (P := PySem.Challenge.rw_askedatonce_k00_errors_of_questions_at_o.prog) (w := w) (base := base) T (funV_of D__law_draw) 
  have H__law_draw : FnB PySem.Challenge.rw_askedatonce_k00_errors_of_questions_at_o.prog w K mg base 1 "_law_draw" ["pen", "many"] (spM K mg 1 m__law_draw) := ⟨_, _, o__law_draw, g__law_draw, D__law_draw.kp, b__law_draw⟩
  have o__law_pick := ok__law_pick (P := PySem.Challenge.rw_askedatonce_k00_errors_of_questions_at_o.prog) (w := w) (base := base) T (funV_of D__law_pick) H__law_draw
  have H__law_pick : FnB PySem.Challenge.rw_askedatonce_k00_errors_of_questions_at_o.prog w K mg base 2 "_law_pick" ["pen", "some"] (spM K mg 1 m__law_pick) := ⟨_, _, o__law_pick, g__law_pick, D__law_pick.kp, b__law_pick⟩
  have o__law_classes := ok__law_classes (P := PySem.Challenge.rw_askedatonce_k00_errors_of_questions_at_o.prog) (w := w) (base := base) T (funV_of D__law_classes) 
  have H__law_classes : FnB PySem.Challenge.rw_askedatonce_k00_errors_of_questions_at_o.prog w K mg base 1 "_law_classes" ["error"] (spV K mg 1 m__law_classes) := ⟨_, _, o__law_classes, g__law_classes, D__law_classes.kp, b__law_classes⟩
  have o__law_odd := ok__law_odd (P := PySem.Challenge.rw_askedatonce_k00_errors_of_questions_at_o.prog) (w := w) (base := base) T (funV_of D__law_odd) H__law_pick
  have H__law_odd : FnB PySem.Challenge.rw_askedatonce_k00_errors_of_questions_at_o.prog w K mg base 3 "_law_odd" ["pen"] (spM K mg 0 m__law_odd) := ⟨_, _, o__law_odd, g__law_odd, D__law_odd.kp, b__law_odd⟩
  have o__law_one_right := ok__law_one_right (P := PySem.Challenge.rw_askedatonce_k00_errors_of_questions_at_o.prog) (w := w) (base := base) T (funV_of D__law_one_right) H__law_classes
  have H__law_one_right : FnB PySem.Challenge.rw_askedatonce_k00_errors_of_questions_at_o.prog w K mg base 2 "_law_one_right" ["error", "other", "word", "kept", "due"] (spV K mg 5 m__law_one_right) := ⟨_, _, o__law_one_right, g__law_one_right, D__law_one_right.kp, b__law_one_right⟩
  have o__law_values_right := ok__law_values_right (P := PySem.Challenge.rw_askedatonce_k00_errors_of_questions_at_o.prog) (w := w) (base := base) T (funV_of D__law_values_right) V_BadForm_0_value V_BadForm_1 V_BadName_0_value V_BadName_1 V_BadWay_0_value V_BadWay_1 V_NoRow_0_value V_NoRow_1 H__law_one_right V_BadFormat_0_part V_BadFormat_1 V_BadNumber_0_part V_BadNumber_1 V_BadRoot_0_part V_BadRoot_1 V_BadTable_0_part V_BadTable_1 V_BadProgram_0_part V_BadProgram_1 V_Misfit_0_part V_Misfit_1 V_BadPrices_0_part V_BadPrices_1 V_BadLoop_0_part V_BadLoop_1 V_BadBox_0_name V_BadBox_1 V_BadValues_0_name V_BadValues_1 V_HoldsNothing_0_row V_HoldsNothing_1 V_ByNothing_0_row V_ByNothing_1 V_BadAnswers_0_at V_BadAnswers_1 V_BadCommand_0_word V_BadCommand_1
  have H__law_values_right : FnB PySem.Challenge.rw_askedatonce_k00_errors_of_questions_at_o.prog w K mg base 3 "_law_values_right" ["one"] (spV K mg 1 m__law_values_right) := ⟨_, _, o__law_values_right, g__law_values_right, D__law_values_right.kp, b__law_values_right⟩
  exact ok_law T (funV_of D_law) H__law_pen H__law_odd H__law_values_right V_BadText_0_word_line V_BadText_2 H__law_one_right V_TooMany_0_most_what V_TooMany_2 H__law_classes V_Nothing_0
end
abbrev RR : PySem.W.OpenRow := PySem.W.OpenLaw.row PySem.Challenge.rw_askedatonce_k00_errors_of_questions_at_o
def names : List Str := "OnceError" :: "BadNumber" :: "BadFormat" :: "BadWay" :: "BadName" :: "BadForm" :: "BadProgram" :: "BadValues" :: "BadBox" :: "BadAnswers" :: "BadTable" :: "BadRoot" :: "BadLoop" :: "BadPrices" :: "NoRow" :: "ByNothing" :: "HoldsNothing" :: "Misfit" :: "BadText" :: "BadCommand" :: "Nothing" :: "TooMany" :: "_law_pen" :: "_law_draw" :: "_law_pick" :: "_law_classes" :: "_law_odd" :: "_law_one_right" :: "_law_values_right" :: []
abbrev hk : PySem.W.Hook := hookV 5 fa fn tf ex inits
def ob (s : PySem.W.SharedT) : AlV := obsV 5 fa fn tf ex inits (HandSHeadRun.getT s)
theorem ob_eq (s : PySem.W.SharedT) : ob s = hk.obs s.abs := obsV_eq (HandSHeadRun.getT_eq s)
theorem run (w : World) : HC.FinEq RR (PySem.W.view RR.prog [31]) hk ob 50 names Hd.n0 Hd.annT Hd.cT Hd.posE Hd.fp Hd.S0 Hd.SE w := by
  unfold HC.FinEq
  kernel_rfl
end Wk
open PySem PySem.W PySem.Calls PyProof.Rows
theorem holds_of (plain : ∀ ns : List Int, ns.length ≤ 63 → (∀ z ∈ ns, Builtin.Int.intBits z ≤ 1048576) → Wk.m_law [.frl (ns.map VL.D.int)] = some (.bl true)) : PySem.Challenge.rw_askedatonce_k00_errors_of_questions_at_o.Holds := by
  w_on; o_law
  refine HC.head_cut (r := OpenLaw.row PySem.Challenge.rw_askedatonce_k00_errors_of_questions_at_o) (q := view (OpenLaw.row PySem.Challenge.rw_askedatonce_k00_errors_of_questions_at_o).prog [31]) (H := Wk.hk) (ob := Wk.ob) (loose := Wk.names) (d := HandSHeadRun.topDef (OpenLaw.row PySem.Challenge.rw_askedatonce_k00_errors_of_questions_at_o).prog 31) (kwd := []) Wk.ob_eq Hd.op Hd.opn Hd.rch
    Wk.run (by kernel_rfl) (by kernel_rfl) (by kernel_rfl) (by rfl) (by first | assumption | decide +kernel) (by decide +kernel) ⟨rfl, rfl, rfl, rfl, rfl, by decide +kernel⟩ ?hw ?hc
  case hw => w_witness2
  case hc =>
    refine VL.g_walkT (l := PySem.Challenge.rw_askedatonce_k00_errors_of_questions_at_o) (k := 4) (x := "script") rfl (by kernel_rfl) ⟨rfl, by decide, by decide⟩ ?F
    intro w mg fa h Y G hmg0
    obtain ⟨K, KX, c⟩ := Y
    have hmg : mg ("law" : PySem.Str) = some (.ref fa) := by
      have e : (HandSHeadRun.topDef (OpenLaw.row PySem.Challenge.rw_askedatonce_k00_errors_of_questions_at_o).prog 31).name = ("law" : PySem.Str) := by kernel_rfl
      rw [← e]
      exact hmg0
    have ef : fa = He.ga K "law" := by
      have q := He.glo_ok KX G (c.d.fact 7 (f := .glo "law") rfl)
      rw [hmg] at q
      cases q; rfl
    subst ef
    obtain ⟨fd, hb, hF⟩ := Wk.chain KX G c
    refine ⟨K, fd, Wk.tf.map (He.cT K), VL.spV K mg 1 Wk.m_law, KX, fun p hp => ?_, fun p hp => ?_, fun p hp => ?_, hb, fun base _ _ TB => hF base TB, fun H F0 a ns hl hz sub nt tab sq => ?_⟩
    · obtain ⟨q, hq, rfl⟩ := List.mem_map.mp hp
      exact c.empty q hq
    · obtain ⟨q, hq, rfl⟩ := List.mem_map.mp hp
      exact c.out q hq
    · obtain ⟨q, hq, rfl⟩ := List.mem_map.mp hp
      exact PySem.W.codeHd_of_K KX (c.hd q hq)
    · refine ⟨rfl, F0, [.frl (ns.map VL.D.int)], .bl true, sub, nt, fun P hP => ?_, .cons (.frl sq (VL.RepL.ofInts ns)) .nil, plain ns hl hz, fun v H' F' _ _ _ _ _ rv => by cases rv; rfl⟩
      exact absurd hP List.not_mem_nil
end

theorem PySem.Challenge.cw_askedatonce_k00_errors_of_questions_at_o_holds : PySem.Challenge.rw_askedatonce_k00_errors_of_questions_at_o.Holds :=
  holds_of Wk.plain
