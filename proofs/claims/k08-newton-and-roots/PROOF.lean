import PyProof.Rows.All
import Wide.All
import OpenK.AllK
import Wide.FinOn
import HandS.ForMost
import HandS.ForExc
import HandS.Flow
import HandS.Style
import HandS.TupAny
import HandS.Deep
import HandS.Wide
import HandS.IsInst
import HandS.Zip
import HandS.SortInts
import KE.KSortedM
import PyProof.ReprReads
import PyProof.ReprRoads
import HandS.Rev
import HandS.TupMul
import PyProof.SumWalkG
import PyProof.WalksMore
import PyProof.Rows.SumGenD
import KE.SortData
import KE.DataMinMax
import HandS.NoneIn
import PyProof.Rows.IntBool
import KE.GoesEnum
import HandS.SetFor
import KE.GoesZip
import KE.GoesMore
import PySem.Challenge.RW_powersalike_k08_whole_products_and_newto
set_option Elab.async false
set_option linter.all false
set_option maxRecDepth 100000
set_option maxHeartbeats 4000000
namespace Lk
open PySem PySem.Spec PyProof.Rows L2
/-! ## 0. Defs, where besides no repr is under way -/
structure Rm (k : Nat) (A : Around) : Prop where
  room : Room k A
  gd : A.guards = some []
section
variable {k j : Nat} {A : Around}
theorem Rm.mono (r : Rm k A) (h : j ≤ k) : Rm j A := ⟨r.room.mono h, r.gd⟩
theorem Rm.deeper (r : Rm (k + 1) A) (env : Env) : Rm k (A.deeper env) := ⟨r.room.deeper env, r.gd⟩
theorem Rm.units (r : Rm k A) : A.units + 64 < cLine := r.room.units
theorem Rm.units' (r : Rm k A) : A.units + 66 < cLine := by have := r.room.un; omega
end
structure FnG (P : Program) (w : World) (K : PySem.W.Frag) (mg : Str → Option Value) (base : Heap) (k : Nat) (f : Addr) (fd : FuncData) (ps : List Str) (sp : Sp) : Prop where
  len : ∀ vs H Q E, sp vs H Q E → vs.length = ps.length
  go : ∀ (A : Around) (outer : List Env) (s : Shared) (H : Hp) (args : Args) (us : List Value) (vs : List V) (Q : VK) (E : XK), Rm k A → Env0 P w K mg base A outer s H → BindsTo s fd args (ps.zip us) → Vals vs us → sp vs H Q E → codeAny (model P w) A (.call (.ref f) args) (CR (L2.CX P w) outer P w H s Q E) s
section
variable {P : Program} {w : World} {K : PySem.W.Frag} {mg : Str → Option Value} {base : Heap} {k : Nat} {f : Addr} {fd : FuncData} {ps : List Str} {sp : Sp}
theorem FnG.imp {sp' : Sp} (F : FnG P w K mg base k f fd ps sp) (h : ∀ vs H Q E, sp' vs H Q E → sp vs H Q E) : FnG P w K mg base k f fd ps sp' :=
  ⟨fun vs H Q E q => F.len vs H Q E (h _ _ _ _ q), fun A o s H ar us vs Q E a b e g q => F.go A o s H ar us vs Q E a b e g (h _ _ _ _ q)⟩
/-- a def by its body, in a room where no repr is under way -/
theorem fnG {x qual : Str} {st : Stmt} {N : List Str} (F : Fun K x qual st f fd) (S : FnScope N ps (defScope st)) (len : ∀ vs H Q E, sp vs H Q E → vs.length = ps.length)
    (hb : ∀ (cdv : Value) (A : Around) (outer : List Env) (s : Shared) (H : Hp) (vs : List V) (Q : VK) (E : XK), Rm k (A.deeper (envOfC qual (defScope st) s.heap.objs.size f cdv)) → sp vs H Q E →
      ∃ t, PSs (cxOf (L2.CX P w) P w K mg base N qual (defScope st) f cdv A outer s H E) (defBody st) t ∧ t { nx := fun _ H' => Q .non H', rt := Q } (L2.start N vs) H) : FnG P w K mg base (k + 1) f fd ps sp := by
  obtain ⟨oc, od, kV, doc, pm, an, cdv, ct, osl, rfl, lk, hcd⟩ := F.ex
  refine ⟨len, fun A outer s H args us vs Q E rm e0 bt rv hq => ?_⟩
  have old : ∀ (b : Addr) (o : Obj), base.get? b = some o → s.heap.get? b = some o := fun b o e => (e0.bs b o e).1
  have kin : K.In s.heap := e0.mod.kin.keeps old
  have par : ∀ y ∈ ps.zip us, (defScope st).names.lookup y.1 = some .local ∨ ((defScope st).names.lookup y.1 = some .cell ∧ ((cellsFrom (s.heap.objs.size + 1) (defScope st).names []).lookup y.1).isSome = true) := by
    rintro ⟨n, v⟩ hy
    exact (S.par n (List.of_mem_zip hy).1).imp id fun q => ⟨q, PySem.W.cellsFrom_some _ _ _ (.inl q)⟩
  refine codeAny_call_function rm.room.depth (kin _ _ lk) rfl S.co S.gen rfl (PySem.W.codeRec_of kin hcd) (bt _ _ _ _ ?_)
  refine wpAny_newFunctionEnv_cells S.kind par fun env he s1 inn => ?_
  cases he
  refine ⟨(e0.mod.nolimit.keeps old).keeps inn.toInCall.keep, codeAny_func ?_⟩
  obtain ⟨t, pt, ht⟩ := hb cdv A outer s H vs Q E (rm.deeper _) hq
  have i0 : Inv (cxOf (L2.CX P w) P w K mg base N qual (defScope st) f cdv A outer s H E) [] (L2.start N vs) H s1 := inv_start S rm.room.hd e0 (len _ _ _ _ hq) rv inn
  refine wpAny_mono (pt.run [] s1 _ H _ i0 ht) (fun fl s2 he => ?_) fun _ _ he => he
  cases fl with
  | ret u =>
    obtain ⟨v, σ2, H2, i2, rv2, q⟩ := he
    exact ⟨v, H2, i2.os, i2.bare, i2.base, i2.hok, rv2, q⟩
  | next =>
    obtain ⟨σ2, H2, i2, q⟩ := he
    exact ⟨.non, H2, i2.os, i2.bare, i2.base, i2.hok, rfl, q⟩
  | brk => exact he.elim fun _ z => z.elim fun _ z => z.2.elim
  | cont => exact he.elim fun _ z => z.elim fun _ z => z.2.elim
/-- f(e, ..), with what it may let out -/
theorem pe_callG {X : Cx} {W : WX} {x : Str} {e : Expr} {es : List Expr} {t : TA} {p pos : Pos} (F : FnG X.prog X.w X.K X.mg X.base k f fd ps sp) (rm : Rm k X.A) (hg : Gl X x) (hm : X.mg x = some (.ref f)) (hk : PySem.W.keepIn X.K (.ref f) = true) (hb : Binds X.K fd ps []) (tk : Takes X W)
    (ha : PA X (e :: es) t) (hdb : (x == ("__debug__" : Str)) = false) (he : starEach (e :: es) X.env = (false, eval e X.env) :: starEach es X.env) (hpl : (backTo pos (starEach es X.env)).any (·.1) = false) :
    PE X (.Call (.Name x p) (e :: es) [] pos) (tCallS sp (fun σ cls d H => W cls d σ H) t) := ⟨fun pins s σ H Q i0 h => by
  refine wpAny_Call_Name_kw (ld_glob i0 hg hm ?_ hdb)
  refine PySem.W.callWith_K (h₀ := X.base) i0.ok.mod.kin hk (thn (ha.run pos pins s σ H _ i0 h) fun us s1 z => ?_) he hpl
  obtain ⟨vs, H1, i1, rv, q⟩ := z
  refine ⟨i1.kIn, wpAny_call (codeAny_mono (F.go X.A X.stack s1 H1 ⟨us, []⟩ us vs Q _ rm i1.env0 ?_ rv q) fun r s2 hr => ?_)⟩
  · have b := hb s1 us i1.kIn (by rw [List.append_nil, ← rv.length]; exact F.len _ _ _ _ q)
    rwa [List.append_nil] at b
  · cases r with
    | error u => exact passAt tk σ pins H1 s1 u s2 i1 hr
    | ok fl =>
      cases fl with
      | ret u => exact i1.after hr
      | next => exact hr.elim
      | brk => exact hr.elim
      | cont => exact hr.elim⟩
/-- the law's call over a heap in which at most the script is tracked -/
theorem lawG_core {mb : Str → Option Value} {fa a : Addr} {x : Str} {s₁ : Shared} {vs : List Value} {ns : List Int} {H : Hp} {spL : Sp}
    (kx : K.In s₁.heap) (nm : s₁.heap.Ns mainGlobals mg) (nb : s₁.heap.Ns builtinsNs mb) (bb : ∀ x : Str, x ≠ "__name__" → mb x = bootBuiltins x) (nl : s₁.heap.NoLimit) (gg : s₁.gens = #[])
    (la : s₁.heap.get? a = some { cls := .type "list", data := .seq vs.toArray }) (rm : Rm k callerA)
    (F : ∀ base : Heap, K.In base → base.Ns mainGlobals mg → FnG P w K mg base k fa fd [x] spL) (bd : ∀ (s : Shared) (u : Value), BindsTo s fd ⟨[u], []⟩ [(x, u)])
    (hsp : spL [.ref a] H (fun v _ => v = .bl true) fun _ _ _ => False) (only : Only H) (hok : HOk P w H s₁.heap) (onA : ∀ b, H b ≠ none → b = a) (notK : H a ≠ none → K.lookup a = none) :
    codeAny (model P w) callerA (.call (.ref fa) ⟨[.ref a], []⟩) (fun r s' => r = .ok (.ret (.bool true)) ∧ OldK s₁.heap s'.heap ∧ s'.os = s₁.os ∧ AllBare s'.gens) s₁ := by
  have free : ∀ (b : Addr) (o : Obj), s₁.heap.get? b = some o → (∀ es ep, o.data = .dict es ep → H b = none) := fun b o e es ep d => Classical.byContradiction fun z => by
    have eb := onA b z
    rw [eb, la] at e
    rw [← Option.some.inj e] at d
    cases d
  have ns' : ∀ {b : Addr} {m : Str → Option Value}, s₁.heap.Ns b m → (hidT s₁.heap H).Ns b m := by
    rintro b m ⟨o, es, ep, e, d, r⟩
    exact ⟨o, es, ep, hidT_get e (free b o e es ep d), d, r⟩
  have kin : K.In (hidT s₁.heap H) := fun b o e => hidT_get (kx b o e) (Classical.byContradiction fun z => by
    have eb := onA b z
    rw [eb] at e z
    rw [notK z] at e
    cases e)
  obtain ⟨mc, n1, n2⟩ := nl
  have md : Mod K mg (hidT s₁.heap H) := ⟨kin, ns' nm, ⟨mb, ns' nb, bb⟩, ⟨mc, ns' n1, n2⟩⟩
  have nin : ∀ b : Addr, b ∉ ([] : List Addr) := fun b z => by cases z
  have e0 : Env0 P w K mg (hidT s₁.heap H) callerA [] s₁ H := ⟨rfl, md, fun b o e => of_hidT e, Nat.le_of_eq (hidT_size _ _), trivial, fun b z => absurd z (nin b), hok, .of_eq gg⟩
  refine codeAny_mono ((F _ kin (ns' nm)).go callerA [] s₁ H ⟨[.ref a], []⟩ [.ref a] [.ref a] _ _ rm e0 (bd s₁ (.ref a)) (.cons rfl .nil) hsp) fun r s2 z => ?_
  cases r with
  | error u =>
    obtain ⟨_, _, _, _, _, _, _, _, _, _, _, _, q⟩ := z
    exact q.elim
  | ok fl =>
    cases fl with
    | next => exact z.elim
    | brk => exact z.elim
    | cont => exact z.elim
    | ret u =>
      obtain ⟨v, H2, so, br, un, hok2, rv, q⟩ := z
      have q : v = .bl true := q
      subst q
      have rv : u = .bool true := rv
      subst rv
      refine ⟨rfl, OldK.of_keep fun b o e => ?_, so, br⟩
      rcases only b with q | ⟨ob, xs, q⟩
      · exact un.keep b o e q (nin b) (nin b)
      · obtain ⟨g1, _⟩ := hok b _ q
        obtain ⟨g2, _⟩ := hok2 b _ (un.frzs b ob _ q)
        exact g2.trans (g1.symm.trans e)
theorem lawG {mb : Str → Option Value} {fa a : Addr} {x : Str} {s₁ : Shared} {vs : List Value} {ns : List Int} {spL : Sp}
    (kx : K.In s₁.heap) (nm : s₁.heap.Ns mainGlobals mg) (nb : s₁.heap.Ns builtinsNs mb) (bb : ∀ x : Str, x ≠ "__name__" → mb x = bootBuiltins x) (nl : s₁.heap.NoLimit) (gg : s₁.gens = #[])
    (la : s₁.heap.get? a = some { cls := .type "list", data := .seq vs.toArray }) (hi : IntsAre vs ns) (hl : ns.length ≤ sizeLine) (rm : Rm k callerA)
    (F : ∀ base : Heap, K.In base → base.Ns mainGlobals mg → FnG P w K mg base k fa fd [x] spL) (bd : ∀ (s : Shared) (u : Value), BindsTo s fd ⟨[u], []⟩ [(x, u)])
    (hsp : ∀ H : Hp, SqL K H a (ns.map V.int) → spL [.ref a] H (fun v _ => v = .bl true) fun _ _ _ => False) :
    codeAny (model P w) callerA (.call (.ref fa) ⟨[.ref a], []⟩) (fun r s' => r = .ok (.ret (.bool true)) ∧ OldK s₁.heap s'.heap ∧ s'.os = s₁.os ∧ AllBare s'.gens) s₁ := by
  have rv := vals_ints hi
  have lv := hi.length
  by_cases hk : K.lookup a = none
  · let H : Hp := fun b => if b = a then some (.frz { cls := .type "list", data := .seq vs.toArray } (.lst (ns.map V.int))) else none
    have h1 : H a = some (.frz { cls := .type "list", data := .seq vs.toArray } (.lst (ns.map V.int))) := if_pos rfl
    have h2 : ∀ b, b ≠ a → H b = none := fun b z => if_neg z
    have h3 : ∀ b, H b ≠ none → b = a := fun b z => Classical.byContradiction fun q => z (h2 b q)
    refine lawG_core (mb := mb) (H := H) (ns := ns) kx nm nb bb nl gg la rm F bd (hsp H (.inl (.inr ⟨_, h1⟩))) (fun b => ?_) (fun b u z => ?_) h3 fun _ => hk
    · by_cases e : b = a
      · exact .inr ⟨_, _, e ▸ h1⟩
      · exact .inl (h2 b e)
    · have e := h3 b (by rw [z]; exact fun q => by cases q)
      subst e
      rw [h1] at z
      cases z
      exact ⟨la, by rw [List.length_map]; exact hl, vs, _, rv, la⟩
  · obtain ⟨o, ho⟩ : ∃ o, K.lookup a = some o := by
      cases e : K.lookup a with
      | none => exact absurd e hk
      | some o => exact ⟨o, rfl⟩
    have eo := (kx a o ho).symm.trans la
    cases eo
    exact lawG_core (mb := mb) (H := fun _ => none) (ns := ns) kx nm nb bb nl gg la rm F bd (hsp _ (.inr ⟨_, vs.toArray, _, ho, rfl, rfl, rfl, by rw [List.size_toArray, lv]; exact hl, by simpa using rv⟩)) (fun _ => .inl rfl) (fun b u z => by cases z) (fun b z => absurd rfl z) fun z => absurd rfl z
end
theorem walkG {l : PySem.W.OpenLaw} {k : Nat} {q : Program} {loose : List Str} {XP : (Str → Option Value) → Heap → Prop} {YP : World → Heap → Prop} {d : DefRec} {K : Params → PySem.W.Frag} {sp : PySem.W.Frag → Sp} {x : Str} (hn : l.most = some 63) (hdf : d.params.defaults = []) (hr : Room k callerA)
    (hY : ∀ (w : World) (h : Heap), YP w h → (K w.params).In h)
    (F : ∀ (w : World) (mg : Str → Option Value) (fa : Addr) (h : Heap), (K w.params).In h → h.Ns mainGlobals mg → mg d.name = some (.ref fa) →
      ∃ fd : FuncData, (∀ (s : Shared) (u : Value), BindsTo s fd ⟨[u], []⟩ [(x, u)]) ∧ ∀ base : Heap, (K w.params).In base → base.Ns mainGlobals mg → FnG l.prog w (K w.params) mg base k fa fd [x] (sp (K w.params)))
    (hsp : ∀ (K : PySem.W.Frag) (H : Hp) (a : Addr) (ns : List Int), ns.length ≤ 63 → SqL K H a (ns.map V.int) → sp K [.ref a] H (fun v _ => v = .bl true) fun _ _ _ => False) :
    PySem.W.WalkO q loose XP YP l.row.toRowW d [] (fun f vs => PySem.call f vs) := by
  refine Att.attach_call hn hdf fun w s₀ s₁ mg mb fa o pm cd doc a vs ns G Y ho hd hcd hmg la hi hlen gg => ?_
  obtain ⟨fd, bd, hF⟩ := F w mg fa _ (hY w _ Y) G.T.g hmg
  exact lawG (hY w _ Y) G.T.g G.T.b G.T.builtins G.T.nolimit gg la hi (Nat.le_trans hlen (by decide)) ⟨hr, rfl⟩ hF bd fun H hS => hsp _ H a ns hlen hS
end Lk

namespace Lk
open PySem PySem.Spec PyProof.Rows L2

/-! ## 1. Values as trees, and how they lie in the abstract heap -/

inductive D where
  | non | bl (b : Bool) | int (i : Int) | str (x : Str)
  | tup (xs : List D) | lst (xs : List D)
  | dct (ks : List Key) (ds : List D)
  | ob (n : Nat) | gl (x : Str) | ty (n : String) | fl (ns : List Int)

/-- the written part, the module's names, where the law's hand lies -/
structure Ct where
  K : PySem.W.Frag
  mg : Str → Option Value
  hd : Option Addr
  pin : Option Addr := none

/-- who may write at an address: nobody; what is lent; a pending value; the slot i -/
inductive Lab where | tm | pd (k : Nat) | sl (i : Nat)
  deriving DecidableEq
abbrev Own := Addr → Option Lab

abbrev H0 : Hp := fun _ => none
def ShL (c : Ct) (M : Own) (H : Hp) (a : Addr) (vs : List V) : Prop := M a = none ∧ c.hd ≠ some a ∧ H a = some (.lst vs)
def ShT (c : Ct) (M : Own) (H : Hp) (a : Addr) (vs : List V) : Prop := (M a = none ∧ c.hd ≠ some a ∧ Rd H a (.tup vs)) ∨ SqT c.K H0 a vs
def ShD (c : Ct) (M : Own) (H : Hp) (a : Addr) (kv : List (Key × V)) : Prop := M a = none ∧ c.hd ≠ some a ∧ H a = some (.dK kv)

mutual
def Rep (c : Ct) (M : Own) (H : Hp) : D → V → Prop
  | .non, v => v = .non
  | .bl b, v => v = .bl b
  | .int i, v => v = .int i
  | .str x, v => v = .str x
  | .tup xs, v => ∃ a vs, v = .ref a ∧ ShT c M H a vs ∧ RepL c M H xs vs
  | .lst xs, v => ∃ a vs, v = .ref a ∧ ShL c M H a vs ∧ RepL c M H xs vs
  | .dct ks ds, v => ∃ a vs, v = .ref a ∧ ShD c M H a (ks.zip vs) ∧ ks.length = ds.length ∧ RepL c M H ds vs
  | .ob _, v => ∃ a, c.hd = some a ∧ v = .ref a
  | .gl x, v => ∃ a, c.mg x = some (.ref a) ∧ v = .ref a
  | .ty n, v => v = .ty n
  | .fl ns, v => ∃ a, v = .ref a ∧ ((M a = none ∧ c.hd ≠ some a ∧ Rd H a (.lst (ns.map V.int))) ∨ SqL c.K H0 a (ns.map V.int))
def RepL (c : Ct) (M : Own) (H : Hp) : List D → List V → Prop
  | [], vs => vs = []
  | d :: ds, vs => ∃ v r, vs = v :: r ∧ Rep c M H d v ∧ RepL c M H ds r
end

/-- what stood and may not be written stands -/
structure Fr (c : Ct) (M : Own) (H : Hp) (M' : Own) (H' : Hp) : Prop where
  keep : ∀ b o, H b = some o → (∀ i, M b ≠ some (.sl i)) → c.hd ≠ some b → H' b = some o ∧ M' b = M b
/-- all that stood stands -/
structure FrA (M : Own) (H : Hp) (M' : Own) (H' : Hp) : Prop where
  keep : ∀ b o, H b = some o → H' b = some o ∧ M' b = M b

section
variable {c : Ct} {M M1 M2 M' : Own} {H H1 H2 H' : Hp} {a : Addr} {vs : List V}
theorem FrA.fr (f : FrA M H M' H') : Fr c M H M' H' := ⟨fun b o h _ _ => f.keep b o h⟩
theorem Fr.refl : Fr c M H M H := ⟨fun _ _ h _ _ => ⟨h, rfl⟩⟩
theorem FrA.refl : FrA M H M H := ⟨fun _ _ h => ⟨h, rfl⟩⟩
theorem Fr.trans (f : Fr c M H M1 H1) (g : Fr c M1 H1 M2 H2) : Fr c M H M2 H2 := ⟨fun b o h n hd => by
  obtain ⟨h1, m1⟩ := f.keep b o h n hd
  obtain ⟨h2, m2⟩ := g.keep b o h1 (by rw [m1]; exact n) hd
  exact ⟨h2, m2.trans m1⟩⟩
theorem FrA.trans (f : FrA M H M1 H1) (g : FrA M1 H1 M2 H2) : FrA M H M2 H2 := ⟨fun b o h => by
  obtain ⟨h1, m1⟩ := f.keep b o h
  obtain ⟨h2, m2⟩ := g.keep b o h1
  exact ⟨h2, m2.trans m1⟩⟩
/-- a new object -/
def setM (M : Own) (a : Addr) (t : Option Lab) : Own := fun b => if b = a then t else M b
theorem setM_same {t : Option Lab} : setM M a t a = t := if_pos rfl
theorem setM_ne {t : Option Lab} {b : Addr} (h : b ≠ a) : setM M a t b = M b := if_neg h
theorem FrA.new {t : Option Lab} {o : HO} (h : H a = none) : FrA M H (setM M a t) (upd H a o) := ⟨fun b u e => by
  have ne : b ≠ a := ne_of_none e h
  exact ⟨(upd_ne ne).trans e, setM_ne ne⟩⟩
theorem FrA.own {t : Option Lab} (h : H a = none) (f : FrA M H M1 H1) : FrA M H (setM M1 a t) H1 := ⟨fun b u e => by
  have ne : b ≠ a := ne_of_none e h
  have z := f.keep b u e
  exact ⟨z.1, (setM_ne ne).trans z.2⟩⟩
theorem Fr.own {t : Option Lab} (h : H a = none) (f : Fr c M H M1 H1) : Fr c M H (setM M1 a t) H1 := ⟨fun b u e n hd => by
  have ne : b ≠ a := ne_of_none e h
  have z := f.keep b u e n hd
  exact ⟨z.1, (setM_ne ne).trans z.2⟩⟩

theorem ShL.seq (s : ShL c M H a vs) : SqL c.K H a vs := .of s.2.2
theorem ShT.seq (s : ShT c M H a vs) : SqT c.K H a vs := by
  rcases s with ⟨_, _, r⟩ | r
  · exact .inl r
  · rcases r with (r | ⟨o, r⟩) | r
    · cases r
    · cases r
    · exact .inr r
theorem nslot_of_none {b : Addr} (h : M b = none) : ∀ i, M b ≠ some (.sl i) := fun i z => by rw [h] at z; cases z
theorem nslot_of_tmp {b : Addr} (h : M b = some .tm) : ∀ i, M b ≠ some (.sl i) := fun i z => by rw [h] at z; cases z
theorem Fr.rd {u : HO} (f : Fr c M H M' H') (hm : M a = none) (hh : c.hd ≠ some a) (r : Rd H a u) : M' a = none ∧ Rd H' a u := by
  rcases r with r | ⟨o, r⟩
  · obtain ⟨h1, m1⟩ := f.keep a _ r (nslot_of_none hm) hh
    exact ⟨m1.trans hm, .inl h1⟩
  · obtain ⟨h1, m1⟩ := f.keep a _ r (nslot_of_none hm) hh
    exact ⟨m1.trans hm, .inr ⟨o, h1⟩⟩
theorem ShL.fr (s : ShL c M H a vs) (f : Fr c M H M' H') : ShL c M' H' a vs := by
  obtain ⟨m, n, r⟩ := s
  obtain ⟨h1, m1⟩ := f.keep a _ r (nslot_of_none m) n
  exact ⟨m1.trans m, n, h1⟩
theorem ShT.fr (s : ShT c M H a vs) (f : Fr c M H M' H') : ShT c M' H' a vs := by
  rcases s with ⟨m, n, r⟩ | r
  · obtain ⟨m', r'⟩ := f.rd m n r
    exact .inl ⟨m', n, r'⟩
  · exact .inr r
theorem ShD.fr {kv : List (Key × V)} (s : ShD c M H a kv) (f : Fr c M H M' H') : ShD c M' H' a kv := by
  obtain ⟨m, n, r⟩ := s
  obtain ⟨h1, m1⟩ := f.keep a _ r (nslot_of_none m) n
  exact ⟨m1.trans m, n, h1⟩
mutual
theorem Rep.fr (f : Fr c M H M' H') : ∀ {d : D} {v : V}, Rep c M H d v → Rep c M' H' d v
  | .non, _, h => h
  | .bl _, _, h => h
  | .int _, _, h => h
  | .str _, _, h => h
  | .tup xs, _, h => by
    unfold Rep at h ⊢
    obtain ⟨a, vs, e, s, r⟩ := h
    exact ⟨a, vs, e, s.fr f, RepL.fr f r⟩
  | .lst xs, _, h => by
    unfold Rep at h ⊢
    obtain ⟨a, vs, e, s, r⟩ := h
    exact ⟨a, vs, e, s.fr f, RepL.fr f r⟩
  | .dct ks ds, _, h => by
    unfold Rep at h ⊢
    obtain ⟨a, vs, e, s, l, r⟩ := h
    exact ⟨a, vs, e, s.fr f, l, RepL.fr f r⟩
  | .ob _, _, h => h
  | .gl _, _, h => h
  | .ty _, _, h => h
  | .fl _, _, h => by
    unfold Rep at h ⊢
    obtain ⟨a, e, ⟨m, n, r⟩ | r⟩ := h
    · obtain ⟨m', r'⟩ := f.rd m n r
      exact ⟨a, e, .inl ⟨m', n, r'⟩⟩
    · exact ⟨a, e, .inr r⟩
theorem RepL.fr (f : Fr c M H M' H') : ∀ {ds : List D} {vs : List V}, RepL c M H ds vs → RepL c M' H' ds vs
  | [], _, h => h
  | d :: ds, _, h => by
    unfold RepL at h ⊢
    obtain ⟨v, r, e, h1, h2⟩ := h
    exact ⟨v, r, e, Rep.fr f h1, RepL.fr f h2⟩
end
theorem RepL.length : ∀ {ds : List D} {vs : List V}, RepL c M H ds vs → vs.length = ds.length
  | [], _, h => by
    unfold RepL at h
    rw [h]; rfl
  | d :: ds, _, h => by
    unfold RepL at h
    obtain ⟨v, r, e, _, h2⟩ := h
    rw [e, List.length_cons, List.length_cons, RepL.length h2]
theorem RepL.get : ∀ {ds : List D} {vs : List V} {i : Nat} {d : D}, RepL c M H ds vs → ds[i]? = some d → ∃ v, vs[i]? = some v ∧ Rep c M H d v
  | [], _, _, _, _, e => by simp at e
  | d :: ds, _, 0, _, h, e => by
    unfold RepL at h
    obtain ⟨v, r, rfl, h1, _⟩ := h
    simp at e
    subst e
    exact ⟨v, rfl, h1⟩
  | d :: ds, _, i + 1, _, h, e => by
    unfold RepL at h
    obtain ⟨v, r, rfl, _, h2⟩ := h
    obtain ⟨w, e1, e2⟩ := RepL.get (i := i) h2 (by simpa using e)
    exact ⟨w, by simpa using e1, e2⟩
theorem RepL.getV : ∀ {ds : List D} {vs : List V} {i : Nat} {v : V}, RepL c M H ds vs → vs[i]? = some v → ∃ d, ds[i]? = some d ∧ Rep c M H d v := fun {ds vs i v} h e => by
  have hl := h.length
  have hi : i < vs.length := (List.getElem?_eq_some_iff.mp e).1
  have hd : ds[i]? = some (ds[i]'(by omega)) := List.getElem?_eq_getElem (by omega)
  obtain ⟨w, e1, e2⟩ := h.get hd
  rw [e] at e1
  cases e1
  exact ⟨_, hd, e2⟩
theorem RepL.append : ∀ {ds es : List D} {vs ws : List V}, RepL c M H ds vs → RepL c M H es ws → RepL c M H (ds ++ es) (vs ++ ws)
  | [], _, _, _, h, g => by
    unfold RepL at h
    subst h
    exact g
  | d :: ds, _, _, _, h, g => by
    unfold RepL at h
    obtain ⟨v, r, rfl, h1, h2⟩ := h
    show RepL c M H (d :: (ds ++ _)) (v :: (r ++ _))
    unfold RepL
    exact ⟨v, _, rfl, h1, RepL.append h2 g⟩
theorem RepL.nil : RepL c M H [] [] := by unfold RepL; rfl
theorem RepL.cons {d : D} {ds : List D} {v : V} (h : Rep c M H d v) (g : RepL c M H ds vs) : RepL c M H (d :: ds) (v :: vs) := by
  unfold RepL
  exact ⟨v, vs, rfl, h, g⟩
theorem RepL.one {d : D} {v : V} (h : Rep c M H d v) : RepL c M H [d] [v] := .cons h .nil
theorem RepL.take : ∀ {ds : List D} {vs : List V} (n : Nat), RepL c M H ds vs → RepL c M H (ds.take n) (vs.take n)
  | _, _, 0, _ => by rw [List.take_zero, List.take_zero]; exact .nil
  | [], _, n + 1, h => by
    unfold RepL at h
    subst h
    exact .nil
  | d :: ds, _, n + 1, h => by
    unfold RepL at h
    obtain ⟨v, r, rfl, h1, h2⟩ := h
    exact .cons h1 (RepL.take n h2)
theorem RepL.drop : ∀ {ds : List D} {vs : List V} (n : Nat), RepL c M H ds vs → RepL c M H (ds.drop n) (vs.drop n)
  | _, _, 0, h => h
  | [], _, n + 1, h => by
    unfold RepL at h
    subst h
    exact .nil
  | d :: ds, _, n + 1, h => by
    unfold RepL at h
    obtain ⟨v, r, rfl, _, h2⟩ := h
    exact RepL.drop (ds := ds) n h2
theorem RepL.set {d : D} {v : V} (g : Rep c M H d v) : ∀ {ds : List D} {vs : List V} (n : Nat), RepL c M H ds vs → RepL c M H (ds.set n d) (vs.set n v)
  | [], _, n, h => by
    unfold RepL at h
    subst h
    exact .nil
  | e :: ds, _, 0, h => by
    unfold RepL at h
    obtain ⟨w, r, rfl, _, h2⟩ := h
    exact .cons g h2
  | e :: ds, _, n + 1, h => by
    unfold RepL at h
    obtain ⟨w, r, rfl, h1, h2⟩ := h
    exact .cons h1 (RepL.set g n h2)
theorem RepL.eraseIdx : ∀ {ds : List D} {vs : List V} (n : Nat), RepL c M H ds vs → RepL c M H (ds.eraseIdx n) (vs.eraseIdx n)
  | [], _, n, h => by
    unfold RepL at h
    subst h
    exact .nil
  | e :: ds, _, 0, h => by
    unfold RepL at h
    obtain ⟨w, r, rfl, _, h2⟩ := h
    exact h2
  | e :: ds, _, n + 1, h => by
    unfold RepL at h
    obtain ⟨w, r, rfl, h1, h2⟩ := h
    exact .cons h1 (RepL.eraseIdx n h2)
theorem RepL.rev : ∀ {ds : List D} {vs : List V}, RepL c M H ds vs → RepL c M H ds.reverse vs.reverse
  | [], _, h => by
    unfold RepL at h
    subst h
    exact .nil
  | e :: ds, _, h => by
    unfold RepL at h
    obtain ⟨w, r, rfl, h1, h2⟩ := h
    rw [List.reverse_cons, List.reverse_cons]
    exact (RepL.rev h2).append (.one h1)
theorem RepL.ints : ∀ {ns : List Int} {vs : List V}, RepL c M H (ns.map D.int) vs → vs = ns.map V.int
  | [], _, h => by
    unfold RepL at h
    exact h
  | n :: ns, _, h => by
    unfold RepL at h
    obtain ⟨v, r, rfl, h1, h2⟩ := h
    have h1 : v = V.int n := h1
    subst h1
    rw [RepL.ints h2]
    rfl
theorem RepL.ofInts : ∀ (ns : List Int), RepL c M H (ns.map D.int) (ns.map V.int)
  | [] => .nil
  | n :: ns => .cons (show Rep c M H (.int n) (.int n) from rfl) (RepL.ofInts ns)
end

/-! ## 2. What a def's names hold -/

/-- how a name holds its value: shared, its own (may be written), lent -/
inductive Fl where | sh | ow | fz
abbrev Slot := Option (D × Fl)
abbrev Ev := List Slot
@[simp] def Ev.get : Ev → Nat → Slot
  | [], _ => none
  | s :: _, 0 => s
  | _ :: r, n + 1 => Ev.get r n
@[simp] def Ev.put : Ev → Nat → Slot → Ev
  | [], _, _ => []
  | _ :: r, 0, s => s :: r
  | x :: r, n + 1, s => x :: Ev.put r n s
theorem Ev.put_length : ∀ (ρ : Ev) (i : Nat) (s : Slot), (ρ.put i s).length = ρ.length
  | [], _, _ => rfl
  | _ :: _, 0, _ => rfl
  | _ :: r, i + 1, s => congrArg (· + 1) (Ev.put_length r i s)
theorem Ev.get_put_ne : ∀ {ρ : Ev} {i j : Nat} {s : Slot}, j ≠ i → (ρ.put i s).get j = ρ.get j
  | [], _, _, _, _ => rfl
  | _ :: _, 0, 0, _, h => absurd rfl h
  | _ :: _, 0, _ + 1, _, _ => rfl
  | _ :: _, _ + 1, 0, _, _ => rfl
  | _ :: r, i + 1, j + 1, s, h => Ev.get_put_ne (ρ := r) fun e => h (congrArg (· + 1) e)
theorem Ev.get_put : ∀ {ρ : Ev} {i : Nat} {s : Slot}, (ρ.put i s).get i = s ∨ (ρ.put i s).get i = none
  | [], _, _ => .inr rfl
  | _ :: _, 0, _ => .inl rfl
  | _ :: r, i + 1, s => Ev.get_put (ρ := r)
theorem Ev.put_ge : ∀ {ρ : Ev} {i : Nat} {s : Slot}, ρ.length ≤ i → ρ.put i s = ρ
  | [], _, _, _ => rfl
  | _ :: _, 0, _, h => absurd h (by simp)
  | x :: r, i + 1, s, h => congrArg (x :: ·) (Ev.put_ge (ρ := r) (Nat.le_of_succ_le_succ h))
theorem Ev.get_lt : ∀ {ρ : Ev} {i : Nat} {p : D × Fl}, ρ.get i = some p → i < ρ.length
  | [], _, _, h => nomatch h
  | _ :: _, 0, _, _ => Nat.succ_pos _
  | _ :: r, i + 1, p, h => Nat.succ_lt_succ (Ev.get_lt (ρ := r) h)

/-- a list or a dict that lies at a, to be written by t alone -/
def OwAt (c : Ct) (M : Own) (H : Hp) (a : Addr) : D → Prop
  | .lst xs => ∃ vs, H a = some (.lst vs) ∧ RepL c M H xs vs
  | .dct ks ds => ∃ vs, H a = some (.dK (ks.zip vs)) ∧ ks.length = ds.length ∧ RepL c M H ds vs
  | _ => False
def OwRep (c : Ct) (M : Own) (H : Hp) (t : Lab) (d : D) (v : V) : Prop := ∃ a, v = .ref a ∧ M a = some t ∧ c.hd ≠ some a ∧ OwAt c M H a d
def SlotRep (c : Ct) (M : Own) (H : Hp) (i : Nat) : Option V → Slot → Prop
  | _, none => True
  | some v, some (d, .sh) => Rep c M H d v
  | some v, some (d, .ow) => OwRep c M H (.sl i) d v ∧ (i = 0 → ∀ h, c.pin = some h → v = .ref h)
  | some v, some (d, .fz) => OwRep c M H .tm d v
  | none, some _ => False
structure EvRep (c : Ct) (M : Own) (H : Hp) (σ : List (Option V)) (ρ : Ev) : Prop where
  len : σ.length = ρ.length
  at_ : ∀ i, SlotRep c M H i (σ.getD i none) (ρ.get i)

/-- the law's hand: the cells, how many are drawn, what is left of a great one, the mix, how many were mixed -/
def HandOk (M : Own) (H : Hp) (h : Addr) : Prop := M h = none ∧ ∃ (cl : Addr) (cells : List Int) (p r x n : Int), H h = some (.lst [.ref cl, .int p, .int r, .int x, .int n]) ∧
  cl ≠ h ∧ M cl = none ∧ H cl = some (.lst (cells.map V.int)) ∧ (∀ z ∈ cells, 0 ≤ z) ∧ cells.length ≤ 63 ∧ 0 ≤ p ∧ 0 ≤ r ∧ 0 ≤ x ∧ x < 2147483648 ∧ 0 ≤ n
def HdOk (c : Ct) (M : Own) (H : Hp) : Prop := ∀ h, c.hd = some h → HandOk M H h
structure Good (c : Ct) (M : Own) (H : Hp) (σ : List (Option V)) (ρ : Ev) : Prop where
  hand : HdOk c M H
  ev : EvRep c M H σ ρ

section
variable {c : Ct} {M M1 M2 M' : Own} {H H1 H2 H' : Hp} {a : Addr} {vs : List V} {σ : List (Option V)} {ρ : Ev}
theorem OwAt.frL {d : D} (f : Fr c M H M' H') (hk : ∀ o, H a = some o → H' a = some o) (h : OwAt c M H a d) : OwAt c M' H' a d := by
  cases d with
  | lst xs =>
    obtain ⟨vs, e, r⟩ := h
    exact ⟨vs, hk _ e, r.fr f⟩
  | dct ks ds =>
    obtain ⟨vs, e, l, r⟩ := h
    exact ⟨vs, hk _ e, l, r.fr f⟩
  | _ => exact h
theorem OwAt.there {d : D} (h : OwAt c M H a d) : ∃ o, H a = some o := by
  cases d with
  | lst xs => exact ⟨_, h.choose_spec.1⟩
  | dct ks ds => exact ⟨_, h.choose_spec.1⟩
  | _ => exact h.elim
theorem OwRep.frA {t : Lab} {d : D} {v : V} (f : FrA M H M' H') (h : OwRep c M H t d v) : OwRep c M' H' t d v := by
  obtain ⟨a, e, m, n, o⟩ := h
  obtain ⟨u, hu⟩ := o.there
  exact ⟨a, e, (f.keep a u hu).2.trans m, n, o.frL f.fr fun o' ho => (f.keep a o' ho).1⟩
theorem OwRep.frT {d : D} {v : V} (f : Fr c M H M' H') (h : OwRep c M H .tm d v) : OwRep c M' H' .tm d v := by
  obtain ⟨a, e, m, n, o⟩ := h
  obtain ⟨u, hu⟩ := o.there
  have k := fun o' ho => f.keep a o' ho (nslot_of_tmp m) n
  exact ⟨a, e, (k u hu).2.trans m, n, o.frL f fun o' ho => (k o' ho).1⟩
theorem SlotRep.frA {i : Nat} {o : Option V} {s : Slot} (f : FrA M H M' H') (h : SlotRep c M H i o s) : SlotRep c M' H' i o s := by
  cases s with
  | none => cases o <;> trivial
  | some p =>
    obtain ⟨d, fl⟩ := p
    cases o with
    | none => cases fl <;> exact h
    | some v =>
      cases fl with
      | sh => exact Rep.fr f.fr h
      | ow => exact ⟨OwRep.frA f h.1, h.2⟩
      | fz => exact OwRep.frA f h
theorem EvRep.frA (f : FrA M H M' H') (h : EvRep c M H σ ρ) : EvRep c M' H' σ ρ := ⟨h.len, fun i => (h.at_ i).frA f⟩
/-- where nothing is written: names that are shared or lent -/
def still (ρ : Ev) : Prop := ∀ (i : Nat) (d : D), ρ.get i ≠ some (d, Fl.ow)
theorem EvRep.frS (hs : still ρ) (f : Fr c M H M' H') (h : EvRep c M H σ ρ) : EvRep c M' H' σ ρ := ⟨h.len, fun i => by
  have q := h.at_ i
  generalize e : ρ.get i = s at q ⊢
  generalize σ.getD i none = o at q ⊢
  cases s with
  | none => cases o <;> trivial
  | some p =>
    obtain ⟨d, fl⟩ := p
    cases o with
    | none => cases fl <;> exact q
    | some v =>
      cases fl with
      | sh => exact Rep.fr f q
      | ow => exact absurd e (hs i d)
      | fz => exact OwRep.frT f q⟩
theorem HandOk.frA {h : Addr} (f : FrA M H M' H') (k : HandOk M H h) : HandOk M' H' h := by
  obtain ⟨m, cl, cells, p, r, x, n, e1, ne, m2, e2, rest⟩ := k
  exact ⟨(f.keep _ _ e1).2.trans m, cl, cells, p, r, x, n, (f.keep _ _ e1).1, ne, (f.keep _ _ e2).2.trans m2, (f.keep _ _ e2).1, rest⟩
theorem HdOk.frA (f : FrA M H M' H') (k : HdOk c M H) : HdOk c M' H' := fun h e => (k h e).frA f
theorem Good.frA (f : FrA M H M' H') (g : Good c M H σ ρ) : Good c M' H' σ ρ := ⟨g.hand.frA f, g.ev.frA f⟩
theorem Good.nohd (g : Good c M H σ ρ) (h : H a = none) : c.hd ≠ some a := fun e => by
  obtain ⟨_, _, _, _, _, _, _, q, _⟩ := g.hand a e
  rw [h] at q
  cases q
end
end Lk

namespace Lk
open PySem PySem.Spec PyProof.Rows L2

/-! ## 3. The judgements: what must hold (plain trees only) so that the text does it -/
structure Xn where
  name : Str
  arg : Option (Str × D) := none
def XRep (c : Ct) (M : Own) (H : Hp) (x : Xn) (cls : Value) (dd : Option Addr) : Prop := ∃ a, c.mg x.name = some (.ref a) ∧ cls = .ref a ∧ match x.arg with
  | none => dd = none
  | some (f, d) => ∃ dx v, dd = some dx ∧ H dx = some (.xd [(f, v)]) ∧ M dx = none ∧ Rep c M H d v
abbrev KE := D → Ev → Prop
abbrev XP := Xn → Ev → Prop
abbrev ME := Ev → KE → XP → Prop
abbrev MT := Ev → (Bool → Ev → Prop) → XP → Prop
abbrev MA := Ev → (List D → Ev → Prop) → XP → Prop
abbrev M2 := Ev → (D → D → Ev → Prop) → XP → Prop
structure Po where
  nx : Ev → Prop
  rt : D → Ev → Prop
  ex : XP
  bk : Ev → Prop := fun _ => False
  ct : Ev → Prop := fun _ => False
abbrev MS := Ev → Po → Prop

def XOk (c : Ct) (W : WX) (M : Own) (H : Hp) (σ : L2.St) (E : XP) : Prop := ∀ x ρ' cls dd M' H', E x ρ' → Good c M' H' σ ρ' → Fr c M H M' H' → XRep c M' H' x cls dd → W cls dd σ H'
theorem XOk.fr {c : Ct} {W : WX} {M M1 : Own} {H H1 : Hp} {σ : L2.St} {E : XP} (x : XOk c W M H σ E) (f : Fr c M H M1 H1) : XOk c W M1 H1 σ E :=
  fun a b d e M' H' h g k r => x a b d e M' H' h g (f.trans k) r

def TErel (c : Ct) (W : WX) (t : TE) (m : ME) : Prop := ∀ M H σ ρ Q E (QV : VK), Good c M H σ ρ → m ρ Q E →
  (∀ d ρ' M' H' v, Q d ρ' → Good c M' H' σ ρ' → Fr c M H M' H' → Rep c M' H' d v → QV v H') → XOk c W M H σ E → t σ H QV
/-- an expression whose value is shared -/
def EE (c : Ct) (X : Cx) (W : WX) (e : Expr) (m : ME) : Prop := ∃ t, PE X e t ∧ TErel c W t m
def BRep (c : Ct) (M : Own) (H : Hp) (d : D) (v : V) : Prop := Rep c M H d v ∨ ∃ t, OwRep c M H t d v
def BRepL (c : Ct) (M : Own) (H : Hp) : List D → List V → Prop
  | [], vs => vs = []
  | d :: ds, vs => ∃ v r, vs = v :: r ∧ BRep c M H d v ∧ BRepL c M H ds r
def TBrel (c : Ct) (W : WX) (t : TE) (m : ME) : Prop := ∀ M H σ ρ Q E (QV : VK), Good c M H σ ρ → m ρ Q E →
  (∀ d ρ' M' H' v, Q d ρ' → Good c M' H' σ ρ' → Fr c M H M' H' → BRep c M' H' d v → QV v H') → XOk c W M H σ E → t σ H QV
/-- .. whose value is read only -/
def EB (c : Ct) (X : Cx) (W : WX) (e : Expr) (m : ME) : Prop := ∃ t, PE X e t ∧ TBrel c W t m
def TFrel (c : Ct) (W : WX) (t : TE) (m : ME) : Prop := ∀ M H σ ρ Q E (QV : VK), Good c M H σ ρ → m ρ Q E →
  (∀ d ρ' M' H' a, Q d ρ' → c.hd ≠ some a → (∀ l, Good c (setM M' a l) H' σ ρ' ∧ Fr c M H (setM M' a l) H' ∧ OwAt c (setM M' a l) H' a d) → QV (.ref a) H') → XOk c W M H σ E → t σ H QV
/-- .. whose value is a new list or dict -/
def EF (c : Ct) (X : Cx) (W : WX) (e : Expr) (m : ME) : Prop := ∃ t, PE X e t ∧ TFrel c W t m
/-- two operands -/
def E2 (c : Ct) (X : Cx) (W : WX) (a b : Expr) (m : M2) : Prop := ∃ ta tb, PE X a ta ∧ PE X b tb ∧ ∀ M H σ ρ Q E (R : V → V → Hp → Prop), Good c M H σ ρ → m ρ Q E →
  (∀ x y ρ' M' H' vx vy, Q x y ρ' → Good c M' H' σ ρ' → Fr c M H M' H' → BRep c M' H' x vx → BRep c M' H' y vy → R vx vy H') → XOk c W M H σ E → ta σ H fun vx H1 => tb σ H1 fun vy H2 => R vx vy H2
/-- arguments: shared; read only -/
def AS (c : Ct) (X : Cx) (W : WX) (es : List Expr) (m : MA) : Prop := ∃ t, PA X es t ∧ ∀ M H σ ρ Q E (QV : List V → Hp → Prop), Good c M H σ ρ → m ρ Q E →
  (∀ ds ρ' M' H' vs, Q ds ρ' → Good c M' H' σ ρ' → Fr c M H M' H' → RepL c M' H' ds vs → QV vs H') → XOk c W M H σ E → t σ H QV
def AB (c : Ct) (X : Cx) (W : WX) (es : List Expr) (m : MA) : Prop := ∃ t, PA X es t ∧ ∀ M H σ ρ Q E (QV : List V → Hp → Prop), Good c M H σ ρ → m ρ Q E →
  (∀ ds ρ' M' H' vs, Q ds ρ' → Good c M' H' σ ρ' → Fr c M H M' H' → BRepL c M' H' ds vs → QV vs H') → XOk c W M H σ E → t σ H QV
def TTrel (c : Ct) (W : WX) (t : TT) (m : MT) : Prop := ∀ M H σ ρ Q E (QB : Bool → Hp → Prop), Good c M H σ ρ → m ρ Q E →
  (∀ b ρ' M' H', Q b ρ' → Good c M' H' σ ρ' → Fr c M H M' H' → QB b H') → XOk c W M H σ E → t σ H QB
/-- tests -/
def ET (c : Ct) (X : Cx) (W : WX) (e : Expr) (m : MT) : Prop := ∃ t, PT X e t ∧ TTrel c W t m
def EW (c : Ct) (X : Cx) (W : WX) (e : Expr) (m : MT) : Prop := ∃ t, PW X e t ∧ TTrel c W t m

/-- what a two-place operation asks of trees -/
abbrev F2 := D → D → (D → Prop) → Prop
abbrev FA := List D → (D → Prop) → Prop
def OpSp (c : Ct) (r : R2) (f : F2) : Prop := ∀ M H x y vx vy (Qd : D → Prop) (QV : VK), HdOk c M H → BRep c M H x vx → BRep c M H y vy → f x y Qd →
  (∀ d M' H' v, Qd d → FrA M H M' H' → Rep c M' H' d v → QV v H') → r vx vy H QV
/-- .. that gives a new list -/
def OpSpF (c : Ct) (r : R2) (f : F2) : Prop := ∀ M H x y vx vy (Qd : D → Prop) (QV : VK), HdOk c M H → BRep c M H x vx → BRep c M H y vy → f x y Qd →
  (∀ d a o, Qd d → H a = none → (∀ M', FrA M H M' (upd H a o) → OwAt c M' (upd H a o) a d) → QV (.ref a) (upd H a o)) → r vx vy H QV
abbrev R1 := List V → Hp → VK → Prop
def CallSp (c : Ct) (r : R1) (f : FA) : Prop := ∀ M H ds vs (Qd : D → Prop) (QV : VK), HdOk c M H → BRepL c M H ds vs → f ds Qd →
  (∀ d M' H' v, Qd d → FrA M H M' H' → Rep c M' H' d v → QV v H') → r vs H QV
def CallSpF (c : Ct) (r : R1) (f : FA) : Prop := ∀ M H ds vs (Qd : D → Prop) (QV : VK), HdOk c M H → BRepL c M H ds vs → f ds Qd →
  (∀ d a o, Qd d → H a = none → (∀ M', FrA M H M' (upd H a o) → OwAt c M' (upd H a o) a d) → QV (.ref a) (upd H a o)) → r vs H QV

section
variable {c : Ct} {X : Cx} {W : WX} {M M' : Own} {H H' : Hp} {a : Addr} {σ : L2.St} {ρ : Ev}
/-! ### giving a list free -/
mutual
theorem Rep.rel {l : Lab} (hm : M a = some l) (t : Option Lab) : ∀ {d : D} {v : V}, Rep c M H d v → Rep c (setM M a t) H d v
  | .non, _, h => h
  | .bl _, _, h => h
  | .int _, _, h => h
  | .str _, _, h => h
  | .tup xs, _, h => by
    unfold Rep at h ⊢
    obtain ⟨b, vs, e, s, r⟩ := h
    refine ⟨b, vs, e, ?_, RepL.rel hm t r⟩
    rcases s with ⟨m, n, q⟩ | q
    · exact .inl ⟨(setM_ne fun z => by rw [z, hm] at m; cases m).trans m, n, q⟩
    · exact .inr q
  | .lst xs, _, h => by
    unfold Rep at h ⊢
    obtain ⟨b, vs, e, s, r⟩ := h
    obtain ⟨m, n, q⟩ := s
    exact ⟨b, vs, e, ⟨(setM_ne fun z => by rw [z, hm] at m; cases m).trans m, n, q⟩, RepL.rel hm t r⟩
  | .dct ks ds, _, h => by
    unfold Rep at h ⊢
    obtain ⟨b, vs, e, ⟨m, n, q⟩, l, r⟩ := h
    exact ⟨b, vs, e, ⟨(setM_ne fun z => by rw [z, hm] at m; cases m).trans m, n, q⟩, l, RepL.rel hm t r⟩
  | .ob _, _, h => h
  | .gl _, _, h => h
  | .ty _, _, h => h
  | .fl _, _, h => by
    unfold Rep at h ⊢
    obtain ⟨b, e, ⟨m, n, q⟩ | q⟩ := h
    · exact ⟨b, e, .inl ⟨(setM_ne fun z => by rw [z, hm] at m; cases m).trans m, n, q⟩⟩
    · exact ⟨b, e, .inr q⟩
theorem RepL.rel {l : Lab} (hm : M a = some l) (t : Option Lab) : ∀ {ds : List D} {vs : List V}, RepL c M H ds vs → RepL c (setM M a t) H ds vs
  | [], _, h => h
  | d :: ds, _, h => by
    unfold RepL at h ⊢
    obtain ⟨v, r, e, h1, h2⟩ := h
    exact ⟨v, r, e, Rep.rel hm t h1, RepL.rel hm t h2⟩
end
theorem OwAt.rel {l : Lab} {b : Addr} {d : D} (hm : M a = some l) (t : Option Lab) (h : OwAt c M H b d) : OwAt c (setM M a t) H b d := by
  cases d with
  | lst xs =>
    obtain ⟨vs, e, r⟩ := h
    exact ⟨vs, e, RepL.rel hm t r⟩
  | dct ks ds =>
    obtain ⟨vs, e, l, r⟩ := h
    exact ⟨vs, e, l, RepL.rel hm t r⟩
  | _ => exact h
theorem OwRep.rel {l k : Lab} {d : D} {v : V} (hm : M a = some l) (ne : k ≠ l) (t : Option Lab) (h : OwRep c M H k d v) : OwRep c (setM M a t) H k d v := by
  obtain ⟨b, e, m, n, o⟩ := h
  exact ⟨b, e, (setM_ne fun z => by rw [z, hm] at m; exact ne (Option.some.inj m).symm).trans m, n, o.rel hm t⟩
theorem HandOk.rel {l : Lab} {h : Addr} (hm : M a = some l) (t : Option Lab) (k : HandOk M H h) : HandOk (setM M a t) H h := by
  obtain ⟨m, cl, cells, p, r, x, n, e1, ne, m2, rest⟩ := k
  exact ⟨(setM_ne fun z => by rw [z, hm] at m; cases m).trans m, cl, cells, p, r, x, n, e1, ne, (setM_ne fun z => by rw [z, hm] at m2; cases m2).trans m2, rest⟩
theorem HdOk.rel {l : Lab} (hm : M a = some l) (t : Option Lab) (k : HdOk c M H) : HdOk c (setM M a t) H := fun h e => (k h e).rel hm t
theorem OwAt.rep {d : D} (hm : M a = none) (hn : c.hd ≠ some a) (h : OwAt c M H a d) : Rep c M H d (.ref a) := by
  cases d with
  | lst xs =>
    obtain ⟨vs, e, r⟩ := h
    unfold Rep
    exact ⟨a, vs, rfl, ⟨hm, hn, e⟩, r⟩
  | dct ks ds =>
    obtain ⟨vs, e, l, r⟩ := h
    unfold Rep
    exact ⟨a, vs, rfl, ⟨hm, hn, e⟩, l, r⟩
  | _ => exact h.elim
/-- what slot i owned is given free -/
theorem Good.free {i : Nat} {d : D} (g : Good c M H σ ρ) (e : ρ.get i = some (d, .ow)) :
    ∃ v M', σ[i]? = some (some v) ∧ Good c M' H σ (ρ.put i (some (d, .sh))) ∧ Fr c M H M' H ∧ Rep c M' H d v := by
  have q := g.ev.at_ i
  rw [e] at q
  have hi : i < σ.length := by rw [g.ev.len]; exact Ev.get_lt e
  cases es : σ[i]? with
  | none => exact absurd (List.getElem?_eq_none_iff.mp es) (by omega)
  | some o =>
    have ed : σ.getD i none = o := by rw [List.getD_eq_getElem?_getD, es]; rfl
    rw [ed] at q
    cases o with
    | none => exact q.elim
    | some v =>
      obtain ⟨⟨b, ev, m, n, ow⟩, _⟩ := q
      have rr : Rep c (setM M b none) H d (V.ref b) := OwAt.rep setM_same n (ow.rel m none)
      refine ⟨v, setM M b none, rfl, ⟨g.hand.rel m none, ⟨by rw [Ev.put_length]; exact g.ev.len, fun j => ?_⟩⟩, ⟨fun b' o' h1 h2 _ => ⟨h1, setM_ne fun z => h2 i (by rw [z]; exact m)⟩⟩, by rw [ev]; exact rr⟩
      by_cases hj : j = i
      · subst hj
        rcases Ev.get_put (ρ := ρ) (i := j) (s := some (d, Fl.sh)) with z | z
        · rw [z, ed]
          show Rep _ _ _ _ _
          rw [ev]
          exact rr
        · rw [z]
          cases σ.getD j none <;> trivial
      · rw [Ev.get_put_ne hj]
        have q := g.ev.at_ j
        generalize ρ.get j = s at q ⊢
        generalize σ.getD j none = o at q ⊢
        cases s with
        | none => cases o <;> trivial
        | some p =>
          obtain ⟨d', fl⟩ := p
          cases o with
          | none => cases fl <;> exact q
          | some w =>
            cases fl with
            | sh => exact Rep.rel m none q
            | ow => exact ⟨OwRep.rel m (fun z => by cases z; exact hj rfl) none q.1, q.2⟩
            | fz => exact OwRep.rel m (fun z => by cases z) none q
theorem Good.look {i : Nat} {d : D} {fl : Fl} (g : Good c M H σ ρ) (e : ρ.get i = some (d, fl)) : ∃ v, σ[i]? = some (some v) ∧ BRep c M H d v ∧ (fl = .sh → Rep c M H d v) := by
  have q := g.ev.at_ i
  rw [e] at q
  have hi : i < σ.length := by rw [g.ev.len]; exact Ev.get_lt e
  cases es : σ[i]? with
  | none => exact absurd (List.getElem?_eq_none_iff.mp es) (by omega)
  | some o =>
    have ed : σ.getD i none = o := by rw [List.getD_eq_getElem?_getD, es]; rfl
    rw [ed] at q
    cases o with
    | none => cases fl <;> exact q.elim
    | some v =>
      cases fl with
      | sh => exact ⟨v, rfl, .inl q, fun _ => q⟩
      | ow => exact ⟨v, rfl, .inr ⟨_, q.1⟩, fun z => nomatch z⟩
      | fz => exact ⟨v, rfl, .inr ⟨_, q⟩, fun z => nomatch z⟩

/-! ### names, constants -/
@[simp] def mVar (i : Nat) : ME := fun ρ Q _ => match ρ.get i with
  | some (d, .sh) => Q d ρ
  | some (d, .ow) => Q d (ρ.put i (some (d, .sh)))
  | _ => False
@[simp] def mBor (i : Nat) : ME := fun ρ Q _ => match ρ.get i with
  | some (d, _) => Q d ρ
  | none => False
@[simp] def mC (d : D) : ME := fun ρ Q _ => Q d ρ
theorem ee_var (i : Nat) {x : Str} {pos : Pos} (hN : X.N[i]? = some x := by rfl) (hv : Vis X.env.scope x := by first | exact Or.inl rfl | exact Or.inr (Or.inl rfl) | exact Or.inr (Or.inr rfl)) (hd : (x == ("__debug__" : Str)) = false := by decide)
    (hcd : (x == ("__classdict__" : Str)) = false := by decide) : EE c X W (.Name x pos) (mVar i) := by
  refine ⟨tVar i, pe_var hN hv hd hcd, fun M H σ ρ Q E QV g h k _ => ?_⟩
  unfold mVar at h
  cases e : ρ.get i with
  | none => rw [e] at h; exact h.elim
  | some p =>
    obtain ⟨d, fl⟩ := p
    rw [e] at h
    cases fl with
    | sh =>
      obtain ⟨v, e1, _, r⟩ := g.look e
      exact ⟨v, e1, k d ρ M H v h g .refl (r rfl)⟩
    | ow =>
      obtain ⟨v, M', e1, g', f, r⟩ := g.free e
      exact ⟨v, e1, k d _ M' H v h g' f r⟩
    | fz => exact h.elim
theorem eb_var (i : Nat) {x : Str} {pos : Pos} (hN : X.N[i]? = some x := by rfl) (hv : Vis X.env.scope x := by first | exact Or.inl rfl | exact Or.inr (Or.inl rfl) | exact Or.inr (Or.inr rfl)) (hd : (x == ("__debug__" : Str)) = false := by decide)
    (hcd : (x == ("__classdict__" : Str)) = false := by decide) : EB c X W (.Name x pos) (mBor i) := by
  refine ⟨tVar i, pe_var hN hv hd hcd, fun M H σ ρ Q E QV g h k _ => ?_⟩
  unfold mBor at h
  cases e : ρ.get i with
  | none => rw [e] at h; exact h.elim
  | some p =>
    obtain ⟨d, fl⟩ := p
    rw [e] at h
    obtain ⟨v, e1, b, _⟩ := g.look e
    exact ⟨v, e1, k d ρ M H v h g .refl b⟩
theorem EE.eb {e : Expr} {m : ME} (h : EE c X W e m) : EB c X W e m := by
  obtain ⟨t, p, r⟩ := h
  exact ⟨t, p, fun M H σ ρ Q E QV g hm k x => r M H σ ρ Q E QV g hm (fun d ρ' M' H' v q g' f r' => k d ρ' M' H' v q g' f (.inl r')) x⟩
theorem EF.ee {e : Expr} {m : ME} (h : EF c X W e m) : EE c X W e m := by
  obtain ⟨t, p, r⟩ := h
  refine ⟨t, p, fun M H σ ρ Q E QV g hm k x => r M H σ ρ Q E QV g hm (fun d ρ' M' H' a q n z => ?_) x⟩
  obtain ⟨g', f', o⟩ := z none
  exact k d ρ' _ H' _ q g' f' (o.rep setM_same n)
theorem ee_c {e : Expr} {d : D} {v : V} (hp : PE X e (tC v)) (hr : ∀ M H, Rep c M H d v) : EE c X W e (mC d) :=
  ⟨tC v, hp, fun M H σ ρ Q E QV g h k _ => k d ρ M H v h g .refl (hr M H)⟩
theorem ee_int {i j pos} : EE c X W (.Constant (.int i) j pos) (mC (.int i)) := ee_c pe_int fun _ _ => rfl
theorem ee_bl {b j pos} : EE c X W (.Constant (.bool b) j pos) (mC (.bl b)) := ee_c pe_bl fun _ _ => rfl
theorem ee_non {j pos} : EE c X W (.Constant .none j pos) (mC .non) := ee_c pe_non fun _ _ => rfl
theorem ee_str {x j pos} : EE c X W (.Constant (.str x) j pos) (mC (.str x)) := ee_c pe_str fun _ _ => rfl
/-- a module's constant as a tree -/
def GlobR (c : Ct) (X : Cx) (x : Str) (d : D) : Prop := ∃ v u, X.mg x = some u ∧ RelV v u ∧ ∀ M H, Rep c M H d v
theorem ee_glob {x : Str} {d : D} {pos : Pos} (h : GlobR c X x d) (hg : Gl X x := by rfl) (hd : (x == ("__debug__" : Str)) = false := by decide) : EE c X W (.Name x pos) (mC d) := by
  obtain ⟨v, u, hm, r, hr⟩ := h
  exact ee_c (pe_glob hg hm r hd) hr
theorem ee_ty {x : Str} {n : String} {pos : Pos} (hm : X.mg x = none) (hv : bootBuiltins x = some (.type n) := by decide +kernel) (hg : Gl X x := by rfl) (hn : x ≠ "__name__" := by decide) (hd : (x == ("__debug__" : Str)) = false := by decide) :
    EE c X W (.Name x pos) (mC (.ty n)) := ee_c (pe_bltn (v := .ty n) hg hm hv rfl hn hd) fun _ _ => rfl

/-! ### operations -/
@[simp] def m2 (ma mb : ME) : M2 := fun ρ Q E => ma ρ (fun x ρ1 => mb ρ1 (fun y ρ2 => Q x y ρ2) E) E
@[simp] def m2v (i : Nat) (mb : ME) : M2 := fun ρ Q E => match ρ.get i with
  | none => False
  | some _ => mb ρ (fun y ρ1 => match ρ1.get i with
    | some (d, _) => Q d y ρ1
    | none => False) E
theorem e2_s {a b : Expr} {ma mb : ME} (ha : EE c X W a ma) (hb : EB c X W b mb) : E2 c X W a b (m2 ma mb) := by
  obtain ⟨ta, pa, ra⟩ := ha
  obtain ⟨tb, pb, rb⟩ := hb
  refine ⟨ta, tb, pa, pb, fun M H σ ρ Q E R g h k x => ?_⟩
  refine ra M H σ ρ _ E _ g h (fun d ρ1 M1 H1 v q g1 f1 r1 => ?_) x
  refine rb M1 H1 σ ρ1 _ E _ g1 q (fun d2 ρ2 M2 H2 v2 q2 g2 f2 r2 => ?_) (x.fr f1)
  exact k d d2 ρ2 M2 H2 v v2 q2 g2 (f1.trans f2) (.inl (r1.fr f2)) r2
theorem e2_v (i : Nat) {x : Str} {pos : Pos} {b : Expr} {mb : ME} (hb : EB c X W b mb) (hN : X.N[i]? = some x := by rfl) (hv : Vis X.env.scope x := by first | exact Or.inl rfl | exact Or.inr (Or.inl rfl) | exact Or.inr (Or.inr rfl)) (hd : (x == ("__debug__" : Str)) = false := by decide)
    (hcd : (x == ("__classdict__" : Str)) = false := by decide) : E2 c X W (.Name x pos) b (m2v i mb) := by
  obtain ⟨tb, pb, rb⟩ := hb
  refine ⟨tVar i, tb, pe_var hN hv hd hcd, pb, fun M H σ ρ Q E R g h k xx => ?_⟩
  unfold m2v at h
  cases e0 : ρ.get i with
  | none => rw [e0] at h; exact h.elim
  | some p0 =>
    obtain ⟨d0, fl0⟩ := p0
    rw [e0] at h
    obtain ⟨v, hs, _⟩ := g.look e0
    refine ⟨v, hs, ?_⟩
    refine rb M H σ ρ _ E _ g h (fun d2 ρ2 M2 H2 v2 q2 g2 f2 r2 => ?_) xx
    cases e : ρ2.get i with
    | none => rw [e] at q2; exact q2.elim
    | some p =>
      obtain ⟨d, fl⟩ := p
      rw [e] at q2
      obtain ⟨w, e1, b, _⟩ := g2.look e
      rw [hs] at e1
      cases e1
      exact k d d2 ρ2 M2 H2 v v2 q2 g2 f2 b r2
end
end Lk

namespace Lk
open PySem PySem.Spec PyProof.Rows L2
section
variable {c : Ct} {M M' : Own} {H H' : Hp} {a : Addr}
/-! ### what a value that is read looks like -/
theorem BRep.non {v : V} (h : BRep c M H .non v) : v = .non := by
  rcases h with h | ⟨_, _, _, _, _, h⟩
  · exact h
  · exact h.elim
theorem BRep.bl {b : Bool} {v : V} (h : BRep c M H (.bl b) v) : v = .bl b := by
  rcases h with h | ⟨_, _, _, _, _, h⟩
  · exact h
  · exact h.elim
theorem BRep.int {i : Int} {v : V} (h : BRep c M H (.int i) v) : v = .int i := by
  rcases h with h | ⟨_, _, _, _, _, h⟩
  · exact h
  · exact h.elim
theorem BRep.str {i : Str} {v : V} (h : BRep c M H (.str i) v) : v = .str i := by
  rcases h with h | ⟨_, _, _, _, _, h⟩
  · exact h
  · exact h.elim
theorem BRep.ty {n : String} {v : V} (h : BRep c M H (.ty n) v) : v = .ty n := by
  rcases h with h | ⟨_, _, _, _, _, h⟩
  · exact h
  · exact h.elim
theorem BRep.gl {x : Str} {v : V} (h : BRep c M H (.gl x) v) : ∃ a, c.mg x = some (.ref a) ∧ v = .ref a := by
  rcases h with h | ⟨_, _, _, _, _, h⟩
  · exact h
  · exact h.elim
theorem BRep.tup {xs : List D} {v : V} (h : BRep c M H (.tup xs) v) : ∃ a vs, v = .ref a ∧ SqT c.K H a vs ∧ RepL c M H xs vs := by
  rcases h with h | ⟨_, _, _, _, _, h⟩
  · unfold Rep at h
    obtain ⟨a, vs, e, s, r⟩ := h
    exact ⟨a, vs, e, s.seq, r⟩
  · exact h.elim
theorem BRep.lst {xs : List D} {v : V} (h : BRep c M H (.lst xs) v) : ∃ a vs, v = .ref a ∧ SqL c.K H a vs ∧ RepL c M H xs vs := by
  rcases h with h | ⟨_, a, e, _, _, vs, q, r⟩
  · unfold Rep at h
    obtain ⟨a, vs, e, s, r⟩ := h
    exact ⟨a, vs, e, s.seq, r⟩
  · exact ⟨a, vs, e, .of q, r⟩
theorem BRep.lstH {xs : List D} {v : V} (h : BRep c M H (.lst xs) v) : ∃ a vs, v = .ref a ∧ H a = some (.lst vs) ∧ RepL c M H xs vs := by
  rcases h with h | ⟨_, a, e, _, _, vs, q, r⟩
  · unfold Rep at h
    obtain ⟨a, vs, e, s, r⟩ := h
    exact ⟨a, vs, e, s.2.2, r⟩
  · exact ⟨a, vs, e, q, r⟩
theorem BRep.dct {ks : List Key} {ds : List D} {v : V} (h : BRep c M H (.dct ks ds) v) : ∃ a vs, v = .ref a ∧ H a = some (.dK (ks.zip vs)) ∧ ks.length = ds.length ∧ RepL c M H ds vs := by
  rcases h with h | ⟨_, a, e, _, _, vs, q, l, r⟩
  · unfold Rep at h
    obtain ⟨a, vs, e, ⟨_, _, q⟩, l, r⟩ := h
    exact ⟨a, vs, e, q, l, r⟩
  · exact ⟨a, vs, e, q, l, r⟩
theorem BRep.fl {ns : List Int} {v : V} (h : BRep c M H (.fl ns) v) : ∃ a, v = .ref a ∧ SqL c.K H a (ns.map V.int) := by
  rcases h with h | ⟨_, _, _, _, _, h⟩
  · unfold Rep at h
    obtain ⟨a, e, ⟨_, _, r⟩ | r⟩ := h
    · exact ⟨a, e, .inl r⟩
    · rcases r with (r | ⟨o, r⟩) | r
      · cases r
      · cases r
      · exact ⟨a, e, .inr r⟩
  · exact h.elim
theorem BRepL.nil {vs : List V} (h : BRepL c M H [] vs) : vs = [] := h
theorem BRepL.one {d : D} {vs : List V} (h : BRepL c M H [d] vs) : ∃ v, vs = [v] ∧ BRep c M H d v := by
  obtain ⟨v, r, e, h1, h2⟩ := h
  exact ⟨v, by rw [e, h2.nil], h1⟩
theorem BRepL.two {d e : D} {vs : List V} (h : BRepL c M H [d, e] vs) : ∃ v w, vs = [v, w] ∧ BRep c M H d v ∧ BRep c M H e w := by
  obtain ⟨v, r, e1, h1, h2⟩ := h
  obtain ⟨w, rfl, h3⟩ := h2.one
  exact ⟨v, w, e1, h1, h3⟩
theorem BRepL.three {d e f : D} {vs : List V} (h : BRepL c M H [d, e, f] vs) : ∃ v w z, vs = [v, w, z] ∧ BRep c M H d v ∧ BRep c M H e w ∧ BRep c M H f z := by
  obtain ⟨v, r, e1, h1, h2⟩ := h
  obtain ⟨w, z, rfl, h3, h4⟩ := h2.two
  exact ⟨v, w, z, e1, h1, h3, h4⟩
theorem RepL.brep : ∀ {ds : List D} {vs : List V}, RepL c M H ds vs → BRepL c M H ds vs
  | [], _, h => by
    unfold RepL at h
    exact h
  | d :: ds, _, h => by
    unfold RepL at h
    obtain ⟨v, r, e, h1, h2⟩ := h
    exact ⟨v, r, e, .inl h1, RepL.brep h2⟩
/-- a new tuple, a new list -/
theorem rep_newT {xs : List D} {vs : List V} (hn : H a = none) (hh : c.hd ≠ some a) (r : RepL c M H xs vs) : Rep c (setM M a none) (upd H a (.tup vs)) (.tup xs) (.ref a) := by
  unfold Rep
  exact ⟨a, vs, rfl, .inl ⟨setM_same, hh, .inl upd_same⟩, r.fr (FrA.new hn).fr⟩
theorem own_newL {M' : Own} {xs : List D} {vs : List V} (r : RepL c M H xs vs) (f : FrA M H M' (upd H a (.lst vs))) : OwAt c M' (upd H a (.lst vs)) a (.lst xs) := ⟨vs, upd_same, r.fr f.fr⟩

/-! ### truth -/
def dTru : D → Option Bool
  | .non => some false
  | .bl b => some b
  | .int i => some (i != 0)
  | .str s => if s.length ≤ sizeLine then some ((s.length : Int) != 0) else none
  | .tup xs => some !xs.isEmpty
  | .lst xs => some !xs.isEmpty
  | .dct ks _ => some !ks.isEmpty
  | _ => none
theorem RepL.isEmpty {ds : List D} {vs : List V} (h : RepL c M H ds vs) : vs.isEmpty = ds.isEmpty := by
  have l := h.length
  cases ds <;> cases vs <;> first | rfl | simp at l
theorem zip_isEmpty {α β : Type} : ∀ {ks : List α} {vs : List β}, ks.length = vs.length → (ks.zip vs).isEmpty = ks.isEmpty
  | [], _, _ => rfl
  | _ :: _, [], h => by simp at h
  | _ :: _, _ :: _, _ => rfl
theorem BRep.tru {d : D} {v : V} {b : Bool} (h : BRep c M H d v) (e : dTru d = some b) : TruV c.K v H b := by
  cases d with
  | non => rw [h.non]; exact (Option.some.inj e).symm
  | bl k => rw [h.bl]; exact (Option.some.inj e).symm
  | int i => rw [h.int]; exact (Option.some.inj e).symm
  | str s =>
    rw [h.str]
    have e : (if s.length ≤ sizeLine then some ((s.length : Int) != 0) else none) = some b := e
    by_cases z : s.length ≤ sizeLine
    · rw [if_pos z] at e
      exact ⟨z, (Option.some.inj e).symm⟩
    · rw [if_neg z] at e
      cases e
  | tup xs =>
    obtain ⟨a, vs, rfl, s, r⟩ := h.tup
    exact .inr (.inl ⟨vs, s, by rw [r.isEmpty]; exact (Option.some.inj e).symm⟩)
  | lst xs =>
    obtain ⟨a, vs, rfl, s, r⟩ := h.lst
    exact .inl ⟨vs, s, by rw [r.isEmpty]; exact (Option.some.inj e).symm⟩
  | dct ks ds =>
    obtain ⟨a, vs, rfl, s, l, r⟩ := h.dct
    exact .inr (.inr ⟨_, s, by rw [zip_isEmpty (by rw [r.length]; exact l)]; exact (Option.some.inj e).symm⟩)
  | ob _ => cases e
  | gl _ => cases e
  | ty _ => cases e
  | fl _ => cases e
end

structure Fit (c : Ct) (X : Cx) : Prop where
  K : c.K = X.K
  mg : c.mg = X.mg

section
variable {c : Ct} {X : Cx} {W : WX} {a b e : Expr} {ma mb mc me : ME} {m : M2} {pos : Pos}
/-! ### operations -/
@[simp] def mOp (f : F2) (m : M2) : ME := fun ρ Q E => m ρ (fun x y ρ' => f x y fun d => Q d ρ') E
theorem op_rel {ta tb : TE} {r : R2} {f : F2} (hs : OpSp c r f) (h : ∀ M H σ ρ Q E (R : V → V → Hp → Prop), Good c M H σ ρ → m ρ Q E →
    (∀ x y ρ' M' H' vx vy, Q x y ρ' → Good c M' H' σ ρ' → Fr c M H M' H' → BRep c M' H' x vx → BRep c M' H' y vy → R vx vy H') → XOk c W M H σ E → ta σ H fun vx H1 => tb σ H1 fun vy H2 => R vx vy H2) :
    TErel c W (tOp r ta tb) (mOp f m) := fun M H σ ρ Q E QV g hm k x =>
  h M H σ ρ _ E _ g hm (fun dx dy ρ' M' H' vx vy q g' f' rx ry => hs M' H' dx dy vx vy _ QV g'.hand rx ry q fun d M2 H2 v q2 f2 r2 => k d ρ' M2 H2 v q2 (g'.frA f2) (f'.trans f2.fr) r2) x
theorem opF_rel {ta tb : TE} {r : R2} {f : F2} (hs : OpSpF c r f) (h : ∀ M H σ ρ Q E (R : V → V → Hp → Prop), Good c M H σ ρ → m ρ Q E →
    (∀ x y ρ' M' H' vx vy, Q x y ρ' → Good c M' H' σ ρ' → Fr c M H M' H' → BRep c M' H' x vx → BRep c M' H' y vy → R vx vy H') → XOk c W M H σ E → ta σ H fun vx H1 => tb σ H1 fun vy H2 => R vx vy H2) :
    TFrel c W (tOp r ta tb) (mOp f m) := fun M H σ ρ Q E QV g hm k x =>
  h M H σ ρ _ E _ g hm (fun dx dy ρ' M' H' vx vy q g' f' rx ry => hs M' H' dx dy vx vy _ QV g'.hand rx ry q fun d l o q2 hl ow => by
    refine k d ρ' M' _ l q2 (g'.nohd hl) fun t => ?_
    have fa : FrA M' H' (setM M' l t) (upd H' l o) := FrA.new hl
    exact ⟨g'.frA fa, f'.trans fa.fr, ow _ fa⟩) x
theorem ee_op {op : Operator} {r : R2} {f : F2} (ho : OpR X (binaryOp op) r) (hs : OpSp c r f) (h : E2 c X W a b m) : EE c X W (.BinOp a op b pos) (mOp f m) := by
  obtain ⟨ta, tb, pa, pb, z⟩ := h
  exact ⟨_, pe_op ho pa pb, op_rel hs z⟩
theorem ef_op {op : Operator} {r : R2} {f : F2} (ho : OpR X (binaryOp op) r) (hs : OpSpF c r f) (h : E2 c X W a b m) : EF c X W (.BinOp a op b pos) (mOp f m) := by
  obtain ⟨ta, tb, pa, pb, z⟩ := h
  exact ⟨_, pe_op ho pa pb, opF_rel hs z⟩
theorem ee_cmp {op : CmpOp} {r : R2} {f : F2} (ho : OpR X (compareOp op) r) (hs : OpSp c r f) (h : E2 c X W a b m) (hm : behindInMarks op b = false := by first | exact nomark _ | rfl) : EE c X W (.Compare a [op] [b] pos) (mOp f m) := by
  obtain ⟨ta, tb, pa, pb, z⟩ := h
  exact ⟨_, pe_cmpR ho pa pb hm, op_rel hs z⟩
/-- a value as a test: True or False -/
@[simp] def asB (Q : Bool → Prop) : D → Prop
  | .bl b => Q b
  | _ => False
@[simp] def mTest (m : ME) : MT := fun ρ Q E => m ρ (fun d ρ' => asB (fun b => Q b ρ') d) E
theorem test_rel {t : TE} (h : TErel c W t me) : TTrel c W (tTest t) (mTest me) := fun M H σ ρ Q E QB g hm k x =>
  h M H σ ρ _ E _ g hm (fun d ρ' M' H' v q g' f r => by
    cases d with
    | bl b => exact ⟨b, r, k b ρ' M' H' q g' f⟩
    | _ => exact q.elim) x
theorem et_cmp {op : CmpOp} {r : R2} {f : F2} (ho : OpR X (compareOp op) r) (hs : OpSp c r f) (h : E2 c X W a b m) (hm : behindInMarks op b = false := by first | exact nomark _ | rfl) : ET c X W (.Compare a [op] [b] pos) (mTest (mOp f m)) := by
  obtain ⟨ta, tb, pa, pb, z⟩ := h
  exact ⟨_, pt_cmpR ho pa pb hm, test_rel (op_rel hs z)⟩
/-- a chain a op b op' c: whole numbers (flat things) -/
@[simp] def mChain (f f' : F2) (ma mb mc : ME) : ME := fun ρ Q E => ma ρ (fun x ρ1 => mb ρ1 (fun y ρ2 => f x y (asB fun k => if k = true then mc ρ2 (fun z ρ3 => f' y z fun d => Q d ρ3) E else Q (.bl false) ρ2)) E) E
theorem chain_rel {ta tb tc : TE} {r r' : R2} {f f' : F2} (hs : OpSp c r f) (hs' : OpSp c r' f') (ha : TErel c W ta ma) (hb : TErel c W tb mb) (hc : TErel c W tc mc) : TErel c W (tChain r r' ta tb tc) (mChain f f' ma mb mc) := fun M H σ ρ Q E QV g hm k x => by
  refine ha M H σ ρ _ E _ g hm (fun dx ρ1 M1 H1 v1 q1 g1 f1 r1 => ?_) x
  refine hb M1 H1 σ ρ1 _ E _ g1 q1 (fun dy ρ2 M2 H2 v2 q2 g2 f2 r2 => ?_) (x.fr f1)
  refine hs M2 H2 dx dy v1 v2 _ _ g2.hand (.inl (r1.fr f2)) (.inl r2) q2 fun d M3 H3 v3 q3 f3 r3 => ?_
  cases d with
  | bl b =>
    refine ⟨b, r3, ?_⟩
    have q3 : if b = true then mc ρ2 (fun z ρ3 => f' dy z fun d => Q d ρ3) E else Q (.bl false) ρ2 := q3
    cases b with
    | true =>
      rw [if_pos rfl] at q3 ⊢
      have g3 := g2.frA f3
      refine hc M3 H3 σ ρ2 _ E _ g3 q3 (fun dz ρ4 M4 H4 v4 q4 g4 f4 r4 => ?_) ((x.fr f1).fr (f2.trans f3.fr))
      refine hs' M4 H4 dy dz v2 v4 _ _ g4.hand (.inl ((r2.fr f3.fr).fr f4)) (.inl r4) q4 fun d M5 H5 v5 q5 f5 r5 => ?_
      exact k d ρ4 M5 H5 v5 q5 (g4.frA f5) ((f1.trans f2).trans ((f3.fr.trans f4).trans f5.fr)) r5
    | false =>
      rw [if_neg Bool.false_ne_true] at q3 ⊢
      exact k (.bl false) ρ2 M3 H3 (.bl false) q3 (g2.frA f3) ((f1.trans f2).trans f3.fr) rfl
  | _ => exact q3.elim
theorem ee_chain {op op' : CmpOp} {x y z : Expr} {r r' : R2} {f f' : F2} (ho : OpR X (compareOp op) r) (ho' : OpR X (compareOp op') r') (hs : OpSp c r f) (hs' : OpSp c r' f') (ha : EE c X W x ma) (hb : EE c X W y mb) (hc : EE c X W z mc)
    (hm : lastMarks [op, op'] [y, z] = false := by with_unfolding_all rfl) : EE c X W (.Compare x [op, op'] [y, z] pos) (mChain f f' ma mb mc) := by
  obtain ⟨ta, pa, ra⟩ := ha
  obtain ⟨tb, pb, rb⟩ := hb
  obtain ⟨tc, pc, rc⟩ := hc
  exact ⟨_, pe_chain ho ho' pa pb pc hm, chain_rel hs hs' ra rb rc⟩
theorem et_chain {op op' : CmpOp} {x y z : Expr} {r r' : R2} {f f' : F2} (ho : OpR X (compareOp op) r) (ho' : OpR X (compareOp op') r') (hs : OpSp c r f) (hs' : OpSp c r' f') (ha : EE c X W x ma) (hb : EE c X W y mb) (hc : EE c X W z mc)
    (hm : lastMarks [op, op'] [y, z] = false := by with_unfolding_all rfl) : ET c X W (.Compare x [op, op'] [y, z] pos) (mTest (mChain f f' ma mb mc)) := by
  obtain ⟨ta, pa, ra⟩ := ha
  obtain ⟨tb, pb, rb⟩ := hb
  obtain ⟨tc, pc, rc⟩ := hc
  exact ⟨_, pt_chain ho ho' pa pb pc hm, test_rel (chain_rel hs hs' ra rb rc)⟩
/-! ### truth, and, or, not -/
def asT (Q : Bool → Prop) (d : D) : Prop := match dTru d with
  | some b => Q b
  | none => False
@[simp] def mTru (m : ME) : MT := fun ρ Q E => m ρ (fun d ρ' => asT (fun b => Q b ρ') d) E
theorem asT_of {Q : Bool → Prop} {d : D} (h : asT Q d) : ∃ b, dTru d = some b ∧ Q b := by
  unfold asT at h
  cases e : dTru d with
  | none => rw [e] at h; exact h.elim
  | some b => rw [e] at h; exact ⟨b, rfl, h⟩
theorem et_tru (hf : Fit c X) (h : EB c X W e me) (he : ∀ whole, isTrue e X.env whole = (do let v ← whole; standAt e.pos; holding [v] (truthy v)) := by intro _; rfl) : ET c X W e (mTru me) := by
  obtain ⟨t, p, r⟩ := h
  refine ⟨_, pt_truth p he, fun M H σ ρ Q E QB g hm k x => r M H σ ρ _ E _ g hm (fun d ρ' M' H' v q g' f rr => ?_) x⟩
  obtain ⟨b, e1, q1⟩ := asT_of q
  exact ⟨b, hf.K ▸ rr.tru e1, k b ρ' M' H' q1 g' f⟩
@[simp] def mNotT (t : MT) : MT := fun ρ Q E => t ρ (fun b ρ' => Q (!b) ρ') E
theorem et_not {mt : MT} (h : ET c X W e mt) : ET c X W (.UnaryOp .Not e pos) (mNotT mt) := by
  obtain ⟨t, p, r⟩ := h
  exact ⟨_, pt_not p, fun M H σ ρ Q E QB g hm k x => r M H σ ρ _ E _ g hm (fun b ρ' M' H' q g' f => k (!b) ρ' M' H' q g' f) x⟩
@[simp] def mAndT (t u : MT) : MT := fun ρ Q E => t ρ (fun b ρ1 => if b = true then u ρ1 Q E else Q false ρ1) E
@[simp] def mOrT (t u : MT) : MT := fun ρ Q E => t ρ (fun b ρ1 => if b = true then Q true ρ1 else u ρ1 Q E) E
theorem ew_and1 {mt : MT} (h : ET c X W a mt) : EW c X W (.BoolOp .And [a] pos) mt := by
  obtain ⟨t, p, r⟩ := h
  exact ⟨t, pw_and1 p, r⟩
theorem ew_or1 {mt : MT} (h : ET c X W a mt) : EW c X W (.BoolOp .Or [a] pos) mt := by
  obtain ⟨t, p, r⟩ := h
  exact ⟨t, pw_or1 p, r⟩
theorem ew_and {rest : List Expr} {mt mu : MT} (h : ET c X W a mt) (h2 : EW c X W (.BoolOp .And (b :: rest) pos) mu) : EW c X W (.BoolOp .And (a :: b :: rest) pos) (mAndT mt mu) := by
  obtain ⟨t, p, r⟩ := h
  obtain ⟨t2, p2, r2⟩ := h2
  refine ⟨_, pw_and p p2, fun M H σ ρ Q E QB g hm k x => r M H σ ρ _ E _ g hm (fun b ρ1 M1 H1 q g1 f1 => ?_) x⟩
  cases b with
  | true =>
    rw [if_pos rfl] at q ⊢
    exact r2 M1 H1 σ ρ1 Q E QB g1 q (fun b ρ' M' H' q' g' f' => k b ρ' M' H' q' g' (f1.trans f')) (x.fr f1)
  | false =>
    rw [if_neg Bool.false_ne_true] at q ⊢
    exact k false ρ1 M1 H1 q g1 f1
theorem ew_or {rest : List Expr} {mt mu : MT} (h : ET c X W a mt) (h2 : EW c X W (.BoolOp .Or (b :: rest) pos) mu) : EW c X W (.BoolOp .Or (a :: b :: rest) pos) (mOrT mt mu) := by
  obtain ⟨t, p, r⟩ := h
  obtain ⟨t2, p2, r2⟩ := h2
  refine ⟨_, pw_or p p2, fun M H σ ρ Q E QB g hm k x => r M H σ ρ _ E _ g hm (fun b ρ1 M1 H1 q g1 f1 => ?_) x⟩
  cases b with
  | false =>
    rw [if_neg Bool.false_ne_true] at q ⊢
    exact r2 M1 H1 σ ρ1 Q E QB g1 q (fun b ρ' M' H' q' g' f' => k b ρ' M' H' q' g' (f1.trans f')) (x.fr f1)
  | true =>
    rw [if_pos rfl] at q ⊢
    exact k true ρ1 M1 H1 q g1 f1
theorem EW.et {mt : MT} (h : EW c X W e mt) : ET c X W e mt := by
  obtain ⟨t, p, r⟩ := h
  exact ⟨t, p.pt, r⟩
@[simp] def mAndV (ma mb : ME) : ME := fun ρ Q E => ma ρ (fun x ρ1 => asT (fun b => if b = true then mb ρ1 Q E else Q x ρ1) x) E
@[simp] def mOrV (ma mb : ME) : ME := fun ρ Q E => ma ρ (fun x ρ1 => asT (fun b => if b = true then Q x ρ1 else mb ρ1 Q E) x) E
theorem ee_one {op : BoolOp} (h : EE c X W a ma) : EE c X W (.BoolOp op [a] pos) ma := by
  obtain ⟨t, p, r⟩ := h
  exact ⟨t, pe_one p, r⟩
theorem ee_and (hf : Fit c X) {rest : List Expr} (h : EE c X W a ma) (h2 : EE c X W (.BoolOp .And (b :: rest) pos) mb) : EE c X W (.BoolOp .And (a :: b :: rest) pos) (mAndV ma mb) := by
  obtain ⟨t, p, r⟩ := h
  obtain ⟨t2, p2, r2⟩ := h2
  refine ⟨_, pe_andT p p2, fun M H σ ρ Q E QV g hm k x => r M H σ ρ _ E _ g hm (fun d ρ1 M1 H1 v q g1 f1 r1 => ?_) x⟩
  obtain ⟨b, e1, q1⟩ := asT_of q
  refine ⟨b, hf.K ▸ BRep.tru (.inl r1) e1, ?_⟩
  cases b with
  | true =>
    rw [if_pos rfl] at q1 ⊢
    exact r2 M1 H1 σ ρ1 Q E QV g1 q1 (fun d ρ' M' H' v q' g' f' => k d ρ' M' H' v q' g' (f1.trans f')) (x.fr f1)
  | false =>
    rw [if_neg Bool.false_ne_true] at q1 ⊢
    exact k d ρ1 M1 H1 v q1 g1 f1 r1
theorem ee_or (hf : Fit c X) {rest : List Expr} (h : EE c X W a ma) (h2 : EE c X W (.BoolOp .Or (b :: rest) pos) mb) : EE c X W (.BoolOp .Or (a :: b :: rest) pos) (mOrV ma mb) := by
  obtain ⟨t, p, r⟩ := h
  obtain ⟨t2, p2, r2⟩ := h2
  refine ⟨_, pe_orT p p2, fun M H σ ρ Q E QV g hm k x => r M H σ ρ _ E _ g hm (fun d ρ1 M1 H1 v q g1 f1 r1 => ?_) x⟩
  obtain ⟨b, e1, q1⟩ := asT_of q
  refine ⟨b, hf.K ▸ BRep.tru (.inl r1) e1, ?_⟩
  cases b with
  | false =>
    rw [if_neg Bool.false_ne_true] at q1 ⊢
    exact r2 M1 H1 σ ρ1 Q E QV g1 q1 (fun d ρ' M' H' v q' g' f' => k d ρ' M' H' v q' g' (f1.trans f')) (x.fr f1)
  | true =>
    rw [if_pos rfl] at q1 ⊢
    exact k d ρ1 M1 H1 v q1 g1 f1 r1
@[simp] def mNotV (m : ME) : ME := fun ρ Q E => m ρ (fun x ρ1 => asT (fun b => Q (.bl (!b)) ρ1) x) E
theorem ee_not (hf : Fit c X) (h : EB c X W a ma) : EE c X W (.UnaryOp .Not a pos) (mNotV ma) := by
  obtain ⟨t, p, r⟩ := h
  refine ⟨_, pe_notT p, fun M H σ ρ Q E QV g hm k x => r M H σ ρ _ E _ g hm (fun d ρ1 M1 H1 v q g1 f1 r1 => ?_) x⟩
  obtain ⟨b, e1, q1⟩ := asT_of q
  exact ⟨b, hf.K ▸ r1.tru e1, k (.bl (!b)) ρ1 M1 H1 _ q1 g1 f1 rfl⟩
@[simp] def mIf (t : MT) (ma mb : ME) : ME := fun ρ Q E => t ρ (fun b ρ1 => if b = true then ma ρ1 Q E else mb ρ1 Q E) E
theorem ee_if {x : Expr} {mt : MT} (hc : ET c X W x mt) (ha : EE c X W a ma) (hb : EE c X W b mb) : EE c X W (.IfExp x a b pos) (mIf mt ma mb) := by
  obtain ⟨t, p, r⟩ := hc
  obtain ⟨t1, p1, r1⟩ := ha
  obtain ⟨t2, p2, r2⟩ := hb
  refine ⟨_, pe_ifExp p p1 p2, fun M H σ ρ Q E QV g hm k x => r M H σ ρ _ E _ g hm (fun b ρ1 M1 H1 q g1 f1 => ?_) x⟩
  cases b with
  | true =>
    rw [if_pos rfl] at q ⊢
    exact r1 M1 H1 σ ρ1 Q E QV g1 q (fun d ρ' M' H' v q' g' f' => k d ρ' M' H' v q' g' (f1.trans f')) (x.fr f1)
  | false =>
    rw [if_neg Bool.false_ne_true] at q ⊢
    exact r2 M1 H1 σ ρ1 Q E QV g1 q (fun d ρ' M' H' v q' g' f' => k d ρ' M' H' v q' g' (f1.trans f')) (x.fr f1)
/-- one-place -/
@[simp] def mUn (f : D → (D → Prop) → Prop) (m : ME) : ME := fun ρ Q E => m ρ (fun x ρ' => f x fun d => Q d ρ') E
@[simp] def dNeg : D → (D → Prop) → Prop
  | .int i, Q => Q (.int (-i))
  | _, _ => False
theorem ee_neg (h : EE c X W a ma) : EE c X W (.UnaryOp .USub a pos) (mUn dNeg ma) := by
  obtain ⟨t, p, r⟩ := h
  refine ⟨_, pe_un un_neg p, fun M H σ ρ Q E QV g hm k x => r M H σ ρ _ E _ g hm (fun d ρ1 M1 H1 v q g1 f1 r1 => ?_) x⟩
  cases d with
  | int i => exact ⟨i, r1, k _ ρ1 M1 H1 _ q g1 f1 rfl⟩
  | _ => exact q.elim
/-! ### arguments, displays, calls -/
@[simp] def mNil : MA := fun ρ Q _ => Q [] ρ
@[simp] def mCons (m : ME) (r : MA) : MA := fun ρ Q E => m ρ (fun d ρ1 => r ρ1 (fun ds ρ2 => Q (d :: ds) ρ2) E) E
@[simp] def mConsV (i : Nat) (r : MA) : MA := fun ρ Q E => match ρ.get i with
  | none => False
  | some _ => r ρ (fun ds ρ2 => match ρ2.get i with
    | some (d, _) => Q (d :: ds) ρ2
    | none => False) E
theorem as_nil : AS c X W [] mNil := ⟨tNil, pa_nil, fun M H σ ρ Q E QV g h k _ => k [] ρ M H [] h g .refl .nil⟩
theorem as_cons {es : List Expr} {mr : MA} (h : EE c X W e me) (hr : AS c X W es mr) (hs : starEach (e :: es) X.env = (false, eval e X.env) :: starEach es X.env := by rfl) : AS c X W (e :: es) (mCons me mr) := by
  obtain ⟨t, p, r⟩ := h
  obtain ⟨t2, p2, r2⟩ := hr
  refine ⟨_, pa_cons p p2 hs, fun M H σ ρ Q E QV g hm k x => r M H σ ρ _ E _ g hm (fun d ρ1 M1 H1 v q g1 f1 r1 => ?_) x⟩
  refine r2 M1 H1 σ ρ1 _ E _ g1 q (fun ds ρ2 M2 H2 vs q2 g2 f2 rr => ?_) (x.fr f1)
  exact k (d :: ds) ρ2 M2 H2 (v :: vs) q2 g2 (f1.trans f2) (.cons (r1.fr f2) rr)
theorem ab_nil : AB c X W [] mNil := ⟨tNil, pa_nil, fun M H σ ρ Q E QV g h k _ => k [] ρ M H [] h g .refl rfl⟩
theorem ab_s {es : List Expr} {mr : MA} (h : EE c X W e me) (hr : AB c X W es mr) (hs : starEach (e :: es) X.env = (false, eval e X.env) :: starEach es X.env := by rfl) : AB c X W (e :: es) (mCons me mr) := by
  obtain ⟨t, p, r⟩ := h
  obtain ⟨t2, p2, r2⟩ := hr
  refine ⟨_, pa_cons p p2 hs, fun M H σ ρ Q E QV g hm k x => r M H σ ρ _ E _ g hm (fun d ρ1 M1 H1 v q g1 f1 r1 => ?_) x⟩
  refine r2 M1 H1 σ ρ1 _ E _ g1 q (fun ds ρ2 M2 H2 vs q2 g2 f2 rr => ?_) (x.fr f1)
  exact k (d :: ds) ρ2 M2 H2 (v :: vs) q2 g2 (f1.trans f2) ⟨v, vs, rfl, .inl (r1.fr f2), rr⟩
theorem ab_v (i : Nat) {x : Str} {xp : Pos} {es : List Expr} {mr : MA} (hr : AB c X W es mr) (hN : X.N[i]? = some x := by rfl) (hv : Vis X.env.scope x := by first | exact Or.inl rfl | exact Or.inr (Or.inl rfl) | exact Or.inr (Or.inr rfl)) (hd : (x == ("__debug__" : Str)) = false := by decide)
    (hcd : (x == ("__classdict__" : Str)) = false := by decide) (hs : starEach (.Name x xp :: es) X.env = (false, eval (.Name x xp) X.env) :: starEach es X.env := by rfl) : AB c X W (.Name x xp :: es) (mConsV i mr) := by
  obtain ⟨t2, p2, r2⟩ := hr
  refine ⟨_, pa_cons (pe_var hN hv hd hcd) p2 hs, fun M H σ ρ Q E QV g hm k x => ?_⟩
  unfold mConsV at hm
  cases e0 : ρ.get i with
  | none => rw [e0] at hm; exact hm.elim
  | some p0 =>
    obtain ⟨d0, fl0⟩ := p0
    rw [e0] at hm
    obtain ⟨v, hs, _⟩ := g.look e0
    refine ⟨v, hs, ?_⟩
    refine r2 M H σ ρ _ E _ g hm (fun ds ρ2 M2 H2 vs q2 g2 f2 rr => ?_) x
    cases e : ρ2.get i with
    | none => rw [e] at q2; exact q2.elim
    | some p =>
      obtain ⟨d, fl⟩ := p
      rw [e] at q2
      obtain ⟨w, e1, b, _⟩ := g2.look e
      rw [hs] at e1
      cases e1
      exact k (d :: ds) ρ2 M2 H2 (v :: vs) q2 g2 f2 ⟨v, vs, rfl, b, rr⟩
theorem AS.ab {es : List Expr} {m : MA} (h : AS c X W es m) : AB c X W es m := by
  obtain ⟨t, p, r⟩ := h
  exact ⟨t, p, fun M H σ ρ Q E QV g hm k x => r M H σ ρ Q E QV g hm (fun ds ρ' M' H' vs q g' f rr => k ds ρ' M' H' vs q g' f rr.brep) x⟩
@[simp] def mTup (m : MA) : ME := fun ρ Q E => m ρ (fun ds ρ' => ds.length ≤ sizeLine ∧ Q (.tup ds) ρ') E
@[simp] def mLst (m : MA) : ME := fun ρ Q E => m ρ (fun ds ρ' => ds.length ≤ sizeLine ∧ Q (.lst ds) ρ') E
theorem ee_tup {es : List Expr} {m : MA} {x1 : Nat} (h : AS c X W es m) : EE c X W (.Tuple es x1 pos) (mTup m) := by
  obtain ⟨t, p, r⟩ := h
  refine ⟨_, pe_tup p, fun M H σ ρ Q E QV g hm k x => r M H σ ρ _ E _ g hm (fun ds ρ' M' H' vs q g' f rr => ?_) x⟩
  refine ⟨by rw [rr.length]; exact q.1, fun l hl => ?_⟩
  have fa : FrA M' H' (setM M' l none) (upd H' l (.tup vs)) := FrA.new hl
  exact k _ ρ' _ _ _ q.2 (g'.frA fa) (f.trans fa.fr) (rep_newT hl (g'.nohd hl) rr)
theorem ef_lst {es : List Expr} {m : MA} (h : AS c X W es m) : EF c X W (.List es pos) (mLst m) := by
  obtain ⟨t, p, r⟩ := h
  refine ⟨_, pe_lst p, fun M H σ ρ Q E QV g hm k x => r M H σ ρ _ E _ g hm (fun ds ρ' M' H' vs q g' f rr => ?_) x⟩
  refine ⟨by rw [rr.length]; exact q.1, fun l hl => ?_⟩
  refine k _ ρ' M' _ l q.2 (g'.nohd hl) fun t => ?_
  have fa : FrA M' H' (setM M' l t) (upd H' l (.lst vs)) := FrA.new hl
  exact ⟨g'.frA fa, f.trans fa.fr, own_newL rr fa⟩
/-- a built-in's call -/
@[simp] def mCB (f : FA) (m : MA) : ME := fun ρ Q E => m ρ (fun ds ρ' => f ds fun d => Q d ρ') E
theorem callB_rel {t : TA} {r : R1} {f : FA} {m : MA} (hs : CallSp c r f) (h : ∀ M H σ ρ Q E (QV : List V → Hp → Prop), Good c M H σ ρ → m ρ Q E →
    (∀ ds ρ' M' H' vs, Q ds ρ' → Good c M' H' σ ρ' → Fr c M H M' H' → BRepL c M' H' ds vs → QV vs H') → XOk c W M H σ E → t σ H QV) : TErel c W (tCB r t) (mCB f m) := fun M H σ ρ Q E QV g hm k x =>
  h M H σ ρ _ E _ g hm (fun ds ρ' M' H' vs q g' f' rr => hs M' H' ds vs _ QV g'.hand rr q fun d M2 H2 v q2 f2 r2 => k d ρ' M2 H2 v q2 (g'.frA f2) (f'.trans f2.fr) r2) x
theorem callBF_rel {t : TA} {r : R1} {f : FA} {m : MA} (hs : CallSpF c r f) (h : ∀ M H σ ρ Q E (QV : List V → Hp → Prop), Good c M H σ ρ → m ρ Q E →
    (∀ ds ρ' M' H' vs, Q ds ρ' → Good c M' H' σ ρ' → Fr c M H M' H' → BRepL c M' H' ds vs → QV vs H') → XOk c W M H σ E → t σ H QV) : TFrel c W (tCB r t) (mCB f m) := fun M H σ ρ Q E QV g hm k x =>
  h M H σ ρ _ E _ g hm (fun ds ρ' M' H' vs q g' f' rr => hs M' H' ds vs _ QV g'.hand rr q fun d l o q2 hl ow => by
    refine k d ρ' M' _ l q2 (g'.nohd hl) fun t => ?_
    have fa : FrA M' H' (setM M' l t) (upd H' l o) := FrA.new hl
    exact ⟨g'.frA fa, f'.trans fa.fr, ow _ fa⟩) x
theorem ee_B {id : String} {x : Str} {r : R1} {f : FA} {m : MA} {es : List Expr} {p : Pos} (hc : CallR X (.builtin id) r) (hs : CallSp c r f) (hm : X.mg x = none) (ha : AB c X W (e :: es) m) (hv : bootBuiltins x = some (.builtin id) := by decide +kernel) (hg : Gl X x := by rfl)
    (hn : x ≠ "__name__" := by decide) (hdb : (x == ("__debug__" : Str)) = false := by decide) (he : starEach (e :: es) X.env = (false, eval e X.env) :: starEach es X.env := by rfl) (hpl : (backTo pos (starEach es X.env)).any (·.1) = false := by rfl) :
    EE c X W (.Call (.Name x p) (e :: es) [] pos) (mCB f m) := by
  obtain ⟨t, pa, r⟩ := ha
  exact ⟨_, pe_callB hc hg hm hv pa hn hdb he hpl, callB_rel hs r⟩
theorem ef_B {id : String} {x : Str} {r : R1} {f : FA} {m : MA} {es : List Expr} {p : Pos} (hc : CallR X (.builtin id) r) (hs : CallSpF c r f) (hm : X.mg x = none) (ha : AB c X W (e :: es) m) (hv : bootBuiltins x = some (.builtin id) := by decide +kernel) (hg : Gl X x := by rfl)
    (hn : x ≠ "__name__" := by decide) (hdb : (x == ("__debug__" : Str)) = false := by decide) (he : starEach (e :: es) X.env = (false, eval e X.env) :: starEach es X.env := by rfl) (hpl : (backTo pos (starEach es X.env)).any (·.1) = false := by rfl) :
    EF c X W (.Call (.Name x p) (e :: es) [] pos) (mCB f m) := by
  obtain ⟨t, pa, r⟩ := ha
  exact ⟨_, pe_callB hc hg hm hv pa hn hdb he hpl, callBF_rel hs r⟩
theorem ee_T {T : String} {x : Str} {r : R1} {f : FA} {m : MA} {es : List Expr} {p : Pos} (hc : CallR X (.type T) r) (hs : CallSp c r f) (hm : X.mg x = none) (ha : AB c X W (e :: es) m) (hv : bootBuiltins x = some (.type T) := by decide +kernel) (hg : Gl X x := by rfl)
    (hn : x ≠ "__name__" := by decide) (hdb : (x == ("__debug__" : Str)) = false := by decide) (he : starEach (e :: es) X.env = (false, eval e X.env) :: starEach es X.env := by rfl) (hpl : (backTo pos (starEach es X.env)).any (·.1) = false := by rfl) :
    EE c X W (.Call (.Name x p) (e :: es) [] pos) (mCB f m) := by
  obtain ⟨t, pa, r⟩ := ha
  exact ⟨_, pe_callTy hc hg hm hv pa hn hdb he hpl, callB_rel hs r⟩
theorem ef_T {T : String} {x : Str} {r : R1} {f : FA} {m : MA} {es : List Expr} {p : Pos} (hc : CallR X (.type T) r) (hs : CallSpF c r f) (hm : X.mg x = none) (ha : AB c X W (e :: es) m) (hv : bootBuiltins x = some (.type T) := by decide +kernel) (hg : Gl X x := by rfl)
    (hn : x ≠ "__name__" := by decide) (hdb : (x == ("__debug__" : Str)) = false := by decide) (he : starEach (e :: es) X.env = (false, eval e X.env) :: starEach es X.env := by rfl) (hpl : (backTo pos (starEach es X.env)).any (·.1) = false := by rfl) :
    EF c X W (.Call (.Name x p) (e :: es) [] pos) (mCB f m) := by
  obtain ⟨t, pa, r⟩ := ha
  exact ⟨_, pe_callTy hc hg hm hv pa hn hdb he hpl, callBF_rel hs r⟩
end
end Lk

namespace Lk
open PySem PySem.Spec PyProof.Rows L2

/-! ## 4. Defs: what one asks, what it gives -/
abbrev FS := List D → (D → Prop) → (Xn → Prop) → Prop
def spOf (K : PySem.W.Frag) (mg : Str → Option Value) (S : FS) : Sp := fun vs H Q E => ∃ (c : Ct) (M : Own) (ds : List D) (Qd : D → Prop) (Ed : Xn → Prop), (c.K = K ∧ c.pin = none) ∧ c.mg = mg ∧ HdOk c M H ∧ RepL c M H ds vs ∧ S ds Qd Ed ∧
  (∀ d v M' H', Qd d → Fr c M H M' H' → HdOk c M' H' → Rep c M' H' d v → Q v H') ∧ ∀ x cls dd M' H', Ed x → Fr c M H M' H' → HdOk c M' H' → XRep c M' H' x cls dd → E cls dd H'
/-- a def that stands under the name x and keeps S, with room for it -/
def CallOk (X : Cx) (x : Str) (S : FS) : Prop := ∃ (k : Nat) (f : Addr) (fd : FuncData) (ps : List Str), FnG X.prog X.w X.K X.mg X.base k f fd ps (spOf X.K X.mg S) ∧ Rm k X.A ∧ X.mg x = some (.ref f) ∧ PySem.W.keepIn X.K (.ref f) = true ∧ Binds X.K fd ps []
/-- .. seen from the top: at level k -/
def DefAt (P : Program) (w : World) (K : PySem.W.Frag) (mg : Str → Option Value) (base : Heap) (k : Nat) (x : Str) (S : FS) : Prop := ∃ (f : Addr) (fd : FuncData) (ps : List Str), FnG P w K mg base k f fd ps (spOf K mg S) ∧ mg x = some (.ref f) ∧ PySem.W.keepIn K (.ref f) = true ∧ Binds K fd ps []
theorem DefAt.call {X : Cx} {k j : Nat} {x : Str} {S : FS} (d : DefAt X.prog X.w X.K X.mg X.base k x S) (hr : Rm j X.A) (h : k ≤ j := by decide) : CallOk X x S := by
  obtain ⟨f, fd, ps, a, b, e, g⟩ := d
  exact ⟨k, f, fd, ps, a, hr.mono h, b, e, g⟩
theorem DefAt.imp {P : Program} {w : World} {K : PySem.W.Frag} {mg : Str → Option Value} {base : Heap} {k : Nat} {x : Str} {S S' : FS} (d : DefAt P w K mg base k x S) (h : ∀ ds Q E, S' ds Q E → S ds Q E) : DefAt P w K mg base k x S' := by
  obtain ⟨f, fd, ps, a, b⟩ := d
  refine ⟨f, fd, ps, a.imp fun vs H Q E q => ?_, b⟩
  obtain ⟨c, M, ds, Qd, Ed, h1, h2, h3, h4, h5, h6⟩ := q
  exact ⟨c, M, ds, Qd, Ed, h1, h2, h3, h4, h _ _ _ h5, h6⟩

section
variable {c : Ct} {X : Cx} {W : WX} {M M' : Own} {H H' : Hp} {a b e : Expr} {ma mb me : ME} {m : MA} {pos : Pos}
/-- the owner's marks as a callee sees them -/
def lent (M : Own) : Own := fun b => match M b with
  | some (.sl _) => some .tm
  | l => l
/-- .. and back behind it -/
def back (M : Own) (H : Hp) (M' : Own) : Own := fun b => match H b, M b with
  | some _, some (.sl i) => some (.sl i)
  | _, _ => M' b
theorem lent_none {b : Addr} (h : M b = none) : lent M b = none := by unfold lent; rw [h]
theorem lent_of {b : Addr} (h : ∀ i, M b ≠ some (.sl i)) : lent M b = M b := by
  unfold lent
  cases e : M b with
  | none => rfl
  | some l => cases l with
    | sl i => exact absurd e (h i)
    | _ => rfl
theorem lent_sl {b : Addr} {i : Nat} (h : M b = some (.sl i)) : lent M b = some .tm := by unfold lent; rw [h]
theorem lent_ns (b : Addr) : ∀ i, lent M b ≠ some (.sl i) := fun i z => by
  unfold lent at z
  cases e : M b with
  | none => rw [e] at z; cases z
  | some l =>
    rw [e] at z
    cases l <;> cases z
theorem back_of {b : Addr} (h : ∀ i, M b ≠ some (.sl i)) : back M H M' b = M' b := by
  unfold back
  cases eh : H b with
  | none => cases e : M b <;> rfl
  | some o =>
    cases e : M b with
    | none => rfl
    | some l => cases l with
      | sl i => exact absurd e (h i)
      | _ => rfl
theorem back_new {b : Addr} (h : H b = none) : back M H M' b = M' b := by unfold back; rw [h]
theorem back_sl {b : Addr} {o : HO} {i : Nat} (h : H b = some o) (e : M b = some (.sl i)) : back M H M' b = some (.sl i) := by unfold back; rw [h, e]
mutual
theorem Rep.mono (hm : ∀ b o, H b = some o → c.hd ≠ some b → M b = none → M' b = none) : ∀ {d : D} {v : V}, Rep c M H d v → Rep c M' H d v
  | .non, _, h => h
  | .bl _, _, h => h
  | .int _, _, h => h
  | .str _, _, h => h
  | .tup xs, _, h => by
    unfold Rep at h ⊢
    obtain ⟨b, vs, e, s, r⟩ := h
    refine ⟨b, vs, e, ?_, RepL.mono hm r⟩
    rcases s with ⟨m, n, q⟩ | q
    · rcases id q with z | ⟨o, z⟩
      · exact .inl ⟨hm b _ z n m, n, q⟩
      · exact .inl ⟨hm b _ z n m, n, q⟩
    · exact .inr q
  | .lst xs, _, h => by
    unfold Rep at h ⊢
    obtain ⟨b, vs, e, ⟨m, n, q⟩, r⟩ := h
    exact ⟨b, vs, e, ⟨hm b _ q n m, n, q⟩, RepL.mono hm r⟩
  | .dct ks ds, _, h => by
    unfold Rep at h ⊢
    obtain ⟨b, vs, e, ⟨m, n, q⟩, l, r⟩ := h
    exact ⟨b, vs, e, ⟨hm b _ q n m, n, q⟩, l, RepL.mono hm r⟩
  | .ob _, _, h => h
  | .gl _, _, h => h
  | .ty _, _, h => h
  | .fl _, _, h => by
    unfold Rep at h ⊢
    obtain ⟨b, e, ⟨m, n, q⟩ | q⟩ := h
    · rcases id q with z | ⟨o, z⟩
      · exact ⟨b, e, .inl ⟨hm b _ z n m, n, q⟩⟩
      · exact ⟨b, e, .inl ⟨hm b _ z n m, n, q⟩⟩
    · exact ⟨b, e, .inr q⟩
theorem RepL.mono (hm : ∀ b o, H b = some o → c.hd ≠ some b → M b = none → M' b = none) : ∀ {ds : List D} {vs : List V}, RepL c M H ds vs → RepL c M' H ds vs
  | [], _, h => h
  | d :: ds, _, h => by
    unfold RepL at h ⊢
    obtain ⟨v, r, e, h1, h2⟩ := h
    exact ⟨v, r, e, Rep.mono hm h1, RepL.mono hm h2⟩
end
theorem HandOk.mono {h : Addr} (hh : M' h = none) (hm : ∀ b o, H b = some o → b ≠ h → M b = none → M' b = none) (k : HandOk M H h) : HandOk M' H h := by
  obtain ⟨m, cl, cells, p, r, x, n, e1, ne, m2, e2, rest⟩ := k
  exact ⟨hh, cl, cells, p, r, x, n, e1, ne, hm cl _ e2 ne m2, e2, rest⟩
/-- behind a call that had the lent marks -/
theorem behind {σ : L2.St} {ρ : Ev} (g : Good c M H σ ρ) (f : Fr c (lent M) H M' H') (hd : HdOk c M' H') : Good c (back M H M') H' σ ρ ∧ Fr c M H (back M H M') H' ∧
    ∀ b o, H' b = some o → c.hd ≠ some b → M' b = none → back M H M' b = none := by
  have fr : Fr c M H (back M H M') H' := ⟨fun b o e n h => by
    obtain ⟨h1, m1⟩ := f.keep b o e (lent_ns b) h
    exact ⟨h1, by rw [back_of n, m1, lent_of n]⟩⟩
  have nn : ∀ b o, H' b = some o → c.hd ≠ some b → M' b = none → back M H M' b = none := fun b o e h m => by
    by_cases z : ∃ i, M b = some (.sl i)
    · obtain ⟨i, z⟩ := z
      cases q : H b with
      | none => rw [back_new q]; exact m
      | some u =>
        obtain ⟨_, m1⟩ := f.keep b u q (lent_ns b) h
        rw [m, lent_sl z] at m1
        cases m1
    · rw [back_of fun i e => z ⟨i, e⟩]
      exact m
  refine ⟨⟨fun h e => ?_, ⟨g.ev.len, fun i => ?_⟩⟩, fr, nn⟩
  · have k0 := g.hand h e
    have k := hd h e
    refine k.mono ?_ fun b o e2 ne m => nn b o e2 (fun z => by rw [e] at z; exact ne (Option.some.inj z).symm) m
    rw [back_of fun i z => by rw [k0.1] at z; cases z]
    exact k.1
  · have q := g.ev.at_ i
    generalize ρ.get i = s at q ⊢
    generalize σ.getD i none = o at q ⊢
    cases s with
    | none => cases o <;> trivial
    | some p =>
      obtain ⟨d, fl⟩ := p
      cases o with
      | none => cases fl <;> exact q
      | some v =>
        cases fl with
        | sh => exact Rep.fr fr q
        | ow =>
          obtain ⟨⟨b, ev, m, n, ow⟩, qp⟩ := q
          obtain ⟨u, hu⟩ := ow.there
          refine ⟨⟨b, ev, back_sl hu m, n, ow.frL fr fun o' ho => (f.keep b o' ho (lent_ns b) n).1⟩, qp⟩
        | fz => exact OwRep.frT fr q
theorem lent_rep {d : D} {v : V} (h : Rep c M H d v) : Rep c (lent M) H d v := h.mono fun _ _ _ _ => lent_none
theorem lent_repL {ds : List D} {vs : List V} (h : RepL c M H ds vs) : RepL c (lent M) H ds vs := h.mono fun _ _ _ _ => lent_none
theorem lent_hd (h : HdOk c M H) : HdOk c (lent M) H := fun a e => (h a e).mono (lent_none (h a e).1) fun _ _ _ _ => lent_none
theorem XRep.mono {x : Xn} {cls : Value} {dd : Option Addr} (hm : ∀ b o, H b = some o → c.hd ≠ some b → M b = none → M' b = none) (hh : ∀ b o, H b = some o → M b = none → M' b = none) (h : XRep c M H x cls dd) : XRep c M' H x cls dd := by
  obtain ⟨nm, ar⟩ := x
  obtain ⟨a, h1, h2, h3⟩ := h
  refine ⟨a, h1, h2, ?_⟩
  cases ar with
  | none => exact h3
  | some p =>
    obtain ⟨f, d⟩ := p
    obtain ⟨dx, v, h4, h5, h6, h7⟩ := h3
    exact ⟨dx, v, h4, h5, hh _ _ h5 h6, h7.mono hm⟩

@[simp] def mCall (S : FS) (m : MA) : ME := fun ρ Q E => m ρ (fun ds ρ' => S ds (fun d => Q d ρ') fun x => E x ρ') E
theorem ee_call {x : Str} {S : FS} {es : List Expr} {p : Pos} (hf : Fit c X) (np : c.pin = none) (tk : Takes X W) (F : CallOk X x S) (ha : AS c X W (e :: es) m) (hg : Gl X x := by rfl) (hdb : (x == ("__debug__" : Str)) = false := by decide)
    (he : starEach (e :: es) X.env = (false, eval e X.env) :: starEach es X.env := by rfl) (hpl : (backTo pos (starEach es X.env)).any (·.1) = false := by rfl) : EE c X W (.Call (.Name x p) (e :: es) [] pos) (mCall S m) := by
  obtain ⟨k, f, fd, ps, F, hr, hm, hk, hb⟩ := F
  obtain ⟨t, pa, r⟩ := ha
  refine ⟨_, pe_callG F hr hg hm hk hb tk pa hdb he hpl, fun M H σ ρ Q E QV g hq k x => r M H σ ρ _ E _ g hq (fun ds ρ1 M1 H1 vs q g1 f1 rr => ?_) x⟩
  refine ⟨c, lent M1, ds, _, _, ⟨hf.K, np⟩, hf.mg, lent_hd g1.hand, lent_repL rr, q, fun d v M2 H2 qd f2 h2 r2 => ?_, fun x' cls dd M2 H2 qx f2 h2 r2 => ?_⟩
  · obtain ⟨a1, a2, a3⟩ := behind g1 f2 h2
    exact k d ρ1 _ H2 v qd a1 (f1.trans a2) (r2.mono a3)
  · obtain ⟨a1, a2, a3⟩ := behind g1 f2 h2
    refine x x' ρ1 cls dd _ H2 qx a1 (f1.trans a2) (r2.mono a3 fun b o e m => ?_)
    by_cases z : c.hd = some b
    · have k0 := (a1.hand b z).1
      exact k0
    · exact a3 b o e z m
end
end Lk

namespace Lk
open PySem PySem.Spec PyProof.Rows L2

/-! ## 5. What the operations ask of trees -/
def D.py : D → PyData
  | .non => .none
  | .bl b => .bool b
  | .int i => .int i
  | .str x => .str x
  | .tup xs => .tuple (pyL xs)
  | .lst xs => .list (pyL xs)
  | _ => .none
where pyL : List D → List PyData
  | [] => []
  | d :: ds => d.py :: pyL ds
/-- plain data, at most n deep -/
def Pl : Nat → D → Prop
  | _, .non => True
  | _, .bl _ => True
  | _, .int _ => True
  | _, .str x => PyData.strOk x = true
  | n + 1, .tup xs => ∀ x ∈ xs, Pl n x
  | n + 1, .lst xs => ∀ x ∈ xs, Pl n x
  | _, _ => False
def D.eqv (x y : D) : Bool := PyData.eqv x.py y.py

@[simp] def dAdd : F2
  | .int i, .int j, Q => Q (.int (i + j))
  | .str a, .str b, Q => a.length + b.length ≤ sizeLine ∧ Q (.str (a ++ b))
  | .tup xs, .tup ys, Q => xs.length + ys.length ≤ sizeLine ∧ Q (.tup (xs ++ ys))
  | .lst xs, .lst ys, Q => xs.length + ys.length ≤ sizeLine ∧ Q (.lst (xs ++ ys))
  | _, _, _ => False
@[simp] def dAddL : F2
  | .lst xs, .lst ys, Q => xs.length + ys.length ≤ sizeLine ∧ Q (.lst (xs ++ ys))
  | _, _, _ => False
@[simp] def dSub : F2
  | .int i, .int j, Q => Q (.int (i - j))
  | _, _, _ => False
def MulOk (i j : Int) : Prop := CMul i j ∨ CMulW i j
@[simp] def dMul : F2
  | .int i, .int j, Q => MulOk i j ∧ Q (.int (i * j))
  | _, _, _ => False
@[simp] def dMulL : F2
  | .lst xs, .int k, Q => (-(2 ^ 63) ≤ k ∧ k < 2 ^ 63 ∧ xs.length * k.toNat ≤ sizeLine) ∧ Q (.lst (List.replicate k.toNat xs).flatten)
  | _, _, _ => False
@[simp] def dFloor : F2
  | .int i, .int j, Q => CDivW i j ∧ Q (.int (i / j))
  | _, _, _ => False
@[simp] def dMod : F2
  | .int i, .int j, Q => 0 < j ∧ Q (.int (i % j))
  | _, _, _ => False
@[simp] def dPow : F2
  | .int i, .int j, Q => CPow i j ∧ Q (.int (i ^ j.toNat))
  | _, _, _ => False
@[simp] def dCmp (p : Int → Int → Bool) : F2
  | .int i, .int j, Q => Q (.bl (p i j))
  | _, _, _ => False
abbrev dLt : F2 := dCmp fun i j => decide (i < j)
abbrev dLe : F2 := dCmp fun i j => decide (i ≤ j)
abbrev dGt : F2 := dCmp fun i j => decide (j < i)
abbrev dGe : F2 := dCmp fun i j => decide (j ≤ i)
@[simp] def dEq : F2
  | .int i, .int j, Q => Q (.bl (decide (i = j)))
  | .str a, .str b, Q => Q (.bl (decide (a = b)))
  | x, y, Q => Pl 60 x ∧ Pl 60 y ∧ Q (.bl (D.eqv x y))
@[simp] def dNe : F2
  | .int i, .int j, Q => Q (.bl (!decide (i = j)))
  | .str a, .str b, Q => Q (.bl (!decide (a = b)))
  | x, y, Q => Pl 60 x ∧ Pl 60 y ∧ Q (.bl (!D.eqv x y))
def D.isNon : D → Bool
  | .non => true
  | _ => false
@[simp] def dIsN : F2
  | x, .non, Q => Q (.bl x.isNon)
  | _, _, _ => False
@[simp] def dNotN : F2
  | x, .non, Q => Q (.bl (!x.isNon))
  | _, _, _ => False

section
variable {c : Ct} {X : Cx} {M M' : Own} {H H' : Hp}
theorem pyL_map (xs : List D) : D.py.pyL xs = xs.map D.py := by
  induction xs with
  | nil => rfl
  | cons x xs ih => show x.py :: D.py.pyL xs = _; rw [ih]; rfl
theorem Pl.mono {m : Nat} : ∀ {n : Nat} {d : D}, Pl m d → m ≤ n → Pl n d := by
  induction m with
  | zero =>
    intro n d h hn
    cases d with
    | non => cases n <;> trivial
    | bl _ => cases n <;> trivial
    | int _ => cases n <;> trivial
    | str _ => cases n <;> exact h
    | _ => exact h.elim
  | succ m ih =>
    intro n d h hn
    cases n with
    | zero => omega
    | succ n =>
      cases d with
      | non => trivial
      | bl _ => trivial
      | int _ => trivial
      | str _ => exact h
      | tup xs => exact fun x hx => ih (h x hx) (by omega)
      | lst xs => exact fun x hx => ih (h x hx) (by omega)
      | _ => exact h.elim
theorem all_canLay {l : List D} (h : ∀ x ∈ l, x.py.canLay0 = true) : PyData.canLayAll0 (D.py.pyL l) = true := by
  induction l with
  | nil => show PyData.canLayAll0 [] = true; simp [PyData.canLayAll0]
  | cons x l ih =>
    show PyData.canLayAll0 (x.py :: D.py.pyL l) = true
    rw [PyData.canLayAll0, h x List.mem_cons_self, ih fun y hy => h y (List.mem_cons_of_mem _ hy)]
    rfl
theorem all_depth {l : List D} {n : Nat} (h : ∀ x ∈ l, x.py.depth ≤ n) : PyData.depthAll (D.py.pyL l) ≤ n := by
  induction l with
  | nil => show PyData.depthAll [] ≤ n; simp [PyData.depthAll]
  | cons x l ih =>
    show PyData.depthAll (x.py :: D.py.pyL l) ≤ n
    rw [PyData.depthAll]
    exact Nat.max_le.mpr ⟨h x List.mem_cons_self, ih fun y hy => h y (List.mem_cons_of_mem _ hy)⟩
theorem Pl.lay : ∀ {n : Nat} {d : D}, Pl n d → d.py.canLay0 = true ∧ d.py.depth ≤ n := by
  intro n
  induction n with
  | zero =>
    intro d h
    cases d with
    | non => exact ⟨by simp [D.py, PyData.canLay0], by simp [D.py, PyData.depth]⟩
    | bl _ => exact ⟨by simp [D.py, PyData.canLay0], by simp [D.py, PyData.depth]⟩
    | int _ => exact ⟨by simp [D.py, PyData.canLay0], by simp [D.py, PyData.depth]⟩
    | str _ => exact ⟨by rw [D.py, PyData.canLay0]; exact h, by simp [D.py, PyData.depth]⟩
    | _ => exact h.elim
  | succ n ih =>
    intro d h
    cases d with
    | non => exact ⟨by simp [D.py, PyData.canLay0], by simp [D.py, PyData.depth]⟩
    | bl _ => exact ⟨by simp [D.py, PyData.canLay0], by simp [D.py, PyData.depth]⟩
    | int _ => exact ⟨by simp [D.py, PyData.canLay0], by simp [D.py, PyData.depth]⟩
    | str _ => exact ⟨by rw [D.py, PyData.canLay0]; exact h, by simp [D.py, PyData.depth]⟩
    | tup xs =>
      have h : ∀ x ∈ xs, Pl n x := h
      refine ⟨?_, ?_⟩
      · rw [D.py, PyData.canLay0]; exact all_canLay fun x hx => (ih (h x hx)).1
      · rw [D.py, PyData.depth]; exact Nat.succ_le_succ (all_depth fun x hx => (ih (h x hx)).2)
    | lst xs =>
      have h : ∀ x ∈ xs, Pl n x := h
      refine ⟨?_, ?_⟩
      · rw [D.py, PyData.canLay0]; exact all_canLay fun x hx => (ih (h x hx)).1
      · rw [D.py, PyData.depth]; exact Nat.succ_le_succ (all_depth fun x hx => (ih (h x hx)).2)
    | _ => exact h.elim
theorem Pl.shaped {n : Nat} {d : D} (h : Pl n d) (hn : n ≤ 64) : SeqAt.shaped d.py = true := by
  obtain ⟨h1, h2⟩ := h.lay
  unfold SeqAt.shaped
  rw [h1, decide_eq_true (by omega : d.py.depth ≤ 64)]
  rfl
theorem Rep.dp : ∀ {n : Nat} {d : D} {v : V}, Pl n d → Rep c M H d v → Dp c.K H v d.py := by
  intro n
  have all : ∀ {n : Nat} (ih : ∀ {d : D} {v : V}, Pl n d → Rep c M H d v → Dp c.K H v d.py) {ds : List D} {vs : List V}, (∀ x ∈ ds, Pl n x) → RepL c M H ds vs → DpAll c.K H vs (D.py.pyL ds) := by
    intro n ih ds
    induction ds with
    | nil =>
      intro vs _ h
      unfold RepL at h
      rw [h]
      exact .nil
    | cons d ds ihd =>
      intro vs hp h
      unfold RepL at h
      obtain ⟨v, r, rfl, h1, h2⟩ := h
      exact .cons (ih (hp d List.mem_cons_self) h1) (ihd (fun x hx => hp x (List.mem_cons_of_mem _ hx)) h2)
  induction n with
  | zero =>
    intro d v p h
    cases d with
    | non => cases (show v = .non from h); exact .non
    | bl b => cases (show v = .bl b from h); exact .bl b
    | int i => cases (show v = .int i from h); exact .int i
    | str x => cases (show v = .str x from h); exact .str x
    | _ => exact p.elim
  | succ n ih =>
    intro d v p h
    cases d with
    | non => cases (show v = .non from h); exact .non
    | bl b => cases (show v = .bl b from h); exact .bl b
    | int i => cases (show v = .int i from h); exact .int i
    | str x => cases (show v = .str x from h); exact .str x
    | tup xs =>
      unfold Rep at h
      obtain ⟨a, vs, rfl, s, r⟩ := h
      rw [D.py]
      exact .tup s.seq (all ih p r)
    | lst xs =>
      unfold Rep at h
      obtain ⟨a, vs, rfl, s, r⟩ := h
      rw [D.py]
      exact .lst s.seq (all ih p r)
    | _ => exact p.elim
theorem BRep.dp {n : Nat} {d : D} {v : V} (p : Pl n d) (h : BRep c M H d v) : Dp c.K H v d.py := by
  rcases h with h | ⟨t, a, rfl, m, nh, o⟩
  · exact Rep.dp p h
  · cases d with
    | lst xs =>
      obtain ⟨vs, e, r⟩ := o
      -- read as if it were shared
      cases n with
      | zero => exact p.elim
      | succ n =>
        have hp : ∀ x ∈ xs, Pl n x := p
        rw [D.py]
        refine .lst (.of e) ?_
        have all : ∀ {ds : List D} {vs : List V}, (∀ x ∈ ds, Pl n x) → RepL c M H ds vs → DpAll c.K H vs (D.py.pyL ds) := by
          intro ds
          induction ds with
          | nil =>
            intro vs _ h
            unfold RepL at h
            rw [h]
            exact .nil
          | cons d ds ihd =>
            intro vs hp h
            unfold RepL at h
            obtain ⟨v, r, rfl, h1, h2⟩ := h
            exact .cons (Rep.dp (hp d List.mem_cons_self) h1) (ihd (fun x hx => hp x (List.mem_cons_of_mem _ hx)) h2)
        exact all hp r
    | _ => cases n <;> first | exact o.elim | exact p.elim

/-! ### numbers -/
abbrev rAdd4 (K : PySem.W.Frag) : R2 := fun x y H Q => (((rI0 fun i j => .int (i + j)) x y H Q ∨ (∃ i j, x = .str i ∧ y = .str j ∧ i.length + j.length ≤ sizeLine ∧ Q (.str (i ++ j)) H)) ∨ rCatA K x y H Q) ∨ rCat x y H Q
theorem opr_add : OpR X (binaryOp .Add) (rAdd4 X.K) := ((op_add.or op_add_str).or op_catA).or op_cat
theorem hd_new {a : Addr} (h : HdOk c M H) (hn : H a = none) : c.hd ≠ some a := fun e => by
  obtain ⟨_, _, _, _, _, _, _, q, _⟩ := h a e
  rw [hn] at q
  cases q
theorem SqT.sh {a : Addr} {vs : List V} {xs : List D} (h : BRep c M H (.tup xs) (.ref a)) : Rep c M H (.tup xs) (.ref a) := by
  rcases h with h | ⟨_, _, _, _, _, h⟩
  · exact h
  · exact h.elim
theorem sp_add (hf : Fit c X) : OpSp c (rAdd4 X.K) dAdd := fun M H x y vx vy Qd QV hh bx by_ h k => by
  unfold dAdd at h
  split at h
  · rename_i Q i j
    exact .inl (.inl (.inl ⟨i, j, bx.int, by_.int, k _ M H _ h .refl rfl⟩))
  · rename_i Q i j
    exact .inl (.inl (.inr ⟨i, j, bx.str, by_.str, h.1, k _ M H _ h.2 .refl rfl⟩))
  · rename_i Q xs ys
    obtain ⟨a, vs, rfl, s1, r1⟩ := bx.tup
    obtain ⟨b, ws, rfl, s2, r2⟩ := by_.tup
    refine .inl (.inr ⟨a, b, vs, ws, rfl, rfl, hf.K ▸ s1, hf.K ▸ s2, by rw [r1.length, r2.length]; exact h.1, fun e => ?_, fun _ e => ?_, fun _ _ p hp => ?_⟩)
    · have e1 : xs = [] := by
        have l := r1.length
        rw [e] at l
        exact List.length_eq_zero_iff.mp l.symm
      have h2 : Qd (.tup (xs ++ ys)) := h.2
      rw [e1, List.nil_append] at h2
      exact k _ M H _ h2 .refl (SqT.sh (vs := ws) by_)
    · have e1 : ys = [] := by
        have l := r2.length
        rw [e] at l
        exact List.length_eq_zero_iff.mp l.symm
      have h2 : Qd (.tup (xs ++ ys)) := h.2
      rw [e1, List.append_nil] at h2
      exact k _ M H _ h2 .refl (SqT.sh (vs := vs) bx)
    · exact k _ (setM M p none) _ _ h.2 (FrA.new hp) (rep_newT hp (hd_new hh hp) (r1.append r2))
  · rename_i Q xs ys
    obtain ⟨a, vs, rfl, s1, r1⟩ := bx.lstH
    obtain ⟨b, ws, rfl, s2, r2⟩ := by_.lstH
    refine .inr ⟨a, b, vs, ws, rfl, rfl, s1, s2, by rw [r1.length, r2.length]; exact h.1, fun p hp => ?_⟩
    have fa : FrA M H (setM M p none) (upd H p (.lst (vs ++ ws))) := FrA.new hp
    exact k _ (setM M p none) _ _ h.2 fa ((own_newL (r1.append r2) fa).rep setM_same (hd_new hh hp))
  · exact h.elim
theorem spF_add : OpSpF c rCat dAddL := fun M H x y vx vy Qd QV hh bx by_ h k => by
  unfold dAddL at h
  split at h
  · rename_i Q xs ys
    obtain ⟨a, vs, rfl, s1, r1⟩ := bx.lstH
    obtain ⟨b, ws, rfl, s2, r2⟩ := by_.lstH
    exact ⟨a, b, vs, ws, rfl, rfl, s1, s2, by rw [r1.length, r2.length]; exact h.1, fun p hp => k _ p _ h.2 hp fun M' fa => own_newL (r1.append r2) fa⟩
  · exact h.elim
theorem spF_mul : OpSpF c rRep dMulL := fun M H x y vx vy Qd QV hh bx by_ h k => by
  unfold dMulL at h
  split at h
  · rename_i Q xs n
    obtain ⟨a, vs, rfl, s1, r1⟩ := bx.lstH
    obtain rfl := by_.int
    refine ⟨a, n, vs, rfl, rfl, s1, h.1.1, h.1.2.1, by rw [r1.length]; exact h.1.2.2, fun p hp => k _ p _ h.2 hp fun M' fa => own_newL ?_ fa⟩
    have rep : ∀ m : Nat, RepL c M H (List.replicate m xs).flatten (List.replicate m vs).flatten := by
      intro m
      induction m with
      | zero => exact .nil
      | succ m ih =>
        rw [List.replicate_succ, List.replicate_succ, List.flatten_cons, List.flatten_cons]
        exact r1.append ih
    exact rep _
  · exact h.elim
theorem sp_sub : OpSp c (rI0 fun i j => .int (i - j)) dSub := fun M H x y vx vy Qd QV hh bx by_ h k => by
  unfold dSub at h
  split at h
  · exact ⟨_, _, bx.int, by_.int, k _ M H _ h .refl rfl⟩
  · exact h.elim
theorem opr_mul : OpR X (binaryOp .Mult) (fun x y H Q => rI CMul (fun i j => .int (i * j)) x y H Q ∨ rI CMulW (fun i j => .int (i * j)) x y H Q) := op_mul.or op_mulW
theorem sp_mul : OpSp c (fun x y H Q => rI CMul (fun i j => .int (i * j)) x y H Q ∨ rI CMulW (fun i j => .int (i * j)) x y H Q) dMul := fun M H x y vx vy Qd QV hh bx by_ h k => by
  unfold dMul at h
  split at h
  · rcases h.1 with z | z
    · exact .inl ⟨_, _, bx.int, by_.int, z, k _ M H _ h.2 .refl rfl⟩
    · exact .inr ⟨_, _, bx.int, by_.int, z, k _ M H _ h.2 .refl rfl⟩
  · exact h.elim
theorem sp_floor : OpSp c (rI CDivW fun i j => .int (i / j)) dFloor := fun M H x y vx vy Qd QV hh bx by_ h k => by
  unfold dFloor at h
  split at h
  · exact ⟨_, _, bx.int, by_.int, h.1, k _ M H _ h.2 .refl rfl⟩
  · exact h.elim
theorem sp_mod : OpSp c (rI (fun _ j => 0 < j) fun i j => .int (i % j)) dMod := fun M H x y vx vy Qd QV hh bx by_ h k => by
  unfold dMod at h
  split at h
  · exact ⟨_, _, bx.int, by_.int, h.1, k _ M H _ h.2 .refl rfl⟩
  · exact h.elim
theorem sp_pow : OpSp c (rI CPow fun i j => .int (i ^ j.toNat)) dPow := fun M H x y vx vy Qd QV hh bx by_ h k => by
  unfold dPow at h
  split at h
  · exact ⟨_, _, bx.int, by_.int, h.1, k _ M H _ h.2 .refl rfl⟩
  · exact h.elim
theorem sp_cmp (p : Int → Int → Bool) : OpSp c (rI0 fun i j => .bl (p i j)) (dCmp p) := fun M H x y vx vy Qd QV hh bx by_ h k => by
  unfold dCmp at h
  split at h
  · exact ⟨_, _, bx.int, by_.int, k _ M H _ h .refl rfl⟩
  · exact h.elim
/-! ### equality -/
theorem opr_eq (hu : X.A.units + 64 < cLine) : OpR X (compareOp .Eq) (fun x y H Q => rEq x y H Q ∨ rEqD X.K x y H Q) := op_eq.or (op_eqD hu)
theorem opr_ne (hu : X.A.units + 64 < cLine) : OpR X (compareOp .NotEq) (fun x y H Q => rNe x y H Q ∨ rNeD X.K x y H Q) := op_ne.or (op_neD hu)
theorem dec_int {i j : Int} : decide (V.int i = V.int j) = decide (i = j) := by
  by_cases e : i = j
  · rw [e, decide_eq_true rfl, decide_eq_true rfl]
  · rw [decide_eq_false e, decide_eq_false fun z => e (V.int.inj z)]
theorem dec_str {i j : Str} : decide (V.str i = V.str j) = decide (i = j) := by
  by_cases e : i = j
  · rw [e, decide_eq_true rfl, decide_eq_true rfl]
  · rw [decide_eq_false e, decide_eq_false fun z => e (V.str.inj z)]
theorem sp_eq (hf : Fit c X) : OpSp c (fun x y H Q => rEq x y H Q ∨ rEqD X.K x y H Q) dEq := fun M H x y vx vy Qd QV hh bx by_ h k => by
  unfold dEq at h
  split at h
  · rw [bx.int, by_.int]
    refine .inl ⟨rfl, ?_⟩
    rw [dec_int]
    exact k _ M H _ h .refl rfl
  · rw [bx.str, by_.str]
    refine .inl ⟨rfl, ?_⟩
    rw [dec_str]
    exact k _ M H _ h .refl rfl
  · obtain ⟨p1, p2, q⟩ := h
    exact .inr ⟨_, _, hf.K ▸ bx.dp p1, hf.K ▸ by_.dp p2, p1.shaped (by omega), p2.shaped (by omega), k _ M H _ q .refl rfl⟩
theorem sp_ne (hf : Fit c X) : OpSp c (fun x y H Q => rNe x y H Q ∨ rNeD X.K x y H Q) dNe := fun M H x y vx vy Qd QV hh bx by_ h k => by
  unfold dNe at h
  split at h
  · rw [bx.int, by_.int]
    refine .inl ⟨rfl, ?_⟩
    rw [dec_int]
    exact k _ M H _ h .refl rfl
  · rw [bx.str, by_.str]
    refine .inl ⟨rfl, ?_⟩
    rw [dec_str]
    exact k _ M H _ h .refl rfl
  · obtain ⟨p1, p2, q⟩ := h
    exact .inr ⟨_, _, hf.K ▸ bx.dp p1, hf.K ▸ by_.dp p2, p1.shaped (by omega), p2.shaped (by omega), k _ M H _ q .refl rfl⟩
theorem BRep.isNon {d : D} {v : V} (h : BRep c M H d v) : decide (v = .non) = d.isNon := by
  rcases h with h | ⟨t, a, rfl, _, _, o⟩
  · cases d with
    | non => cases (show v = .non from h); rfl
    | bl b => cases (show v = .bl b from h); rfl
    | int i => cases (show v = .int i from h); rfl
    | str x => cases (show v = .str x from h); rfl
    | tup xs => unfold Rep at h; obtain ⟨a, vs, rfl, _⟩ := h; rfl
    | lst xs => unfold Rep at h; obtain ⟨a, vs, rfl, _⟩ := h; rfl
    | dct ks ds => unfold Rep at h; obtain ⟨a, vs, rfl, _⟩ := h; rfl
    | ob n => obtain ⟨a, _, rfl⟩ := (show ∃ a, c.hd = some a ∧ v = .ref a from h); rfl
    | gl x => obtain ⟨a, _, rfl⟩ := (show ∃ a, c.mg x = some (.ref a) ∧ v = .ref a from h); rfl
    | ty n => cases (show v = .ty n from h); rfl
    | fl ns => unfold Rep at h; obtain ⟨a, rfl, _⟩ := h; rfl
  · cases d with
    | lst xs => rfl
    | dct ks ds => rfl
    | _ => exact o.elim
theorem sp_isN : OpSp c (fun x y H Q => y = .non ∧ Q (.bl (decide (x = .non))) H) dIsN := fun M H x y vx vy Qd QV hh bx by_ h k => by
  unfold dIsN at h
  split at h
  · refine ⟨by_.non, ?_⟩
    rw [bx.isNon]
    exact k _ M H _ h .refl rfl
  · exact h.elim
theorem sp_notN : OpSp c (fun x y H Q => y = .non ∧ Q (.bl (!decide (x = .non))) H) dNotN := fun M H x y vx vy Qd QV hh bx by_ h k => by
  unfold dNotN at h
  split at h
  · refine ⟨by_.non, ?_⟩
    rw [bx.isNon]
    exact k _ M H _ h .refl rfl
  · exact h.elim
end
end Lk

namespace Lk
open PySem PySem.Spec PyProof.Rows L2

/-! ## 6. Built-ins, subscripts, slices -/
def D.ints : List D → Option (List Int)
  | [] => some []
  | .int i :: r => (D.ints r).map (i :: ·)
  | _ => none
def D.bls : List D → Option (List Bool)
  | [] => some []
  | .bl b :: r => (D.bls r).map (b :: ·)
  | _ => none
theorem ints_map (ns : List Int) : D.ints (ns.map D.int) = some ns := by
  induction ns with
  | nil => rfl
  | cons n ns ih => show (D.ints (ns.map D.int)).map (n :: ·) = _; rw [ih]; rfl
theorem bls_map (bs : List Bool) : D.bls (bs.map D.bl) = some bs := by
  induction bs with
  | nil => rfl
  | cons n ns ih => show (D.bls (ns.map D.bl)).map (n :: ·) = _; rw [ih]; rfl
theorem ints_eq : ∀ {ds : List D} {ns : List Int}, D.ints ds = some ns → ds = ns.map D.int
  | [], _, h => by cases h; rfl
  | .int i :: r, ns, h => by
    have h : (D.ints r).map (i :: ·) = some ns := h
    cases e : D.ints r with
    | none => rw [e] at h; cases h
    | some ms =>
      rw [e] at h
      cases h
      rw [ints_eq e]
      rfl
  | .non :: _, _, h => nomatch h
  | .bl _ :: _, _, h => nomatch h
  | .str _ :: _, _, h => nomatch h
  | .tup _ :: _, _, h => nomatch h
  | .lst _ :: _, _, h => nomatch h
  | .dct _ _ :: _, _, h => nomatch h
  | .ob _ :: _, _, h => nomatch h
  | .gl _ :: _, _, h => nomatch h
  | .ty _ :: _, _, h => nomatch h
theorem bls_eq : ∀ {ds : List D} {ns : List Bool}, D.bls ds = some ns → ds = ns.map D.bl
  | [], _, h => by cases h; rfl
  | .bl i :: r, ns, h => by
    have h : (D.bls r).map (i :: ·) = some ns := h
    cases e : D.bls r with
    | none => rw [e] at h; cases h
    | some ms =>
      rw [e] at h
      cases h
      rw [bls_eq e]
      rfl
  | .non :: _, _, h => nomatch h
  | .int _ :: _, _, h => nomatch h
  | .str _ :: _, _, h => nomatch h
  | .tup _ :: _, _, h => nomatch h
  | .lst _ :: _, _, h => nomatch h
  | .dct _ _ :: _, _, h => nomatch h
  | .ob _ :: _, _, h => nomatch h
  | .gl _ :: _, _, h => nomatch h
  | .ty _ :: _, _, h => nomatch h
@[simp] def withO {α : Type} (o : Option α) (Q : α → Prop) : Prop := match o with
  | some a => Q a
  | none => False
theorem withO_of {α : Type} {o : Option α} {Q : α → Prop} (h : withO o Q) : ∃ a, o = some a ∧ Q a := by
  cases o with
  | none => exact h.elim
  | some a => exact ⟨a, rfl, h⟩
def isort (ns : List Int) : List Int := ns.mergeSort (fun a b => decide (a ≤ b))
theorem isort_perm (ns : List Int) : (isort ns).Perm ns := List.mergeSort_perm _ _
theorem isort_pair (ns : List Int) : (isort ns).Pairwise (· ≤ ·) := by
  have h := List.pairwise_mergeSort (le := fun a b : Int => decide (a ≤ b)) (fun a b c h1 h2 => by simp only [decide_eq_true_eq] at *; omega) (fun a b => by simp only [Bool.or_eq_true, decide_eq_true_eq]; omega) ns
  exact h.imp fun h => by simpa using h
theorem isort_one {ns ms : List Int} (hp : ms.Perm ns) (hs : ms.Pairwise (· ≤ ·)) : ms = isort ns := PySem.W.ksm_same (hp.trans (isort_perm ns).symm) hs (isort_pair ns)

@[simp] def dLen : FA
  | [.lst xs], Q => Q (.int xs.length)
  | [.tup xs], Q => Q (.int xs.length)
  | [.str s], Q => s.length ≤ sizeLine ∧ Q (.int s.length)
  | [.dct ks _], Q => Q (.int ks.length)
  | _, _ => False
@[simp] def dAbs : FA
  | [.int i], Q => Q (.int (if i < 0 then -i else i))
  | _, _ => False
@[simp] def dInt : FA
  | [.int i], Q => Q (.int i)
  | [.bl b], Q => Q (.int (if b then 1 else 0))
  | _, _ => False
@[simp] def dSum : FA
  | [.lst xs], Q => withO (D.ints xs) fun ns => Q (.int ns.sum)
  | _, _ => False
@[simp] def dAll : FA
  | [.lst xs], Q => withO (D.bls xs) fun bs => Q (.bl (bs.all id))
  | _, _ => False
@[simp] def dAny : FA
  | [.lst xs], Q => withO (D.bls xs) fun bs => Q (.bl (bs.any id))
  | _, _ => False
@[simp] def dTuple : FA
  | [.lst xs], Q => Q (.tup xs)
  | [.tup xs], Q => Q (.tup xs)
  | _, _ => False
@[simp] def dList : FA
  | [.lst xs], Q => Q (.lst xs)
  | [.tup xs], Q => Q (.lst xs)
  | _, _ => False
@[simp] def dSortI : FA
  | [.lst xs], Q => withO (D.ints xs) fun ns => Q (.lst ((isort ns).map .int))
  | _, _ => False
@[simp] def dMin2 : FA
  | [.int i, .int j], Q => Q (.int (if j < i then j else i))
  | _, _ => False
@[simp] def dMax2 : FA
  | [.int i, .int j], Q => Q (.int (if j > i then j else i))
  | _, _ => False
@[simp] def dMinL : FA
  | [.lst xs], Q => withO (D.ints xs) fun ns => 0 < ns.length ∧ ∀ m, m ∈ ns → (∀ y ∈ ns, m ≤ y) → Q (.int m)
  | _, _ => False
@[simp] def dMaxL : FA
  | [.lst xs], Q => withO (D.ints xs) fun ns => 0 < ns.length ∧ ∀ m, m ∈ ns → (∀ y ∈ ns, y ≤ m) → Q (.int m)
  | _, _ => False
@[simp] def dStrI : FA
  | [.int i], Q => i.natAbs.log2 < 1920 ∧ Q (.str (toString i))
  | _, _ => False

section
variable {c : Ct} {X : Cx} {W : WX} {M M' : Own} {H H' : Hp}
abbrev rLen3 (K : PySem.W.Frag) : R1 := fun xs H Q => ((∃ p ys, xs = [.ref p] ∧ (SqL K H p ys ∨ SqT K H p ys) ∧ Q (.int ys.length) H) ∨ (∃ z, xs = [.str z] ∧ z.length ≤ sizeLine ∧ Q (.int z.length) H)) ∨ ∃ a kvs, xs = [V.ref a] ∧ H a = some (.dK kvs) ∧ Q (.int kvs.length) H
theorem clr_len : CallR X (.builtin "len") (rLen3 X.K) := (call_len_seq.or call_len_str).or call_lenD
theorem sp_len (hf : Fit c X) : CallSp c (rLen3 X.K) dLen := fun M H ds vs Qd QV hh b h k => by
  unfold dLen at h
  split at h
  · obtain ⟨v, rfl, bb⟩ := b.one
    obtain ⟨a, ws, rfl, s, r⟩ := bb.lst
    exact .inl (.inl ⟨a, ws, rfl, .inl (hf.K ▸ s), k _ M H _ h .refl (by rw [r.length]; rfl)⟩)
  · obtain ⟨v, rfl, bb⟩ := b.one
    obtain ⟨a, ws, rfl, s, r⟩ := bb.tup
    exact .inl (.inl ⟨a, ws, rfl, .inr (hf.K ▸ s), k _ M H _ h .refl (by rw [r.length]; rfl)⟩)
  · obtain ⟨v, rfl, bb⟩ := b.one
    rw [bb.str]
    exact .inl (.inr ⟨_, rfl, h.1, k _ M H _ h.2 .refl rfl⟩)
  · obtain ⟨v, rfl, bb⟩ := b.one
    obtain ⟨a, ws, rfl, s, l, r⟩ := bb.dct
    refine .inr ⟨a, _, rfl, s, k _ M H _ h .refl ?_⟩
    rw [List.length_zip, r.length, ← l, Nat.min_self]
    rfl
  · exact h.elim
theorem sp_abs : CallSp c (fun xs H Q => ∃ i, xs = [.int i] ∧ Q (.int (if i < 0 then -i else i)) H) dAbs := fun M H ds vs Qd QV hh b h k => by
  unfold dAbs at h
  split at h
  · obtain ⟨v, rfl, bb⟩ := b.one
    rw [bb.int]
    exact ⟨_, rfl, k _ M H _ h .refl rfl⟩
  · exact h.elim
theorem sp_int : CallSp c (fun xs H Q => (∃ i, xs = [.int i] ∧ Q (.int i) H) ∨ ∃ k, xs = [.bl k] ∧ Q (.int (if k then 1 else 0)) H) dInt := fun M H ds vs Qd QV hh b h k => by
  unfold dInt at h
  split at h
  · obtain ⟨v, rfl, bb⟩ := b.one
    rw [bb.int]
    exact .inl ⟨_, rfl, k _ M H _ h .refl rfl⟩
  · obtain ⟨v, rfl, bb⟩ := b.one
    rw [bb.bl]
    exact .inr ⟨_, rfl, k _ M H _ h .refl rfl⟩
  · exact h.elim
theorem RepL.bools : ∀ {ns : List Bool} {vs : List V}, RepL c M H (ns.map D.bl) vs → vs = ns.map V.bl
  | [], _, h => by
    unfold RepL at h
    exact h
  | n :: ns, _, h => by
    unfold RepL at h
    obtain ⟨v, r, rfl, h1, h2⟩ := h
    have h1 : v = V.bl n := h1
    subst h1
    rw [RepL.bools h2]
    rfl
theorem sp_sum (hf : Fit c X) : CallSp c (rSum X.K) dSum := fun M H ds vs Qd QV hh b h k => by
  unfold dSum at h
  split at h
  · obtain ⟨ns, e, q⟩ := withO_of h
    have e := ints_eq e
    subst e
    obtain ⟨v, rfl, bb⟩ := b.one
    obtain ⟨a, ws, rfl, s, r⟩ := bb.lst
    have e := r.ints
    subst e
    exact ⟨a, ns, rfl, hf.K ▸ s, k _ M H _ q .refl rfl⟩
  · exact h.elim
theorem sp_all (hf : Fit c X) : CallSp c (rAll X.K) dAll := fun M H ds vs Qd QV hh b h k => by
  unfold dAll at h
  split at h
  · obtain ⟨ns, e, q⟩ := withO_of h
    have e := bls_eq e
    subst e
    obtain ⟨v, rfl, bb⟩ := b.one
    obtain ⟨a, ws, rfl, s, r⟩ := bb.lst
    have e := r.bools
    subst e
    exact ⟨a, ns, rfl, hf.K ▸ s, k _ M H _ q .refl rfl⟩
  · exact h.elim
theorem sp_any (hf : Fit c X) : CallSp c (rAny X.K) dAny := fun M H ds vs Qd QV hh b h k => by
  unfold dAny at h
  split at h
  · obtain ⟨ns, e, q⟩ := withO_of h
    have e := bls_eq e
    subst e
    obtain ⟨v, rfl, bb⟩ := b.one
    obtain ⟨a, ws, rfl, s, r⟩ := bb.lst
    have e := r.bools
    subst e
    exact ⟨a, ns, rfl, hf.K ▸ s, k _ M H _ q .refl rfl⟩
  · exact h.elim
abbrev rTuple2 (K : PySem.W.Frag) : R1 := fun xs H Q => ∃ p ys, xs = [.ref p] ∧ ((SqL K H p ys ∧ ∀ l, H l = none → Q (.ref l) (upd H l (.tup ys))) ∨ (SqT K H p ys ∧ Q (.ref p) H))
theorem sp_tuple (hf : Fit c X) : CallSp c (rTuple2 X.K) dTuple := fun M H ds vs Qd QV hh b h k => by
  unfold dTuple at h
  split at h
  · obtain ⟨v, rfl, bb⟩ := b.one
    obtain ⟨a, ws, rfl, s, r⟩ := bb.lst
    exact ⟨a, ws, rfl, .inl ⟨hf.K ▸ s, fun l hl => k _ (setM M l none) _ _ h (FrA.new hl) (rep_newT hl (hd_new hh hl) r)⟩⟩
  · obtain ⟨v, rfl, bb⟩ := b.one
    obtain ⟨a, ws, rfl, s, r⟩ := bb.tup
    exact ⟨a, ws, rfl, .inr ⟨hf.K ▸ s, k _ M H _ h .refl (SqT.sh (vs := ws) bb)⟩⟩
  · exact h.elim
abbrev rList2 (K : PySem.W.Frag) : R1 := fun xs H Q => ∃ p ys, xs = [.ref p] ∧ (SqL K H p ys ∨ SqT K H p ys) ∧ ∀ l, H l = none → Q (.ref l) (upd H l (.lst ys))
theorem spF_list (hf : Fit c X) : CallSpF c (rList2 X.K) dList := fun M H ds vs Qd QV hh b h k => by
  unfold dList at h
  split at h
  · obtain ⟨v, rfl, bb⟩ := b.one
    obtain ⟨a, ws, rfl, s, r⟩ := bb.lst
    exact ⟨a, ws, rfl, .inl (hf.K ▸ s), fun l hl => k _ l _ h hl fun M' fa => own_newL r fa⟩
  · obtain ⟨v, rfl, bb⟩ := b.one
    obtain ⟨a, ws, rfl, s, r⟩ := bb.tup
    exact ⟨a, ws, rfl, .inr (hf.K ▸ s), fun l hl => k _ l _ h hl fun M' fa => own_newL r fa⟩
  · exact h.elim
theorem spF_sortI (hf : Fit c X) : CallSpF c (rSortedI X.K) dSortI := fun M H ds vs Qd QV hh b h k => by
  unfold dSortI at h
  split at h
  · obtain ⟨ns, e, q⟩ := withO_of h
    have e := ints_eq e
    subst e
    obtain ⟨v, rfl, bb⟩ := b.one
    obtain ⟨a, ws, rfl, s, r⟩ := bb.lst
    have e := r.ints
    subst e
    refine ⟨a, ns, rfl, hf.K ▸ s, fun ms p hp hs hn => ?_⟩
    have e := isort_one hp hs
    subst e
    exact k _ p _ q hn fun M' fa => own_newL (RepL.ofInts _) fa
  · exact h.elim
theorem sp_min2 : CallSp c (fun xs H Q => ∃ i j, xs = [.int i, .int j] ∧ Q (.int (if j < i then j else i)) H) dMin2 := fun M H ds vs Qd QV hh b h k => by
  unfold dMin2 at h
  split at h
  · obtain ⟨v, w, rfl, b1, b2⟩ := b.two
    rw [b1.int, b2.int]
    exact ⟨_, _, rfl, k _ M H _ h .refl rfl⟩
  · exact h.elim
theorem sp_max2 : CallSp c (fun xs H Q => ∃ i j, xs = [.int i, .int j] ∧ Q (.int (if j > i then j else i)) H) dMax2 := fun M H ds vs Qd QV hh b h k => by
  unfold dMax2 at h
  split at h
  · obtain ⟨v, w, rfl, b1, b2⟩ := b.two
    rw [b1.int, b2.int]
    exact ⟨_, _, rfl, k _ M H _ h .refl rfl⟩
  · exact h.elim
theorem sp_minL (hf : Fit c X) : CallSp c (rMin X.K) dMinL := fun M H ds vs Qd QV hh b h k => by
  unfold dMinL at h
  split at h
  · obtain ⟨ns, e, q0, q⟩ := withO_of h
    have e := ints_eq e
    subst e
    obtain ⟨v, rfl, bb⟩ := b.one
    obtain ⟨a, ws, rfl, s, r⟩ := bb.lst
    have e := r.ints
    subst e
    exact ⟨a, ns, rfl, hf.K ▸ s, q0, fun m h1 h2 => k _ M H _ (q m h1 h2) .refl rfl⟩
  · exact h.elim
theorem sp_maxL (hf : Fit c X) : CallSp c (rMax X.K) dMaxL := fun M H ds vs Qd QV hh b h k => by
  unfold dMaxL at h
  split at h
  · obtain ⟨ns, e, q0, q⟩ := withO_of h
    have e := ints_eq e
    subst e
    obtain ⟨v, rfl, bb⟩ := b.one
    obtain ⟨a, ws, rfl, s, r⟩ := bb.lst
    have e := r.ints
    subst e
    exact ⟨a, ns, rfl, hf.K ▸ s, q0, fun m h1 h2 => k _ M H _ (q m h1 h2) .refl rfl⟩
  · exact h.elim
theorem sp_strI : CallSp c (fun xs H Q => ∃ i, xs = [.int i] ∧ i.natAbs.log2 < 1920 ∧ Q (.str (toString i)) H) dStrI := fun M H ds vs Qd QV hh b h k => by
  unfold dStrI at h
  split at h
  · obtain ⟨v, rfl, bb⟩ := b.one
    rw [bb.int]
    exact ⟨_, rfl, h.1, k _ M H _ h.2 .refl rfl⟩
  · exact h.elim

/-! ### isinstance -/
def D.tyN : D → Option String
  | .non => some "NoneType"
  | .bl _ => some "bool"
  | .int _ => some "int"
  | .str _ => some "str"
  | .tup _ => some "tuple"
  | .lst _ => some "list"
  | .dct _ _ => some "dict"
  | _ => none
@[simp] def tyNames : List String := ["NoneType", "bool", "int", "str", "tuple", "list", "dict"]
@[simp] def isTyB (a b : String) : Bool := a == b || (a == "bool" && b == "int")
@[simp] def dIsi : FA
  | [x, .ty n], Q => n ∈ tyNames ∧ withO x.tyN fun t => Q (.bl (isTyB t n))
  | _, _ => False
theorem kitB_all : ∀ a ∈ tyNames, ∀ b ∈ tyNames, kitB a b = some (isTyB a b) := by decide +kernel
theorem D.tyN_mem {x : D} {t : String} (h : x.tyN = some t) : t ∈ tyNames := by
  cases x <;> first | (cases h; decide) | cases h
theorem BRep.tyx {x : D} {v : V} {t : String} (b : BRep c M H x v) (h : x.tyN = some t) : TyX c.K H v (.type t) := by
  cases x with
  | non => cases h; rw [b.non]; exact .base .non
  | bl k => cases h; rw [b.bl]; exact .base (.bl k)
  | int i => cases h; rw [b.int]; exact .base (.int i)
  | str s => cases h; rw [b.str]; exact .base (.str s)
  | tup xs =>
    cases h
    obtain ⟨a, vs, rfl, s, r⟩ := b.tup
    rcases s with (s | ⟨o, s⟩) | ⟨o, its, n, h1, h2, _⟩
    · exact .base (.tup s)
    · exact .fTuple s
    · exact .kTuple h1 h2
  | lst xs =>
    cases h
    obtain ⟨a, vs, rfl, s, r⟩ := b.lstH
    exact .base (.lst s)
  | dct ks ds =>
    cases h
    obtain ⟨a, vs, rfl, s, l, r⟩ := b.dct
    exact .base (.dK s)
  | _ => cases h
theorem sp_isi (hf : Fit c X) : CallSp c (rIsi X.K) dIsi := fun M H ds vs Qd QV hh b h k => by
  unfold dIsi at h
  split at h
  · obtain ⟨hn, h⟩ := h
    obtain ⟨t, e, q⟩ := withO_of h
    obtain ⟨v, w, rfl, b1, b2⟩ := b.two
    rw [b2.ty]
    exact ⟨v, _, .type t, _, _, rfl, .ty _, hf.K ▸ b1.tyx e, kit_ty (kitB_all t (D.tyN_mem e) _ hn), k _ M H _ q .refl rfl⟩
  · exact h.elim

/-! ### subscripts, slices -/
@[simp] def dIx : F2
  | .lst xs, .int i, Q => withO (atI xs i) Q
  | .tup xs, .int i, Q => withO (atI xs i) Q
  | .str s, .int i, Q => s.length ≤ sizeLine ∧ withO (atI s.cps.toList i) fun ch => Q (.str ⟨#[ch]⟩)
  | _, _, _ => False
theorem RepL.atI {xs : List D} {vs : List V} {i : Int} {d : D} (r : RepL c M H xs vs) (h : L2.atI xs i = some d) : ∃ v, L2.atI vs i = some v ∧ Rep c M H d v := by
  unfold L2.atI at h ⊢
  rw [r.length]
  cases e : ixN xs.length i with
  | none => rw [e] at h; cases h
  | some j =>
    rw [e] at h
    exact r.get h
theorem sp_ix (hf : Fit c X) : OpSp c (rIx X.K) dIx := fun M H x y vx vy Qd QV hh bx by_ h k => by
  unfold dIx at h
  split at h
  · obtain ⟨d, e, q⟩ := withO_of h
    obtain ⟨a, vs, rfl, s, r⟩ := bx.lst
    obtain ⟨v, e1, r1⟩ := r.atI e
    exact .inl ⟨a, vs, _, v, rfl, by_.int, hf.K ▸ s, e1, k _ M H _ q .refl r1⟩
  · obtain ⟨d, e, q⟩ := withO_of h
    obtain ⟨a, vs, rfl, s, r⟩ := bx.tup
    obtain ⟨v, e1, r1⟩ := r.atI e
    exact .inr (.inl ⟨a, vs, _, v, rfl, by_.int, hf.K ▸ s, e1, k _ M H _ q .refl r1⟩)
  · obtain ⟨hz, h⟩ := h
    obtain ⟨d, e, q⟩ := withO_of h
    exact .inr (.inr ⟨_, _, d, bx.str, by_.int, hz, e, k _ M H _ q .refl rfl⟩)
  · exact h.elim
theorem ee_ix {a b : Expr} {m : M2} {pos : Pos} (hf : Fit c X) (h : E2 c X W a b m) (hs : PlainIx b := by exact fun _ _ => rfl) : EE c X W (.Subscript a b pos) (mOp dIx m) := by
  obtain ⟨ta, tb, pa, pb, z⟩ := h
  exact ⟨_, pe_ix ix_seq pa pb hs, op_rel (sp_ix hf) z⟩
/-- a slice's part -/
abbrev MO := Ev → (Option Int → Ev → Prop) → XP → Prop
def EO (c : Ct) (X : Cx) (W : WX) (e : Option Expr) (m : MO) : Prop := ∃ t, PO X e t ∧ ∀ M H σ ρ Q E (QV : Option Int → Hp → Prop), Good c M H σ ρ → m ρ Q E →
  (∀ o ρ' M' H', Q o ρ' → Good c M' H' σ ρ' → Fr c M H M' H' → QV o H') → XOk c W M H σ E → t σ H QV
@[simp] def mNoP : MO := fun ρ Q _ => Q none ρ
@[simp] def asI (Q : Int → Prop) : D → Prop
  | .int i => Q i
  | _ => False
@[simp] def mPart (m : ME) : MO := fun ρ Q E => m ρ (fun d ρ' => asI (fun i => Q (some i) ρ') d) E
theorem eo_none : EO c X W none mNoP := ⟨_, po_none, fun M H σ ρ Q E QV g h k _ => k none ρ M H h g .refl⟩
theorem eo_some {e : Expr} {m : ME} (h : EE c X W e m) : EO c X W (some e) (mPart m) := by
  obtain ⟨t, p, r⟩ := h
  refine ⟨_, po_some p, fun M H σ ρ Q E QV g hm k x => r M H σ ρ _ E _ g hm (fun d ρ' M' H' v q g' f rr => ?_) x⟩
  cases d with
  | int i => exact ⟨i, rr, k (some i) ρ' M' H' q g' f⟩
  | _ => exact q.elim
def cutG {α : Type} (xs : List α) (lo hi : Option Int) : List α := (xs.drop (HT.sIx xs.length 0 lo)).take (HT.sIx xs.length xs.length hi - HT.sIx xs.length 0 lo)
theorem RepL.cut {xs : List D} {vs : List V} (r : RepL c M H xs vs) (lo hi : Option Int) : RepL c M H (cutG xs lo hi) (cutV vs lo hi) := by
  unfold cutG cutV
  rw [r.length]
  exact (r.drop _).take _
abbrev F3 := D → Option Int → Option Int → (D → Prop) → Prop
@[simp] def dSl : F3
  | .tup xs, lo, hi, Q => Q (.tup (cutG xs lo hi))
  | .lst xs, lo, hi, Q => Q (.lst (cutG xs lo hi))
  | .str s, lo, hi, Q => s.length ≤ sizeLine ∧ Q (.str (cutS s lo hi))
  | .fl ns, lo, hi, Q => Q (.lst (cutG (ns.map D.int) lo hi))
  | _, _, _, _ => False
@[simp] def dSlL : F3
  | .lst xs, lo, hi, Q => Q (.lst (cutG xs lo hi))
  | .fl ns, lo, hi, Q => Q (.lst (cutG (ns.map D.int) lo hi))
  | _, _, _, _ => False
abbrev rSl3 (K : PySem.W.Frag) : V → Option Int → Option Int → Hp → VK → Prop := fun x lo hi H Q => (rSlA K x lo hi H Q ∨ rSlL K x lo hi H Q) ∨ rSlS x lo hi H Q
theorem slr3 : SlR X (rSl3 X.K) := (sl_tupA.or sl_list).or sl_str
theorem sp_sl (hf : Fit c X) {x : D} {vx : V} {lo hi : Option Int} {Qd : D → Prop} {QV : VK} (hh : HdOk c M H) (bx : BRep c M H x vx) (h : dSl x lo hi Qd)
    (k : ∀ d M' H' v, Qd d → FrA M H M' H' → Rep c M' H' d v → QV v H') : rSl3 X.K vx lo hi H QV := by
  unfold dSl at h
  split at h
  · rename_i xs
    obtain ⟨a, vs, rfl, s, r⟩ := bx.tup
    refine .inl (.inl ⟨a, vs, rfl, hf.K ▸ s, fun e => ?_, fun _ p hp => ?_⟩)
    · have e2 : cutG xs lo hi = xs := by
        unfold cutG
        rw [← r.length, e.1, e.2, List.drop_zero, Nat.sub_zero, r.length, List.take_length]
      rw [e2] at h
      exact k _ M H _ h .refl (SqT.sh (vs := vs) bx)
    · exact k _ (setM M p none) _ _ h (FrA.new hp) (rep_newT hp (hd_new hh hp) (r.cut lo hi))
  · obtain ⟨a, vs, rfl, s, r⟩ := bx.lst
    refine .inl (.inr ⟨a, vs, rfl, hf.K ▸ s, fun p hp => ?_⟩)
    have fa : FrA M H (setM M p none) (upd H p (.lst (cutV vs lo hi))) := FrA.new hp
    exact k _ (setM M p none) _ _ h fa ((own_newL (r.cut lo hi) fa).rep setM_same (hd_new hh hp))
  · rw [bx.str]
    exact .inr ⟨_, rfl, h.1, k _ M H _ h.2 .refl rfl⟩
  · rename_i ns
    obtain ⟨a, rfl, s⟩ := bx.fl
    refine .inl (.inr ⟨a, _, rfl, hf.K ▸ s, fun p hp => ?_⟩)
    have fa : FrA M H (setM M p none) (upd H p (.lst (cutV (ns.map V.int) lo hi))) := FrA.new hp
    exact k _ (setM M p none) _ _ h fa ((own_newL ((RepL.ofInts ns).cut lo hi) fa).rep setM_same (hd_new hh hp))
  · exact h.elim
theorem spF_sl (hf : Fit c X) {x : D} {vx : V} {lo hi : Option Int} {Qd : D → Prop} {QV : VK} (hh : HdOk c M H) (bx : BRep c M H x vx) (h : dSlL x lo hi Qd)
    (k : ∀ d a o, Qd d → H a = none → (∀ M', FrA M H M' (upd H a o) → OwAt c M' (upd H a o) a d) → QV (.ref a) (upd H a o)) : rSlL X.K vx lo hi H QV := by
  unfold dSlL at h
  split at h
  · obtain ⟨a, vs, rfl, s, r⟩ := bx.lst
    exact ⟨a, vs, rfl, hf.K ▸ s, fun p hp => k _ p _ h hp fun M' fa => own_newL (r.cut lo hi) fa⟩
  · rename_i ns
    obtain ⟨a, rfl, s⟩ := bx.fl
    exact ⟨a, _, rfl, hf.K ▸ s, fun p hp => k _ p _ h hp fun M' fa => own_newL ((RepL.ofInts ns).cut lo hi) fa⟩
  · exact h.elim
@[simp] def mSl (f : F3) (m : ME) (ml mh : MO) : ME := fun ρ Q E => m ρ (fun x ρ1 => ml ρ1 (fun lo ρ2 => mh ρ2 (fun hi ρ3 => f x lo hi fun d => Q d ρ3) E) E) E
@[simp] def mSlV (f : F3) (i : Nat) (ml mh : MO) : ME := fun ρ Q E => match ρ.get i with
  | none => False
  | some _ => ml ρ (fun lo ρ2 => mh ρ2 (fun hi ρ3 => match ρ3.get i with
    | some (x, _) => f x lo hi fun d => Q d ρ3
    | none => False) E) E
theorem ee_sl {e : Expr} {lo hi : Option Expr} {m : ME} {ml mh : MO} {pos p2 : Pos} (hf : Fit c X) (h : EE c X W e m) (hl : EO c X W lo ml) (hh : EO c X W hi mh) : EE c X W (.Subscript e (.Slice lo hi none p2) pos) (mSl dSl m ml mh) := by
  obtain ⟨t, p, r⟩ := h
  obtain ⟨tl, pl, rl⟩ := hl
  obtain ⟨th, ph, rh⟩ := hh
  refine ⟨_, pe_slice slr3 p pl ph, fun M H σ ρ Q E QV g hm k x => r M H σ ρ _ E _ g hm (fun d ρ1 M1 H1 v q g1 f1 r1 => ?_) x⟩
  refine rl M1 H1 σ ρ1 _ E _ g1 q (fun lo ρ2 M2 H2 q g2 f2 => ?_) (x.fr f1)
  refine rh M2 H2 σ ρ2 _ E _ g2 q (fun hi ρ3 M3 H3 q g3 f3 => ?_) (x.fr (f1.trans f2))
  exact sp_sl hf g3.hand (.inl (r1.fr (f2.trans f3))) q fun d M4 H4 v q4 f4 r4 => k d ρ3 M4 H4 v q4 (g3.frA f4) ((f1.trans f2).trans (f3.trans f4.fr)) r4
theorem ef_sl {e : Expr} {lo hi : Option Expr} {m : ME} {ml mh : MO} {pos p2 : Pos} (hf : Fit c X) (h : EE c X W e m) (hl : EO c X W lo ml) (hh : EO c X W hi mh) : EF c X W (.Subscript e (.Slice lo hi none p2) pos) (mSl dSlL m ml mh) := by
  obtain ⟨t, p, r⟩ := h
  obtain ⟨tl, pl, rl⟩ := hl
  obtain ⟨th, ph, rh⟩ := hh
  refine ⟨_, pe_slice sl_list p pl ph, fun M H σ ρ Q E QV g hm k x => r M H σ ρ _ E _ g hm (fun d ρ1 M1 H1 v q g1 f1 r1 => ?_) x⟩
  refine rl M1 H1 σ ρ1 _ E _ g1 q (fun lo ρ2 M2 H2 q g2 f2 => ?_) (x.fr f1)
  refine rh M2 H2 σ ρ2 _ E _ g2 q (fun hi ρ3 M3 H3 q g3 f3 => ?_) (x.fr (f1.trans f2))
  refine spF_sl hf g3.hand (.inl (r1.fr (f2.trans f3))) q fun d l o q4 hl ow => ?_
  refine k d ρ3 M3 _ l q4 (g3.nohd hl) fun t => ?_
  have fa : FrA M3 H3 (setM M3 l t) (upd H3 l o) := FrA.new hl
  exact ⟨g3.frA fa, ((f1.trans f2).trans f3).trans fa.fr, ow _ fa⟩
theorem ee_slv (i : Nat) {x : Str} {xp : Pos} {lo hi : Option Expr} {ml mh : MO} {pos p2 : Pos} (hf : Fit c X) (hl : EO c X W lo ml) (hh : EO c X W hi mh) (hN : X.N[i]? = some x := by rfl) (hv : Vis X.env.scope x := by first | exact Or.inl rfl | exact Or.inr (Or.inl rfl) | exact Or.inr (Or.inr rfl)) (hd : (x == ("__debug__" : Str)) = false := by decide)
    (hcd : (x == ("__classdict__" : Str)) = false := by decide) : EE c X W (.Subscript (.Name x xp) (.Slice lo hi none p2) pos) (mSlV dSl i ml mh) := by
  obtain ⟨tl, pl, rl⟩ := hl
  obtain ⟨th, ph, rh⟩ := hh
  refine ⟨_, pe_slice slr3 (pe_var hN hv hd hcd) pl ph, fun M H σ ρ Q E QV g hm k x => ?_⟩
  unfold mSlV at hm
  cases e0 : ρ.get i with
  | none => rw [e0] at hm; exact hm.elim
  | some p0 =>
    obtain ⟨d0, fl0⟩ := p0
    rw [e0] at hm
    obtain ⟨v, hs, _⟩ := g.look e0
    refine ⟨v, hs, ?_⟩
    refine rl M H σ ρ _ E _ g hm (fun lo ρ2 M2 H2 q g2 f2 => ?_) x
    refine rh M2 H2 σ ρ2 _ E _ g2 q (fun hi ρ3 M3 H3 q g3 f3 => ?_) (x.fr f2)
    cases e : ρ3.get i with
    | none => rw [e] at q; exact q.elim
    | some p =>
      obtain ⟨d, fl⟩ := p
      rw [e] at q
      obtain ⟨w, e1, b, _⟩ := g3.look e
      rw [hs] at e1
      cases e1
      exact sp_sl hf g3.hand b q fun d M4 H4 v q4 f4 r4 => k d ρ3 M4 H4 v q4 (g3.frA f4) (f2.trans (f3.trans f4.fr)) r4
end
end Lk

namespace Lk
open PySem PySem.Spec PyProof.Rows L2

/-! ## 7. Targets, what is walked, comprehensions -/
section
variable {c : Ct} {X : Cx} {W : WX} {M M' : Own} {H H' : Hp} {σ : L2.St} {ρ : Ev}

theorem EvRep.put_sh {i : Nat} {d : D} {v : V} (g : EvRep c M H σ ρ) (r : Rep c M H d v) : EvRep c M H (σ.set i (some v)) (ρ.put i (some (d, .sh))) := by
  by_cases hi : i < σ.length
  case neg => rw [List.set_eq_of_length_le (by omega), Ev.put_ge (by rw [← g.len]; omega)]; exact g
  refine ⟨by rw [List.length_set, Ev.put_length]; exact g.len, fun j => ?_⟩
  by_cases hj : j = i
  · subst hj
    rcases Ev.get_put (ρ := ρ) (i := j) (s := some (d, Fl.sh)) with z | z
    · rw [z, List.getD_eq_getElem?_getD, List.getElem?_set_self hi]
      exact r
    · rw [z]
      cases (σ.set j (some v)).getD j none <;> trivial
  · rw [Ev.get_put_ne hj, List.getD_eq_getElem?_getD, List.getElem?_set_ne (Ne.symm hj), ← List.getD_eq_getElem?_getD]
    exact g.at_ j
theorem Good.put {i : Nat} {d : D} {v : V} (g : Good c M H σ ρ) (r : Rep c M H d v) : Good c M H (σ.set i (some v)) (ρ.put i (some (d, .sh))) := ⟨g.hand, g.ev.put_sh r⟩
/-- a new list goes to the slot i -/
theorem Good.put_ow {i : Nat} {d : D} {a : Addr} (np : c.pin = none) (g : Good c (setM M a (some (.sl i))) H σ ρ) (hn : c.hd ≠ some a) (o : OwAt c (setM M a (some (.sl i))) H a d) :
    Good c (setM M a (some (.sl i))) H (σ.set i (some (.ref a))) (ρ.put i (some (d, .ow))) := by
  by_cases hi : i < σ.length
  case neg => rw [List.set_eq_of_length_le (by omega), Ev.put_ge (by rw [← g.ev.len]; omega)]; exact g
  refine ⟨g.hand, by rw [List.length_set, Ev.put_length]; exact g.ev.len, fun j => ?_⟩
  by_cases hj : j = i
  · subst hj
    rcases Ev.get_put (ρ := ρ) (i := j) (s := some (d, Fl.ow)) with z | z
    · rw [z, List.getD_eq_getElem?_getD, List.getElem?_set_self hi]
      exact ⟨⟨a, rfl, setM_same, hn, o⟩, fun _ h e => by rw [np] at e; cases e⟩
    · rw [z]
      cases (σ.set j (some (.ref a))).getD j none <;> trivial
  · rw [Ev.get_put_ne hj, List.getD_eq_getElem?_getD, List.getElem?_set_ne (Ne.symm hj), ← List.getD_eq_getElem?_getD]
    exact g.ev.at_ j

/-- a target's assignment; is: the slots that it stores -/
abbrev MG := D → Ev → (Ev → Prop) → Prop
def keepsBut (is : List Nat) (σ σ' : L2.St) : Prop := σ'.length = σ.length ∧ ∀ j, j ∉ is → σ'[j]? = σ[j]?
def SG (c : Ct) (X : Cx) (is : List Nat) (tg : Expr) (m : MG) : Prop := (∃ g, PG X tg g ∧ ∀ M H σ ρ d v Q (QS : L2.St → Hp → Prop), Good c M H σ ρ → Rep c M H d v → m d ρ Q →
  (∀ ρ' σ', Q ρ' → Good c M H σ' ρ' → keepsBut is σ σ' → QS σ' H) → g v σ H QS) ∧ ∀ d ρ Q, m d ρ Q → ∃ ρ', Q ρ'
abbrev MGs := List D → Ev → (Ev → Prop) → Prop
def SGs (c : Ct) (X : Cx) (is : List Nat) (es : List Expr) (m : MGs) : Prop := (∃ g, PGs X es g ∧ ∀ M H σ ρ ds vs Q (QS : L2.St → Hp → Prop), Good c M H σ ρ → RepL c M H ds vs → m ds ρ Q →
  (∀ ρ' σ', Q ρ' → Good c M H σ' ρ' → keepsBut is σ σ' → QS σ' H) → g vs σ H QS) ∧ ∀ ds ρ Q, m ds ρ Q → ds.length = es.length ∧ ∃ ρ', Q ρ'
@[simp] def nSet (i : Nat) : MG := fun d ρ Q => Q (ρ.put i (some (d, .sh)))
@[simp] def nNil : MGs := fun ds ρ Q => match ds with
  | [] => Q ρ
  | _ => False
@[simp] def nCons (m : MG) (r : MGs) : MGs := fun ds ρ Q => match ds with
  | d :: ds => m d ρ fun ρ1 => r ds ρ1 Q
  | [] => False
@[simp] def nTup (m : MGs) : MG := fun d ρ Q => match d with
  | .tup ds => m ds ρ Q
  | _ => False
theorem lt_of_ix {N : List Str} {i : Nat} {x : Str} (h : N[i]? = some x) : i < N.length := (List.getElem?_eq_some_iff.mp h).1
theorem sg_name (i : Nat) {x : Str} {pos : Pos} (hN : X.N.Nodup) (hi : X.N[i]? = some x := by rfl) (hx : Loc X.env.scope x := by first | exact Or.inl rfl | exact Or.inr rfl)
    (hf : X.fn x = true ∨ X.env.scope.names.lookup x = some .local := by first | exact .inl rfl | exact .inr rfl) : SG c X [i] (.Name x pos) (nSet i) := by
  refine ⟨⟨_, pg_name hN hi hx hf, fun M H σ ρ d v Q QS g r q k => ?_⟩, fun d ρ Q q => ⟨_, q⟩⟩
  refine k _ _ q (g.put r) ⟨List.length_set, fun j hj => ?_⟩
  exact List.getElem?_set_ne fun e => hj (by rw [e]; exact List.mem_cons_self)
theorem sgs_nil : SGs c X [] [] nNil := by
  refine ⟨⟨_, pgs_nil, fun M H σ ρ ds vs Q QS g r q k => ?_⟩, fun ds ρ Q q => ?_⟩
  · cases ds with
    | nil =>
      unfold RepL at r
      exact ⟨r, k ρ σ q g ⟨rfl, fun _ _ => rfl⟩⟩
    | cons _ _ => exact q.elim
  · cases ds with
    | nil => exact ⟨rfl, ρ, q⟩
    | cons _ _ => exact q.elim
theorem sgs_cons {e : Expr} {es : List Expr} {i1 i2 : List Nat} {m : MG} {r : MGs} (h : SG c X i1 e m) (hr : SGs c X i2 es r)
    (hs : (assignEach (e :: es) X.env).map (·.2) = assign e X.env :: (assignEach es X.env).map (·.2) := by rfl) : SGs c X (i1 ++ i2) (e :: es) (nCons m r) := by
  obtain ⟨⟨g1, p1, r1⟩, l1⟩ := h
  obtain ⟨⟨g2, p2, r2⟩, l2⟩ := hr
  refine ⟨⟨_, pgs_cons p1 p2 hs, fun M H σ ρ ds vs Q QS g rr q k => ?_⟩, fun ds ρ Q q => ?_⟩
  · cases ds with
    | nil => exact q.elim
    | cons d ds =>
      unfold RepL at rr
      obtain ⟨v, w, rfl, h1, h2⟩ := rr
      refine ⟨v, w, rfl, ?_⟩
      refine r1 M H σ ρ d v _ _ g h1 q (fun ρ1 σ1 q1 g1 k1 => ?_)
      refine r2 M H σ1 ρ1 ds w _ _ g1 h2 q1 (fun ρ2 σ2 q2 g2 k2 => ?_)
      refine k ρ2 σ2 q2 g2 ⟨k2.1.trans k1.1, fun j hj => ?_⟩
      rw [List.mem_append, not_or] at hj
      exact (k2.2 j hj.2).trans (k1.2 j hj.1)
  · cases ds with
    | nil => exact q.elim
    | cons d ds =>
      obtain ⟨ρ1, q1⟩ := l1 _ _ _ q
      obtain ⟨e1, e2⟩ := l2 _ _ _ q1
      exact ⟨by rw [List.length_cons, List.length_cons, e1], e2⟩
theorem sg_tup {es : List Expr} {kk : Nat} {is : List Nat} {m : MGs} {pos : Pos} (hf : Fit c X) (hc : X.calm = true) (h : SGs c X is es m)
    (hst : (assignEach es X.env).findIdx? (·.1) = none := by rfl) (hn : (assignEach es X.env).length = es.length := by rfl) : SG c X is (.Tuple es kk pos) (nTup m) := by
  obtain ⟨⟨g, p, r⟩, hm⟩ := h
  refine ⟨⟨_, pg_tup hc p hn hst, fun M H σ ρ d v Q QS gd rr q k => ?_⟩, fun d ρ Q q => ?_⟩
  · cases d with
    | tup ds =>
      obtain ⟨a, vs, rfl, s, rl⟩ := BRep.tup (.inl rr)
      exact ⟨a, vs, rfl, hf.K ▸ s, by rw [rl.length]; exact (hm _ _ _ q).1, r M H σ ρ ds vs _ _ gd rl q k⟩
    | _ => exact q.elim
  · cases d with
    | tup ds => exact (hm _ _ _ q).2
    | _ => exact q.elim

/-! ### what is walked -/
def ItR (c : Ct) (M : Own) (H : Hp) (J : It) (xs : List D) : Prop := ∀ M' H', Fr c M H M' H' → HdOk c M' H' → (∀ i d, xs[i]? = some d → J.go i H' ∧ ∀ x Hy, J.yld i H' x Hy → ∃ My, FrA M' H' My Hy ∧ Rep c My Hy d x) ∧ J.stop xs.length H'
abbrev MI := Ev → (List D → Ev → Prop) → XP → Prop
/-- shared things walked -/
def SI (c : Ct) (X : Cx) (W : WX) (tg e : Expr) (m : MI) : Prop := ∃ wi, PI X tg e wi ∧ ∀ M H σ ρ Q E (R : It → Hp → Prop), Good c M H σ ρ → m ρ Q E →
  (∀ xs ρ' M' H' J, Q xs ρ' → Good c M' H' σ ρ' → Fr c M H M' H' → ItR c M' H' J xs → R J H') → XOk c W M H σ E → wi σ H R
/-- .. or a name's own list, that is lent for the walk -/
def SIb (c : Ct) (X : Cx) (W : WX) (tg e : Expr) (m : MI) : Prop := ∃ wi, PI X tg e wi ∧ ∀ M H σ ρ Q E (R : It → Hp → Prop), Good c M H σ ρ → m ρ Q E →
  (∀ xs ρ' M' H' J, Q xs ρ' → Good c M' H' σ ρ' → Fr c M H M' H' → ItR c (lent M') H' J xs → R J H') → XOk c W M H σ E → wi σ H R
theorem Fr.unlent (f : Fr c (lent M) H M' H') : Fr c M H M' H' := ⟨fun b o e n h => by
  obtain ⟨h1, m1⟩ := f.keep b o e (lent_ns b) h
  exact ⟨h1, by rw [m1, lent_of n]⟩⟩
theorem SI.sib {tg e : Expr} {m : MI} (h : SI c X W tg e m) : SIb c X W tg e m := by
  obtain ⟨wi, p, r⟩ := h
  exact ⟨wi, p, fun M H σ ρ Q E R g hm k x => r M H σ ρ Q E R g hm (fun xs ρ' M' H' J q g' f it => k xs ρ' M' H' J q g' f fun M2 H2 f2 => it M2 H2 f2.unlent) x⟩
@[simp] def asL (Q : List D → Prop) : D → Prop
  | .lst xs => Q xs
  | _ => False
@[simp] def asTp (Q : List D → Prop) : D → Prop
  | .tup xs => Q xs
  | _ => False
@[simp] def iLst (m : ME) : MI := fun ρ Q E => m ρ (fun d ρ' => asL (fun xs => Q xs ρ') d) E
@[simp] def iTpl (m : ME) : MI := fun ρ Q E => m ρ (fun d ρ' => asTp (fun xs => Q xs ρ') d) E
theorem itr_list {K : PySem.W.Frag} {a : Addr} {vs : List V} {xs : List D} (hK : c.K = K) (e : H a = some (.lst vs)) (hm : ∀ i, M a ≠ some (.sl i)) (hn : c.hd ≠ some a) (r : RepL c M H xs vs) : ItR c M H (Itl K a) xs := fun M' H' f _ => by
  have s : SqL K H' a vs := .of (f.keep a _ e hm hn).1
  have r' := r.fr f
  refine ⟨fun i d hd => ?_, ⟨vs, s, Nat.le_of_eq r.length⟩⟩
  obtain ⟨v, hv, rv⟩ := r'.get hd
  refine ⟨⟨vs, v, s, hv⟩, fun x Hy y => ?_⟩
  obtain ⟨rfl, y⟩ := y
  have e2 := y vs s
  rw [hv] at e2
  cases e2
  exact ⟨M', .refl, rv⟩
theorem itr_tup {K : PySem.W.Frag} {a : Addr} {vs : List V} {xs : List D} (hK : c.K = K) (s0 : ShT c M H a vs) (r : RepL c M H xs vs) : ItR c M H (Itt K a) xs := fun M' H' f _ => by
  have s : SqT K H' a vs := hK ▸ (s0.fr f).seq
  have r' := r.fr f
  refine ⟨fun i d hd => ?_, ⟨vs, s, Nat.le_of_eq r.length⟩⟩
  obtain ⟨v, hv, rv⟩ := r'.get hd
  refine ⟨⟨vs, v, s, hv⟩, fun x Hy y => ?_⟩
  obtain ⟨rfl, y⟩ := y
  have e2 := y vs s
  rw [hv] at e2
  cases e2
  exact ⟨M', .refl, rv⟩
theorem si_list {tg e : Expr} {m : ME} (hf : Fit c X) (h : EE c X W e m) : SI c X W tg e (iLst m) := by
  obtain ⟨t, p, r⟩ := h
  refine ⟨_, pi_list p, fun M H σ ρ Q E R g hm k x => r M H σ ρ _ E _ g hm (fun d ρ' M' H' v q g' f rr => ?_) x⟩
  cases d with
  | lst xs =>
    unfold Rep at rr
    obtain ⟨a, vs, rfl, s, r⟩ := rr
    exact ⟨a, rfl, ⟨vs, .of s.2.2⟩, k xs ρ' M' H' _ q g' f (itr_list hf.K s.2.2 (nslot_of_none s.1) s.2.1 r)⟩
  | _ => exact q.elim
theorem si_tup {tg e : Expr} {m : ME} (hf : Fit c X) (h : EE c X W e m) : SI c X W tg e (iTpl m) := by
  obtain ⟨t, p, r⟩ := h
  refine ⟨_, pi_tup p, fun M H σ ρ Q E R g hm k x => r M H σ ρ _ E _ g hm (fun d ρ' M' H' v q g' f rr => ?_) x⟩
  cases d with
  | tup xs =>
    unfold Rep at rr
    obtain ⟨a, vs, rfl, s, r⟩ := rr
    exact ⟨a, rfl, ⟨vs, hf.K ▸ s.seq⟩, k xs ρ' M' H' _ q g' f (itr_tup hf.K s r)⟩
  | _ => exact q.elim
/-- a name's own list, in a comprehension -/
theorem sib_var {tg e : Expr} {m : ME} (hf : Fit c X) (h : EB c X W e m) : SIb c X W tg e (iLst m) := by
  obtain ⟨t, p, r⟩ := h
  refine ⟨_, pi_list p, fun M H σ ρ Q E R g hm k x => r M H σ ρ _ E _ g hm (fun d ρ' M' H' v q g' f rr => ?_) x⟩
  cases d with
  | lst xs =>
    rcases rr with rr | ⟨l, a, rfl, hl, hn, vs, e, r⟩
    · unfold Rep at rr
      obtain ⟨a, vs, rfl, s, r⟩ := rr
      refine ⟨a, rfl, ⟨vs, .of s.2.2⟩, k xs ρ' M' H' _ q g' f ?_⟩
      exact itr_list hf.K s.2.2 (lent_ns a) s.2.1 (lent_repL r)
    · refine ⟨a, rfl, ⟨vs, .of e⟩, k xs ρ' M' H' _ q g' f ?_⟩
      exact itr_list hf.K e (lent_ns a) hn (lent_repL r)
  | _ => exact q.elim
@[simp] def asII (Q : Int → Int → Prop) : List D → Prop
  | [.int i, .int j] => Q i j
  | _ => False
@[simp] def asI1 (Q : Int → Prop) : List D → Prop
  | [.int i] => Q i
  | _ => False
def rangeL (lo : Int) (n : Nat) : List D := (List.range n).map fun i : Nat => D.int (lo + (i : Int))
@[simp] def iR1 (m : MA) : MI := fun ρ Q E => m ρ (fun ds ρ' => asI1 (fun j => (-(2 ^ 62) ≤ j ∧ j < 2 ^ 62) ∧ Q (rangeL 0 j.toNat) ρ') ds) E
@[simp] def iR2 (m : MA) : MI := fun ρ Q E => m ρ (fun ds ρ' => asII (fun i j => (-(2 ^ 62) ≤ i ∧ i < 2 ^ 62 ∧ -(2 ^ 62) ≤ j ∧ j < 2 ^ 62) ∧ Q (rangeL i (j - i).toNat) ρ') ds) E
theorem itr_range {lo : Int} {n : Nat} : ItR c M H (Itr lo n) (rangeL lo n) := fun M' H' f _ => by
  have hlen : (rangeL lo n).length = n := by unfold rangeL; rw [List.length_map, List.length_range]
  refine ⟨fun i d hd => ?_, Nat.le_of_eq hlen.symm⟩
  unfold rangeL at hd
  rw [List.getElem?_map] at hd
  have hi : i < n := by
    by_cases z : i < n
    · exact z
    · rw [List.getElem?_eq_none (by rw [List.length_range]; omega)] at hd
      cases hd
  rw [List.getElem?_eq_getElem (by rw [List.length_range]; exact hi), List.getElem_range] at hd
  cases hd
  refine ⟨hi, fun x Hy y => ?_⟩
  obtain ⟨rfl, rfl⟩ := y
  exact ⟨M', .refl, rfl⟩
theorem si_r1 {tg a : Expr} {m : MA} {p pos : Pos} (hm0 : X.mg "range" = none) (h : AS c X W [a] m) (hg : Gl X "range" := by rfl) (hs : starEach [a] X.env = [(false, eval a X.env)] := by rfl) : SI c X W tg (.Call (.Name "range" p) [a] [] pos) (iR1 m) := by
  obtain ⟨t, p, r⟩ := h
  refine ⟨_, pi_range1 hg hm0 p hs, fun M H σ ρ Q E R g hm k x => r M H σ ρ _ E _ g hm (fun ds ρ' M' H' vs q g' f rr => ?_) x⟩
  unfold asI1 at q
  split at q
  · obtain ⟨v, rfl, b⟩ := rr.brep.one
    rw [b.int]
    exact ⟨_, rfl, q.1.1, q.1.2, k _ ρ' M' H' _ q.2 g' f itr_range⟩
  · exact q.elim
theorem si_r2 {tg a b : Expr} {m : MA} {p pos : Pos} (hm0 : X.mg "range" = none) (h : AS c X W [a, b] m) (hg : Gl X "range" := by rfl) (hs : starEach [a, b] X.env = [(false, eval a X.env), (false, eval b X.env)] := by rfl) (hs2 : starEach [b] X.env = [(false, eval b X.env)] := by rfl) :
    SI c X W tg (.Call (.Name "range" p) [a, b] [] pos) (iR2 m) := by
  obtain ⟨t, p, r⟩ := h
  refine ⟨_, pi_range2 hg hm0 p hs hs2, fun M H σ ρ Q E R g hm k x => r M H σ ρ _ E _ g hm (fun ds ρ' M' H' vs q g' f rr => ?_) x⟩
  unfold asII at q
  split at q
  · obtain ⟨v, w, rfl, b1, b2⟩ := rr.brep.two
    rw [b1.int, b2.int]
    exact ⟨_, _, rfl, q.1, k _ ρ' M' H' _ q.2 g' f itr_range⟩
  · exact q.elim
/-- zip of two lists, of two tuples -/
def zipD (xs ys : List D) : List D := xs.zipWith (fun x y => D.tup [x, y]) ys
@[simp] def iZp (m : MA) : MI := fun ρ Q E => m ρ (fun ds ρ' => match ds with
  | [.lst xs, .lst ys] => Q (zipD xs ys) ρ'
  | [.tup xs, .tup ys] => Q (zipD xs ys) ρ'
  | _ => False) E
theorem zipD_get {xs ys : List D} {i : Nat} {d : D} (h : (zipD xs ys)[i]? = some d) : ∃ x y, xs[i]? = some x ∧ ys[i]? = some y ∧ d = .tup [x, y] := by
  unfold zipD at h
  rw [List.getElem?_zipWith] at h
  cases e1 : xs[i]? with
  | none => rw [e1] at h; cases h
  | some x =>
    cases e2 : ys[i]? with
    | none => rw [e1, e2] at h; cases h
    | some y =>
      rw [e1, e2] at h
      cases h
      exact ⟨x, y, rfl, rfl, rfl⟩
theorem zip_yield {x y : D} {v w : V} {T : Addr} (hd : c.hd ≠ some T) (hT : H T = none) (r1 : Rep c M H x v) (r2 : Rep c M H y w) : ∃ My, FrA M H My (upd H T (.tup [v, w])) ∧ Rep c My (upd H T (.tup [v, w])) (.tup [x, y]) (.ref T) :=
  ⟨setM M T none, FrA.new hT, rep_newT hT hd (.cons r1 (.cons r2 .nil))⟩
theorem itr_zip {K : PySem.W.Frag} {a b : Addr} {vs ws : List V} {xs ys : List D} (hK : c.K = K) (e1 : H a = some (.lst vs)) (h1 : ∀ i, M a ≠ some (.sl i)) (n1 : c.hd ≠ some a) (e2 : H b = some (.lst ws)) (h2 : ∀ i, M b ≠ some (.sl i)) (n2 : c.hd ≠ some b)
    (r1 : RepL c M H xs vs) (r2 : RepL c M H ys ws) : ItR c M H (Itz K a b) (zipD xs ys) := fun M' H' f hd => by
  have s1 : SqL K H' a vs := .of (f.keep a _ e1 h1 n1).1
  have s2 : SqL K H' b ws := .of (f.keep b _ e2 h2 n2).1
  have r1' := r1.fr f
  have r2' := r2.fr f
  refine ⟨fun i d hi => ?_, ⟨vs, ws, s1, s2, ?_⟩⟩
  · obtain ⟨x, y, hx, hy, rfl⟩ := zipD_get hi
    obtain ⟨v, hv, rv⟩ := r1'.get hx
    obtain ⟨w, hw, rw_⟩ := r2'.get hy
    refine ⟨⟨vs, ws, v, w, s1, s2, hv, hw⟩, fun z Hy q => ?_⟩
    obtain ⟨T, v', w', rfl, hT, rfl, q1, q2⟩ := q
    have z1 := q1 vs s1
    have z2 := q2 ws s2
    rw [hv] at z1
    rw [hw] at z2
    cases z1
    cases z2
    exact zip_yield (hd_new hd hT) hT rv rw_
  · unfold zipD
    rw [List.length_zipWith, r1.length, r2.length]
    omega
theorem itr_zipT {K : PySem.W.Frag} {a b : Addr} {vs ws : List V} {xs ys : List D} (hK : c.K = K) (t1 : ShT c M H a vs) (t2 : ShT c M H b ws)
    (r1 : RepL c M H xs vs) (r2 : RepL c M H ys ws) : ItR c M H (RZ.ItzT K a b) (zipD xs ys) := fun M' H' f hd => by
  have s1 : SqT K H' a vs := hK ▸ (t1.fr f).seq
  have s2 : SqT K H' b ws := hK ▸ (t2.fr f).seq
  have r1' := r1.fr f
  have r2' := r2.fr f
  refine ⟨fun i d hi => ?_, ⟨vs, ws, s1, s2, ?_⟩⟩
  · obtain ⟨x, y, hx, hy, rfl⟩ := zipD_get hi
    obtain ⟨v, hv, rv⟩ := r1'.get hx
    obtain ⟨w, hw, rw_⟩ := r2'.get hy
    refine ⟨⟨vs, ws, v, w, s1, s2, hv, hw⟩, fun z Hy q => ?_⟩
    obtain ⟨T, v', w', rfl, hT, rfl, q1, q2⟩ := q
    have z1 := q1 vs s1
    have z2 := q2 ws s2
    rw [hv] at z1
    rw [hw] at z2
    cases z1
    cases z2
    exact zip_yield (hd_new hd hT) hT rv rw_
  · unfold zipD
    rw [List.length_zipWith, r1.length, r2.length]
    omega
theorem si_zip {a b : Expr} {elts : List Expr} {kk : Nat} {tpos : Pos} {m : MA} {p pos : Pos} (hf : Fit c X) (hc : X.calm = true) (hm0 : X.mg "zip" = none) (h : AS c X W [a, b] m) (hg : Gl X "zip" := by rfl) (hs : starEach [a, b] X.env = (false, eval a X.env) :: starEach [b] X.env := by rfl) (hpl : (backTo pos (starEach [b] X.env)).any (·.1) = false := by rfl) :
    SI c X W (.Tuple elts kk tpos) (.Call (.Name "zip" p) [a, b] [] pos) (iZp m) := by
  obtain ⟨t, p, r⟩ := h
  refine ⟨_, RZ.pi_zipA hg hm0 p hs hpl, fun M H σ ρ Q E R g hm k x => r M H σ ρ _ E _ g hm (fun ds ρ' M' H' vs q g' f rr => ?_) x⟩
  split at q
  · unfold RepL at rr
    obtain ⟨v, w, rfl, h1, rr⟩ := rr
    unfold RepL at rr
    obtain ⟨w, z, rfl, h2, rr⟩ := rr
    unfold RepL at rr
    subst rr
    unfold Rep at h1 h2
    obtain ⟨a, vs, rfl, s1, r1⟩ := h1
    obtain ⟨b, ws, rfl, s2, r2⟩ := h2
    exact ⟨a, b, vs, ws, rfl, .inl ⟨.of s1.2.2, .of s2.2.2, k _ ρ' M' H' _ q g' f (itr_zip hf.K s1.2.2 (nslot_of_none s1.1) s1.2.1 s2.2.2 (nslot_of_none s2.1) s2.2.1 r1 r2)⟩⟩
  · unfold RepL at rr
    obtain ⟨v, w, rfl, h1, rr⟩ := rr
    unfold RepL at rr
    obtain ⟨w, z, rfl, h2, rr⟩ := rr
    unfold RepL at rr
    subst rr
    unfold Rep at h1 h2
    obtain ⟨a, vs, rfl, s1, r1⟩ := h1
    obtain ⟨b, ws, rfl, s2, r2⟩ := h2
    exact ⟨a, b, vs, ws, rfl, .inr ⟨hf.K ▸ s1.seq, hf.K ▸ s2.seq, k _ ρ' M' H' _ q g' f (itr_zipT hf.K s1 s2 r1 r2)⟩⟩
  · exact q.elim
end
end Lk

namespace Lk
open PySem PySem.Spec PyProof.Rows L2

def Ev.frz : Ev → Ev
  | [] => []
  | some (d, .ow) :: r => some (d, .fz) :: Ev.frz r
  | s :: r => s :: Ev.frz r
@[simp] def wipeE (ρ : Ev) : List Nat → Ev
  | [] => ρ
  | v :: vs => (wipeE ρ vs).put v none
section
variable {c : Ct} {X : Cx} {W : WX} {M M' : Own} {H H' : Hp} {σ : L2.St} {ρ : Ev} {a : Addr}
theorem frz_length : ∀ ρ : Ev, ρ.frz.length = ρ.length
  | [] => rfl
  | some (d, .ow) :: r => congrArg (· + 1) (frz_length r)
  | some (d, .sh) :: r => congrArg (· + 1) (frz_length r)
  | some (d, .fz) :: r => congrArg (· + 1) (frz_length r)
  | none :: r => congrArg (· + 1) (frz_length r)
theorem frz_get : ∀ (ρ : Ev) (i : Nat), ρ.frz.get i = match ρ.get i with
    | some (d, .ow) => some (d, .fz)
    | s => s
  | [], _ => rfl
  | some (d, .ow) :: r, 0 => rfl
  | some (d, .sh) :: r, 0 => rfl
  | some (d, .fz) :: r, 0 => rfl
  | none :: r, 0 => rfl
  | some (d, .ow) :: r, i + 1 => frz_get r i
  | some (d, .sh) :: r, i + 1 => frz_get r i
  | some (d, .fz) :: r, i + 1 => frz_get r i
  | none :: r, i + 1 => frz_get r i
theorem put_none_get {ρ : Ev} {i j : Nat} : (ρ.put i none).get j = none ∨ (j ≠ i ∧ (ρ.put i none).get j = ρ.get j) := by
  by_cases h : j = i
  · subst h
    rcases Ev.get_put (ρ := ρ) (i := j) (s := none) with z | z <;> exact .inl z
  · exact .inr ⟨h, Ev.get_put_ne h⟩
theorem wipe_len (ρ : Ev) : ∀ vs : List Nat, (wipeE ρ vs).length = ρ.length
  | [] => rfl
  | v :: vs => by unfold wipeE; rw [Ev.put_length]; exact wipe_len ρ vs
theorem wipe_get {ρ : Ev} {j : Nat} : ∀ {vs : List Nat}, (wipeE ρ vs).get j = none ∨ (j ∉ vs ∧ (wipeE ρ vs).get j = ρ.get j)
  | [] => .inr ⟨by simp, rfl⟩
  | v :: vs => by
    unfold wipeE
    rcases put_none_get (ρ := wipeE ρ vs) (i := v) (j := j) with z | ⟨z, e⟩
    · exact .inl z
    · rw [e]
      rcases wipe_get (ρ := ρ) (j := j) (vs := vs) with q | ⟨q, e2⟩
      · exact .inl q
      · exact .inr ⟨by simp only [List.mem_cons, not_or]; exact ⟨z, q⟩, e2⟩
theorem frz_still (ρ : Ev) : still ρ.frz := fun i d h => by
  rw [frz_get] at h
  cases e : ρ.get i with
  | none => rw [e] at h; cases h
  | some p =>
    obtain ⟨d', fl⟩ := p
    rw [e] at h
    cases fl <;> cases h
theorem wipe_still {vs : List Nat} (h : still ρ) : still (wipeE ρ vs) := fun i d e => by
  rcases wipe_get (ρ := ρ) (j := i) (vs := vs) with z | ⟨_, z⟩
  · rw [z] at e; cases e
  · rw [z] at e; exact h i d e
theorem wipe_getD {vs : List Nat} {j : Nat} (h : j ∉ vs) : (wipe σ vs)[j]? = σ[j]? := wipe_out h
theorem Good.lend (g : Good c M H σ ρ) : Good c (lent M) H σ ρ.frz := by
  refine ⟨lent_hd g.hand, ⟨by rw [frz_length]; exact g.ev.len, fun i => ?_⟩⟩
  have q := g.ev.at_ i
  rw [frz_get]
  generalize ρ.get i = s at q ⊢
  generalize σ.getD i none = o at q ⊢
  cases s with
  | none => cases o <;> trivial
  | some p =>
    obtain ⟨d, fl⟩ := p
    cases o with
    | none => cases fl <;> exact q.elim
    | some v =>
      cases fl with
      | sh => exact lent_rep q
      | ow =>
        obtain ⟨⟨b, e, m, n, o⟩, _⟩ := q
        refine ⟨b, e, lent_sl m, n, ?_⟩
        cases d with
        | lst xs =>
          obtain ⟨vs, e2, r⟩ := o
          exact ⟨vs, e2, lent_repL r⟩
        | dct ks ds =>
          obtain ⟨vs, e2, l, r⟩ := o
          exact ⟨vs, e2, l, lent_repL r⟩
        | _ => exact o.elim
      | fz =>
        obtain ⟨b, e, m, n, o⟩ := q
        refine ⟨b, e, by rw [lent_of fun i z => by rw [m] at z; cases z]; exact m, n, ?_⟩
        cases d with
        | lst xs =>
          obtain ⟨vs, e2, r⟩ := o
          exact ⟨vs, e2, lent_repL r⟩
        | dct ks ds =>
          obtain ⟨vs, e2, l, r⟩ := o
          exact ⟨vs, e2, l, lent_repL r⟩
        | _ => exact o.elim
theorem Good.wipe {vs : List Nat} (g : Good c M H σ ρ) : Good c M H (L2.wipe σ vs) (wipeE ρ vs) := by
  refine ⟨g.hand, ⟨by rw [wipe_length, wipe_len]; exact g.ev.len, fun i => ?_⟩⟩
  rcases wipe_get (ρ := ρ) (j := i) (vs := vs) with z | ⟨hi, z⟩
  · rw [z]
    cases (L2.wipe σ vs).getD i none <;> trivial
  · rw [z, List.getD_eq_getElem?_getD, wipe_getD hi, ← List.getD_eq_getElem?_getD]
    exact g.ev.at_ i
theorem Good.frS (hs : still ρ) (g : Good c M H σ ρ) (f : Fr c M H M' H') (hd : HdOk c M' H') : Good c M' H' σ ρ := ⟨hd, g.ev.frS hs f⟩
theorem wipe_eq {vs is : List Nat} {σ2 : L2.St} (hi : ∀ j ∈ is, j ∈ vs) (k : keepsBut is (L2.wipe σ vs) σ2) : L2.wipe σ2 vs = L2.wipe σ vs := by
  refine List.ext_getElem? fun j => ?_
  by_cases hj : j ∈ vs
  · have key : ∀ (τ : L2.St) (us : List Nat), j ∈ us → (L2.wipe τ us)[j]? = if j < τ.length then some none else none := by
      intro τ us
      induction us with
      | nil => intro h; cases h
      | cons u us ih =>
        intro h
        unfold L2.wipe
        by_cases e : u = j
        · subst e
          by_cases l : u < (L2.wipe τ us).length
          · rw [List.getElem?_set_self l]
            rw [wipe_length] at l
            rw [if_pos l]
          · rw [List.getElem?_eq_none (by rw [List.length_set]; omega)]
            rw [wipe_length] at l
            rw [if_neg l]
        · rw [List.getElem?_set_ne e]
          exact ih (by rcases List.mem_cons.mp h with z | z; exact absurd z.symm e; exact z)
    rw [key _ _ hj, key _ _ hj, k.1, wipe_length]
  · rw [wipe_getD hj, k.2 j fun z => hj (hi j z)]

/-! ### a write at a marked address -/
mutual
theorem Rep.updO {l : Lab} {o : HO} (hm : M a = some l) : ∀ {d : D} {v : V}, Rep c M H d v → Rep c M (upd H a o) d v
  | .non, _, h => h
  | .bl _, _, h => h
  | .int _, _, h => h
  | .str _, _, h => h
  | .tup xs, _, h => by
    unfold Rep at h ⊢
    obtain ⟨b, vs, e, s, r⟩ := h
    refine ⟨b, vs, e, ?_, RepL.updO hm r⟩
    rcases s with ⟨m, n, q⟩ | q
    · have ne : b ≠ a := fun z => by rw [z, hm] at m; cases m
      refine .inl ⟨m, n, ?_⟩
      rcases q with q | ⟨u, q⟩
      · exact .inl ((upd_ne ne).trans q)
      · exact .inr ⟨u, (upd_ne ne).trans q⟩
    · exact .inr q
  | .lst xs, _, h => by
    unfold Rep at h ⊢
    obtain ⟨b, vs, e, ⟨m, n, q⟩, r⟩ := h
    exact ⟨b, vs, e, ⟨m, n, (upd_ne fun z => by rw [z, hm] at m; cases m).trans q⟩, RepL.updO hm r⟩
  | .dct ks ds, _, h => by
    unfold Rep at h ⊢
    obtain ⟨b, vs, e, ⟨m, n, q⟩, l, r⟩ := h
    exact ⟨b, vs, e, ⟨m, n, (upd_ne fun z => by rw [z, hm] at m; cases m).trans q⟩, l, RepL.updO hm r⟩
  | .ob _, _, h => h
  | .gl _, _, h => h
  | .ty _, _, h => h
  | .fl _, _, h => by
    unfold Rep at h ⊢
    obtain ⟨b, e, ⟨m, n, q⟩ | q⟩ := h
    · have ne : b ≠ a := fun z => by rw [z, hm] at m; cases m
      refine ⟨b, e, .inl ⟨m, n, ?_⟩⟩
      rcases q with q | ⟨u, q⟩
      · exact .inl ((upd_ne ne).trans q)
      · exact .inr ⟨u, (upd_ne ne).trans q⟩
    · exact ⟨b, e, .inr q⟩
theorem RepL.updO {l : Lab} {o : HO} (hm : M a = some l) : ∀ {ds : List D} {vs : List V}, RepL c M H ds vs → RepL c M (upd H a o) ds vs
  | [], _, h => h
  | d :: ds, _, h => by
    unfold RepL at h ⊢
    obtain ⟨v, r, e, h1, h2⟩ := h
    exact ⟨v, r, e, Rep.updO hm h1, RepL.updO hm h2⟩
end
theorem HandOk.updO {l : Lab} {o : HO} {h : Addr} (hm : M a = some l) (k : HandOk M H h) : HandOk M (upd H a o) h := by
  obtain ⟨m, cl, cells, p, r, x, n, e1, ne, m2, e2, rest⟩ := k
  exact ⟨m, cl, cells, p, r, x, n, (upd_ne fun z => by rw [z, hm] at m; cases m).trans e1, ne, m2, (upd_ne fun z => by rw [z, hm] at m2; cases m2).trans e2, rest⟩
theorem HdOk.updO {l : Lab} {o : HO} (hm : M a = some l) (k : HdOk c M H) : HdOk c M (upd H a o) := fun h e => (k h e).updO hm

/-! ### list comprehensions -/
abbrev noX : XP := fun _ _ => False
def lcGo (bd : MG) (tt : MT) (me : ME) : List D → List D → Ev → (List D → Prop) → Prop
  | [], acc, _, k => k acc
  | x :: xs, acc, ρ, k => bd x ρ fun ρ2 => tt ρ2 (fun b ρ3 => if b = true then me ρ3 (fun d _ => acc.length < sizeLine ∧ lcGo bd tt me xs (acc ++ [d]) ρ k) noX else lcGo bd tt me xs acc ρ k) noX
@[simp] def mLc (mi : MI) (vs : List Nat) (bd : MG) (tt : MT) (me : ME) : ME := fun ρ Q E => mi ρ (fun xs ρ1 => lcGo bd tt me xs [] (wipeE ρ1.frz vs) fun ds => Q (.lst ds) ρ1) E
abbrev WNo : WX := fun _ _ _ _ => False
theorem xok_no : XOk c WNo M H σ noX := fun _ _ _ _ _ _ h _ _ _ => h.elim
/-- one reading for every block -/
theorem uni_EE {ι : Type} {Y : ι → Cx} {W : WX} {e : Expr} {m : ME} (h : ∀ i, EE c (Y i) W e m) : ∃ t, (∀ i, PE (Y i) e t) ∧ (Nonempty ι → TErel c W t m) := by
  refine ⟨fun σ H Q => ∀ i, Classical.choose (h i) σ H Q, fun i => ⟨fun pins s σ H Q I hq => (Classical.choose_spec (h i)).1.run pins s σ H Q I (hq i)⟩, fun _ M H σ ρ Q E QV g hm k x i => ?_⟩
  exact (Classical.choose_spec (h i)).2 M H σ ρ Q E QV g hm k x
theorem uni_ET {ι : Type} {Y : ι → Cx} {W : WX} {e : Expr} {m : MT} (h : ∀ i, ET c (Y i) W e m) : ∃ t, (∀ i, PT (Y i) e t) ∧ (Nonempty ι → TTrel c W t m) := by
  refine ⟨fun σ H Q => ∀ i, Classical.choose (h i) σ H Q, fun i => ⟨fun pins s σ H Q I hq => (Classical.choose_spec (h i)).1.run pins s σ H Q I (hq i)⟩, fun _ M H σ ρ Q E QV g hm k x i => ?_⟩
  exact (Classical.choose_spec (h i)).2 M H σ ρ Q E QV g hm k x
abbrev TGrel (c : Ct) (is : List Nat) (g : TG) (m : MG) : Prop := ∀ M H σ ρ d v Q (QS : L2.St → Hp → Prop), Good c M H σ ρ → Rep c M H d v → m d ρ Q →
  (∀ ρ' σ', Q ρ' → Good c M H σ' ρ' → keepsBut is σ σ' → QS σ' H) → g v σ H QS
theorem uni_SG {ι : Type} {Y : ι → Cx} {is : List Nat} {e : Expr} {m : MG} (h : ∀ i, SG c (Y i) is e m) : ∃ t, (∀ i, PG (Y i) e t) ∧ (Nonempty ι → TGrel c is t m) := by
  refine ⟨fun v σ H Q => ∀ i, Classical.choose (h i).1 v σ H Q, fun i => ⟨fun pins s σ H v u Q I r hq => (Classical.choose_spec (h i).1).1.run pins s σ H v u Q I r (hq i)⟩, fun _ M H σ ρ d v Q QS g hr hm k i => ?_⟩
  exact (Classical.choose_spec (h i).1).2 M H σ ρ d v Q QS g hr hm k
/-- where a block starts -/
structure Bk where
  s : Shared
  H : Hp
  C : Addr
  cl : List (Str × Addr)
  fp : List Addr
abbrev bk (X : Cx) (scope : Scope) (b : Bk) : Cx := X.blk b.s b.H scope (compEnvC scope b.cl b.C X.env) b.fp
/-- a clause's tests: none; one -/
def ETs (c : Ct) (X : Cx) (W : WX) (ifs : List Expr) (m : MT) : Prop := ∃ t, PTs X ifs t ∧ TTrel c W t m
@[simp] def mYes : MT := fun ρ Q _ => Q true ρ
theorem ets_nil : ETs c X W [] mYes := ⟨_, pts_nil, fun M H σ ρ Q E QB g h k _ => k true ρ M H h g .refl⟩
theorem ets_one {e : Expr} {m : MT} (h : ET c X W e m) : ETs c X W [e] m := by
  obtain ⟨t, p, r⟩ := h
  exact ⟨t, pts_one p, r⟩
theorem uni_ETs {ι : Type} {Y : ι → Cx} {W : WX} {e : List Expr} {m : MT} (h : ∀ i, ETs c (Y i) W e m) : ∃ t, (∀ i, PTs (Y i) e t) ∧ (Nonempty ι → TTrel c W t m) := by
  refine ⟨fun σ H Q => ∀ i, Classical.choose (h i) σ H Q, fun i => ⟨fun pins s σ H Q I hq => (Classical.choose_spec (h i)).1.run pins s σ H Q I (hq i)⟩, fun _ M H σ ρ Q E QV g hm k x i => ?_⟩
  exact (Classical.choose_spec (h i)).2 M H σ ρ Q E QV g hm k x

theorem drop_at {α : Type} {xs : List α} {i : Nat} {x : α} (h : xs[i]? = some x) : xs.drop i = x :: xs.drop (i + 1) := by
  obtain ⟨hi, e⟩ := List.getElem?_eq_some_iff.mp h
  rw [List.drop_eq_getElem_cons hi, e]
theorem setM_back {M1 : Own} {H1 : Hp} {l : Option Lab} (h : H1 a = none) : setM (back M1 H1 M) a l = back M1 H1 (setM M a l) := by
  funext b
  by_cases e : b = a
  · subst e
    rw [setM_same, back_new h, setM_same]
  · rw [setM_ne e]
    unfold back
    cases H1 b with
    | none => rw [setM_ne e]
    | some o =>
      cases M1 b with
      | none => rw [setM_ne e]
      | some l' => cases l' <;> first | rfl | (show M b = setM M a l b; rw [setM_ne e])
theorem lc_rel {mi : MI} {vs is : List Nat} {bd : MG} {mt : MT} {me : ME} {wi : TI} {g : TG} {tt : TT} {te : TE} (his : ∀ j ∈ is, j ∈ vs)
    (hi : ∀ M H σ ρ Q E (R : It → Hp → Prop), Good c M H σ ρ → mi ρ Q E → (∀ xs ρ' M' H' J, Q xs ρ' → Good c M' H' σ ρ' → Fr c M H M' H' → ItR c (lent M') H' J xs → R J H') → XOk c W M H σ E → wi σ H R)
    (hg : TGrel c is g bd) (ht : TTrel c WNo tt mt) (he : TErel c WNo te me) :
    ∀ M H σ ρ Q E (QV : VK), Good c M H σ ρ → mLc mi vs bd mt me ρ Q E →
      (∀ d ρ' M' H' a, Q d ρ' → c.hd ≠ some a → (∀ l, Good c (setM M' a l) H' σ ρ' ∧ Fr c M H (setM M' a l) H' ∧ OwAt c (setM M' a l) H' a d) → QV (.ref a) H') → XOk c W M H σ E → tLc wi g tt te vs σ H QV := by
  intro M H σ ρ Q E QV gd hm k x
  refine hi M H σ ρ _ E _ gd hm (fun xs ρ1 M1 H1 J q g1 f1 it => ?_) x
  intro Dd hD
  have nD : c.hd ≠ some Dd := g1.nohd hD
  have gw : Good c (lent M1) H1 (L2.wipe σ vs) (wipeE ρ1.frz vs) := g1.lend.wipe
  have st : still (wipeE ρ1.frz vs) := wipe_still (frz_still ρ1)
  have gat : ∀ {M2 : Own} {H2 : Hp}, Fr c (lent M1) H1 M2 H2 → HdOk c M2 H2 → Good c M2 H2 (L2.wipe σ vs) (wipeE ρ1.frz vs) := fun f h => gw.frS st f h
  -- what holds ahead of the i-th turn
  let At : Nat → Hp → Prop := fun i H => ∃ (Mi : Own) (acc : List V) (ds : List D), Fr c (lent M1) H1 Mi H ∧ HdOk c Mi H ∧ Mi Dd = some .tm ∧ H Dd = some (.lst acc) ∧ RepL c Mi H ds acc ∧
    lcGo bd mt me (xs.drop i) ds (wipeE ρ1.frz vs) fun ds => Q (.lst ds) ρ1
  refine ⟨fun i m H => m = xs.length - i ∧ i ≤ xs.length ∧ At i H, ⟨xs.length, by rw [Nat.sub_zero], Nat.zero_le _, ?_⟩, ?_⟩
  · have fa : FrA (lent M1) H1 (setM (lent M1) Dd (some .tm)) (upd H1 Dd (.lst [])) := FrA.new hD
    exact ⟨_, [], [], fa.fr, (lent_hd g1.hand).frA fa, setM_same, upd_same, .nil, q⟩
  · rintro i m H2 ⟨rfl, hi2, Mi, acc, ds, f, hd, hmD, hDD, r, go⟩
    obtain ⟨itm, stp⟩ := it Mi H2 f hd
    by_cases hlt : i < xs.length
    · have hx : xs[i]? = some xs[i] := List.getElem?_eq_getElem hlt
      obtain ⟨jg, jy⟩ := itm i _ hx
      rw [drop_at hx] at go
      refine .inr ⟨jg, At (i + 1), fun H' a => ⟨xs.length - (i + 1), by omega, rfl, hlt, a⟩, fun y H3 yl => ?_⟩
      obtain ⟨My, fa, ry⟩ := jy y H3 yl
      have f3 := f.trans fa.fr
      have hd3 := hd.frA fa
      have kD : ∀ {M4 : Own} {H4 : Hp}, Fr c My H3 M4 H4 → H4 Dd = some (.lst acc) ∧ M4 Dd = some .tm := fun f4 => by
        obtain ⟨z1, z2⟩ := fa.keep Dd _ hDD
        obtain ⟨z3, z4⟩ := f4.keep Dd _ z1 (fun i z => by rw [z2, hmD] at z; cases z) nD
        exact ⟨z3, z4.trans (z2.trans hmD)⟩
      refine hg My H3 _ _ _ y _ _ (gat f3 hd3) ry go (fun ρ2 σ2 q2 g2 kb => ⟨wipe_eq his kb, ?_⟩)
      refine ht My H3 σ2 ρ2 _ noX _ g2 q2 (fun b ρ3 M4 H4 q3 g3 f4 => ?_) xok_no
      have rds : RepL c M4 H4 ds acc := (r.fr fa.fr).fr f4
      cases b with
      | true =>
        rw [if_pos rfl] at q3 ⊢
        refine he M4 H4 σ2 ρ3 _ noX _ g3 q3 (fun d ρ4 M5 H5 v q4 g4 f5 r5 => ?_) xok_no
        obtain ⟨e5, m5⟩ := kD (f4.trans f5)
        refine ⟨acc, e5, by rw [r.length]; exact q4.1, M5, acc ++ [v], ds ++ [d], ?_, g4.hand.updO m5, m5, upd_same, ((rds.fr f5).append (.one r5)).updO m5, q4.2⟩
        exact ⟨fun b o h n hh => by
          have ne : b ≠ Dd := ne_of_none h hD
          rw [upd_ne ne]
          exact (f3.trans (f4.trans f5)).keep b o h n hh⟩
      | false =>
        rw [if_neg Bool.false_ne_true] at q3 ⊢
        obtain ⟨e5, m5⟩ := kD f4
        exact ⟨M4, acc, ds, f3.trans f4, g3.hand, m5, e5, rds, q3⟩
    · have e : i = xs.length := by omega
      subst e
      rw [List.drop_length] at go
      have go : Q (.lst ds) ρ1 := go
      refine .inl ⟨stp, k _ ρ1 (back M1 H1 Mi) H2 Dd go nD fun l => ?_⟩
      rw [setM_back hD]
      obtain ⟨a1, a2, a3⟩ := behind (M' := setM Mi Dd l) g1 (f.own hD) (hd.rel hmD l)
      refine ⟨a1, f1.trans a2, acc, hDD, ?_⟩
      exact (r.rel hmD l).mono a3
end
end Lk

namespace Lk
open PySem PySem.Spec PyProof.Rows L2
section
variable {c : Ct} {X : Cx} {W : WX} {M M' : Own} {H H' : Hp} {σ : L2.St} {ρ : Ev} {a : Addr}
/-- [elt for tg in iter if ..] -/
theorem ef_lc {elt tg iter : Expr} {ifs : List Expr} {scope : Scope} {own : List (Str × Nat)} {is : List Nat} {pos : Pos} {mi : MI} {bd : MG} {mt : MT} {me : ME} (hc : X.calm = true) (hN : X.N.Nodup) (hi : SIb c X W tg iter mi) (ok : BlkOk X.N X.env.scope scope own)
    (his : ∀ j ∈ is, j ∈ own.map (·.2)) (hg : ∀ b : Bk, SG c (bk X scope b) is tg bd) (ht : ∀ b : Bk, ETs c (bk X scope b) WNo ifs mt) (he : ∀ b : Bk, EE c (bk X scope b) WNo elt me)
    (hs : ∀ x, foldedSetIterable iter X.env x = pure x := by intro _; rfl) : EF c X W (.ListComp elt [⟨tg, iter, ifs, 0⟩] scope pos) (mLc mi (own.map (·.2)) bd mt me) := by
  obtain ⟨wi, pi, ri⟩ := hi
  obtain ⟨g, pg, rg⟩ := uni_SG hg
  obtain ⟨tt, pt, rt⟩ := uni_ETs ht
  obtain ⟨te, pe, re⟩ := uni_EE he
  refine ⟨_, pe_lc hc hN pi ok (fun s H C cl fp => pg ⟨s, H, C, cl, fp⟩) (fun s H C cl fp => pt ⟨s, H, C, cl, fp⟩) (fun s H C cl fp => pe ⟨s, H, C, cl, fp⟩) hs, ?_⟩
  intro M H σ ρ Q E QV gd hm k x
  by_cases z : Nonempty Bk
  · exact lc_rel his ri (rg z) (rt z) (re z) M H σ ρ Q E QV gd hm k x
  · refine ri M H σ ρ _ E _ gd hm (fun xs ρ1 M1 H1 J q g1 f1 it => ?_) x
    exact absurd ⟨⟨({} : Shared), H, 0, [], []⟩⟩ z

/-! ## 8. Statements -/
structure Eo (c : Ct) (W : WX) (M : Own) (H : Hp) (P : Po) (D : Ends) : Prop where
  nx : ∀ ρ' M' H' σ', P.nx ρ' → Good c M' H' σ' ρ' → Fr c M H M' H' → D.nx σ' H'
  bk : ∀ ρ' M' H' σ', P.bk ρ' → Good c M' H' σ' ρ' → Fr c M H M' H' → D.bk σ' H'
  ct : ∀ ρ' M' H' σ', P.ct ρ' → Good c M' H' σ' ρ' → Fr c M H M' H' → D.ct σ' H'
  rt : ∀ d ρ' M' H' σ' v, P.rt d ρ' → Good c M' H' σ' ρ' → Fr c M H M' H' → Rep c M' H' d v → D.rt v H'
  ex : ∀ x ρ' cls dd M' H' σ', P.ex x ρ' → Good c M' H' σ' ρ' → Fr c M H M' H' → XRep c M' H' x cls dd → W cls dd σ' H'
theorem Eo.fr {P : Po} {D : Ends} {M1 : Own} {H1 : Hp} (e : Eo c W M H P D) (f : Fr c M H M1 H1) : Eo c W M1 H1 P D :=
  ⟨fun ρ' M' H' σ' p g k => e.nx ρ' M' H' σ' p g (f.trans k), fun ρ' M' H' σ' p g k => e.bk ρ' M' H' σ' p g (f.trans k), fun ρ' M' H' σ' p g k => e.ct ρ' M' H' σ' p g (f.trans k),
    fun d ρ' M' H' σ' v p g k => e.rt d ρ' M' H' σ' v p g (f.trans k), fun x ρ' cls dd M' H' σ' p g k => e.ex x ρ' cls dd M' H' σ' p g (f.trans k)⟩
theorem Eo.xok {P : Po} {D : Ends} (e : Eo c W M H P D) : XOk c W M H σ P.ex := fun x ρ' cls dd M' H' p g f r => e.ex x ρ' cls dd M' H' σ p g f r
def SSrel (c : Ct) (W : WX) (t : TS) (m : MS) : Prop := ∀ M H σ ρ P D, Good c M H σ ρ → m ρ P → Eo c W M H P D → t D σ H
def SS (c : Ct) (X : Cx) (W : WX) (st : Stmt) (m : MS) : Prop := ∃ t, PS X st t ∧ SSrel c W t m
def SB (c : Ct) (X : Cx) (W : WX) (st : List Stmt) (m : MS) : Prop := ∃ t, PSs X st t ∧ SSrel c W t m

variable {e : Expr} {me : ME} {pos : Pos} {st : Stmt} {rest : List Stmt} {ms mr : MS}
@[simp] def sNx : MS := fun ρ P => P.nx ρ
@[simp] def sSeq (m r : MS) : MS := fun ρ P => m ρ { P with nx := fun ρ' => r ρ' P }
theorem sb_nil : SB c X W [] sNx := ⟨_, pss_nil, fun M H σ ρ P D g h k => k.nx ρ M H σ h g .refl⟩
theorem sb_cons (h : SS c X W st ms) (hr : SB c X W rest mr) : SB c X W (st :: rest) (sSeq ms mr) := by
  obtain ⟨t, p, r⟩ := h
  obtain ⟨t2, p2, r2⟩ := hr
  refine ⟨_, pss_cons p p2, fun M H σ ρ P D g h k => ?_⟩
  exact r M H σ ρ { P with nx := fun ρ' => mr ρ' P } { D with nx := t2 D } g h ⟨fun ρ' M' H' σ' q g' f => r2 M' H' σ' ρ' P D g' q (k.fr f), k.bk, k.ct, k.rt, k.ex⟩
theorem sb_one (h : SS c X W st ms) : SB c X W [st] ms := by
  obtain ⟨t, p, r⟩ := h
  exact ⟨t, pss_one p, r⟩
theorem ss_pass : SS c X W (.Pass pos) sNx := ⟨_, ps_pass, fun M H σ ρ P D g h k => k.nx ρ M H σ h g .refl⟩
@[simp] def sBk : MS := fun ρ P => P.bk ρ
@[simp] def sCt : MS := fun ρ P => P.ct ρ
theorem ss_break : SS c X W (.Break pos) sBk := ⟨_, ps_break, fun M H σ ρ P D g h k => k.bk ρ M H σ h g .refl⟩
theorem ss_continue : SS c X W (.Continue pos) sCt := ⟨_, ps_continue, fun M H σ ρ P D g h k => k.ct ρ M H σ h g .refl⟩
theorem ss_doc {x j pos pos'} : SS c X W (.Expr (.Constant (.str x) j pos) pos') sNx := ⟨_, ps_doc, fun M H σ ρ P D g h k => k.nx ρ M H σ h g .refl⟩
/-- a value dropped -/
@[simp] def sDrop (m : ME) : MS := fun ρ P => m ρ (fun _ ρ' => P.nx ρ') P.ex
theorem ss_expr (h : EE c X W e me) (hs : swapsWith e none pos.line X.env = pure false := by rfl) : SS c X W (.Expr e pos) (sDrop me) := by
  obtain ⟨t, p, r⟩ := h
  exact ⟨_, ps_expr p hs, fun M H σ ρ P D g hm k => r M H σ ρ _ _ _ g hm (fun d ρ' M' H' v q g' f _ => k.nx ρ' M' H' σ q g' f) k.xok⟩
@[simp] def sRet (m : ME) : MS := fun ρ P => m ρ (fun d ρ' => P.rt d ρ') P.ex
theorem ss_ret (h : EE c X W e me) : SS c X W (.Return (some e) pos) (sRet me) := by
  obtain ⟨t, p, r⟩ := h
  exact ⟨_, ps_ret p, fun M H σ ρ P D g hm k => r M H σ ρ _ _ _ g hm (fun d ρ' M' H' v q g' f rr => k.rt d ρ' M' H' σ v q g' f rr) k.xok⟩
@[simp] def sRetN : MS := fun ρ P => P.rt .non ρ
theorem ss_retN : SS c X W (.Return none pos) sRetN := ⟨_, ps_retN, fun M H σ ρ P D g h k => k.rt .non ρ M H σ .non h g .refl rfl⟩
@[simp] def sIf (t : MT) (m n : MS) : MS := fun ρ P => t ρ (fun b ρ' => if b = true then m ρ' P else n ρ' P) P.ex
theorem ss_if {mt : MT} {a b : List Stmt} {ma mb : MS} (h : ET c X W e mt) (ha : SB c X W a ma) (hb : SB c X W b mb) : SS c X W (.If e a b pos) (sIf mt ma mb) := by
  obtain ⟨t, p, r⟩ := h
  obtain ⟨t1, p1, r1⟩ := ha
  obtain ⟨t2, p2, r2⟩ := hb
  refine ⟨_, ps_if p p1 p2, fun M H σ ρ P D g hm k => r M H σ ρ _ _ _ g hm (fun b ρ' M' H' q g' f => ?_) k.xok⟩
  cases b with
  | true =>
    rw [if_pos rfl] at q ⊢
    exact r1 M' H' σ ρ' P D g' q (k.fr f)
  | false =>
    rw [if_neg Bool.false_ne_true] at q ⊢
    exact r2 M' H' σ ρ' P D g' q (k.fr f)
/-- target = e -/
@[simp] def sAsg (m : ME) (b : MG) : MS := fun ρ P => m ρ (fun d ρ' => b d ρ' P.nx) P.ex
theorem ss_set (i : Nat) {x : Str} {pos' : Pos} (hN : X.N.Nodup) (h : EE c X W e me) (hi : X.N[i]? = some x := by rfl) (hx : Loc X.env.scope x := by first | exact Or.inl rfl | exact Or.inr rfl) (hs : swapsWith e (some (.Name x pos')) pos.line X.env = pure false := by rfl)
    (hf : X.fn x = true ∨ X.env.scope.names.lookup x = some .local := by first | exact .inl rfl | exact .inr rfl) : SS c X W (.Assign [.Name x pos'] e pos) (sAsg me (nSet i)) := by
  obtain ⟨t, p, r⟩ := h
  exact ⟨_, ps_set hN hi hx p hs hf, fun M H σ ρ P D g hm k => r M H σ ρ _ _ _ g hm (fun d ρ' M' H' v q g' f rr => k.nx _ M' H' _ q (g'.put rr) f) k.xok⟩
/-- x = a new list -/
@[simp] def sAsgF (i : Nat) (m : ME) : MS := fun ρ P => m ρ (fun d ρ' => P.nx (ρ'.put i (some (d, .ow)))) P.ex
theorem asgF_rel {t : TE} {i : Nat} (np : c.pin = none) (r : TFrel c W t me) : SSrel c W (tAsg t (gName i)) (sAsgF i me) := fun M H σ ρ P D g hm k =>
  r M H σ ρ _ _ _ g hm (fun d ρ' M' H' a q n z => by
    obtain ⟨g', f', o⟩ := z (some (.sl i))
    exact k.nx _ _ H' _ q (g'.put_ow np n o) f') k.xok
theorem ss_setF (i : Nat) {x : Str} {pos' : Pos} (np : c.pin = none) (hN : X.N.Nodup) (h : EF c X W e me) (hi : X.N[i]? = some x := by rfl) (hx : Loc X.env.scope x := by first | exact Or.inl rfl | exact Or.inr rfl) (hs : swapsWith e (some (.Name x pos')) pos.line X.env = pure false := by rfl)
    (hf : X.fn x = true ∨ X.env.scope.names.lookup x = some .local := by first | exact .inl rfl | exact .inr rfl) : SS c X W (.Assign [.Name x pos'] e pos) (sAsgF i me) := by
  obtain ⟨t, p, r⟩ := h
  exact ⟨_, ps_set hN hi hx p hs hf, asgF_rel np r⟩
/-- y = [..] on one line, y a local: stored within the comprehension's frame -/
theorem setLc_core (i : Nat) {y : Str} {py : Pos} {elt tg iter : Expr} {ifs : List Expr} {scope : Scope} {own : List (Str × Nat)} {is : List Nat} {spos : Pos} {mi : MI} {bd : MG} {mt : MT} {me : ME} (hc : X.calm = true) (hN : X.N.Nodup) (hi : SIb c X W tg iter mi) (ok : BlkOk X.N X.env.scope scope own)
    (his : ∀ j ∈ is, j ∈ own.map (·.2)) (hg : ∀ b : Bk, SG c (bk X scope b) is tg bd) (ht : ∀ b : Bk, ETs c (bk X scope b) WNo ifs mt) (he : ∀ b : Bk, EE c (bk X scope b) WNo elt me)
    (hs : ∀ x, foldedSetIterable iter X.env x = pure x) (hy : X.N[i]? = some y) (hyl : X.env.scope.names.lookup y = some .local)
    (hsw : swapsWith (.ListComp elt [⟨tg, iter, ifs, 0⟩] scope pos) (some (.Name y py)) spos.line X.env = pure true) :
    ∃ t, PS X (.Assign [.Name y py] (.ListComp elt [⟨tg, iter, ifs, 0⟩] scope pos) spos) (tAsg t (gName i)) ∧ TFrel c W t (mLc mi (own.map (·.2)) bd mt me) := by
  obtain ⟨wi, pi, ri⟩ := hi
  obtain ⟨g, pg, rg⟩ := uni_SG hg
  obtain ⟨tt, pt, rt⟩ := uni_ETs ht
  obtain ⟨te, pe, re⟩ := uni_EE he
  refine ⟨_, ps_setLc hc hN hy hyl hsw pi ok (fun s H C cl fp => pg ⟨s, H, C, cl, fp⟩) (fun s H C cl fp => pt ⟨s, H, C, cl, fp⟩) (fun s H C cl fp => pe ⟨s, H, C, cl, fp⟩) hs, ?_⟩
  intro M H σ ρ Q E QV gd hm k x
  have z : Nonempty Bk := ⟨⟨({} : Shared), H, 0, [], []⟩⟩
  exact lc_rel his ri (rg z) (rt z) (re z) M H σ ρ Q E QV gd hm k x
theorem TFrel.te {t : TE} (h : TFrel c W t me) : TErel c W t me := fun M H σ ρ Q E QV g hm k x => h M H σ ρ Q E QV g hm (fun d ρ' M' H' a q n z => by
  obtain ⟨g', f', o⟩ := z none
  exact k d ρ' _ H' _ q g' f' (o.rep setM_same n)) x
theorem ss_lc (i : Nat) {y : Str} {py : Pos} {elt tg iter : Expr} {ifs : List Expr} {scope : Scope} {own : List (Str × Nat)} {is : List Nat} {spos : Pos} {mi : MI} {bd : MG} {mt : MT} {me : ME} (hc : X.calm = true) (hN : X.N.Nodup) (hi : SIb c X W tg iter mi) (ok : BlkOk X.N X.env.scope scope own)
    (his : ∀ j ∈ is, j ∈ own.map (·.2)) (hg : ∀ b : Bk, SG c (bk X scope b) is tg bd) (ht : ∀ b : Bk, ETs c (bk X scope b) WNo ifs mt) (he : ∀ b : Bk, EE c (bk X scope b) WNo elt me)
    (hsw : swapsWith (.ListComp elt [⟨tg, iter, ifs, 0⟩] scope pos) (some (.Name y py)) spos.line X.env = pure true) (hs : ∀ x, foldedSetIterable iter X.env x = pure x := by intro _; rfl) (hy : X.N[i]? = some y := by rfl) (hyl : X.env.scope.names.lookup y = some .local := by rfl) :
    SS c X W (.Assign [.Name y py] (.ListComp elt [⟨tg, iter, ifs, 0⟩] scope pos) spos) (sAsg (mLc mi (own.map (·.2)) bd mt me) (nSet i)) := by
  obtain ⟨t, p, r⟩ := setLc_core i hc hN hi ok his hg ht he hs hy hyl hsw
  exact ⟨_, p, fun M H σ ρ P D g hm k => r.te M H σ ρ _ _ _ g hm (fun d ρ' M' H' v q g' f rr => k.nx _ M' H' _ q (g'.put rr) f) k.xok⟩
theorem ss_lcF (i : Nat) {y : Str} {py : Pos} {elt tg iter : Expr} {ifs : List Expr} {scope : Scope} {own : List (Str × Nat)} {is : List Nat} {spos : Pos} {mi : MI} {bd : MG} {mt : MT} {me : ME} (np : c.pin = none) (hc : X.calm = true) (hN : X.N.Nodup) (hi : SIb c X W tg iter mi) (ok : BlkOk X.N X.env.scope scope own)
    (his : ∀ j ∈ is, j ∈ own.map (·.2)) (hg : ∀ b : Bk, SG c (bk X scope b) is tg bd) (ht : ∀ b : Bk, ETs c (bk X scope b) WNo ifs mt) (he : ∀ b : Bk, EE c (bk X scope b) WNo elt me)
    (hsw : swapsWith (.ListComp elt [⟨tg, iter, ifs, 0⟩] scope pos) (some (.Name y py)) spos.line X.env = pure true) (hs : ∀ x, foldedSetIterable iter X.env x = pure x := by intro _; rfl) (hy : X.N[i]? = some y := by rfl) (hyl : X.env.scope.names.lookup y = some .local := by rfl) :
    SS c X W (.Assign [.Name y py] (.ListComp elt [⟨tg, iter, ifs, 0⟩] scope pos) spos) (sAsgF i (mLc mi (own.map (·.2)) bd mt me)) := by
  obtain ⟨t, p, r⟩ := setLc_core i hc hN hi ok his hg ht he hs hy hyl hsw
  exact ⟨_, p, asgF_rel np r⟩
/-- a, b = e (one value taken apart) -/
theorem ss_apart {tg : Expr} {is : List Nat} {bd : MG} (h : EE c X W e me) (hg : SG c X is tg bd) (hs : swapsWithSole [tg] e pos.line X.env = pure false := by rfl) (hw : swappedStores [tg] e X.env = pure none := by rfl)
    (h1 : (assignEach [tg] X.env).map (·.2) = [assign tg X.env] := by rfl) : SS c X W (.Assign [tg] e pos) (sAsg me bd) := by
  obtain ⟨t, p, r⟩ := h
  obtain ⟨⟨g, pg, rg⟩, _⟩ := hg
  refine ⟨_, ps_asg p pg hs hw h1, fun M H σ ρ P D gd hm k => r M H σ ρ _ _ _ gd hm (fun d ρ' M' H' v q g' f rr => ?_) k.xok⟩
  exact rg M' H' σ ρ' d v _ _ g' rr q fun ρ2 σ2 q2 g2 _ => k.nx ρ2 M' H' σ2 q2 g2 f
/-! ### loops -/
def forL (bd : MG) (body : MS) : List D → Ev → Po → Prop
  | [], ρ, P => P.nx ρ
  | x :: xs, ρ, P => bd x ρ fun ρ2 => body ρ2 { P with nx := fun ρ' => forL bd body xs ρ' P, ct := fun ρ' => forL bd body xs ρ' P, bk := P.nx }
@[simp] def sFor (mi : MI) (bd : MG) (body : MS) : MS := fun ρ P => mi ρ (fun xs ρ' => forL bd body xs ρ' P) P.ex
theorem ss_for {tg iter : Expr} {body : List Stmt} {is : List Nat} {mi : MI} {bd : MG} {mb : MS} (hp : PassesOwn (model X.prog X.w) X.A X.env X.xe) (hc : X.calm = true) (hi : SI c X W tg iter mi) (hg : SG c X is tg bd) (hb : SB c X W body mb)
    (hs : ∀ x, foldedSetIterable iter X.env x = pure x := by intro _; rfl) : SS c X W (.For tg iter body [] pos) (sFor mi bd mb) := by
  obtain ⟨wi, pi, ri⟩ := hi
  obtain ⟨⟨g, pg, rg⟩, _⟩ := hg
  obtain ⟨tb, pb, rb⟩ := hb
  refine ⟨_, ps_for hp hc pi pg pb hs, fun M H σ ρ P D gd hm k => ri M H σ ρ _ _ _ gd hm (fun xs ρ1 M1 H1 J q g1 f1 it => ?_) k.xok⟩
  let At : Nat → L2.St → Hp → Prop := fun i σ H => ∃ (Mi : Own) (ρi : Ev), Fr c M1 H1 Mi H ∧ Good c Mi H σ ρi ∧ forL bd mb (xs.drop i) ρi P
  refine ⟨fun i m σ H => m = xs.length - i ∧ i ≤ xs.length ∧ At i σ H, ⟨xs.length, by rw [Nat.sub_zero], Nat.zero_le _, M1, ρ1, .refl, g1, q⟩, ?_⟩
  rintro i m σ2 H2 ⟨rfl, hi2, Mi, ρi, f, gi, go⟩
  obtain ⟨itm, stp⟩ := it Mi H2 f gi.hand
  by_cases hlt : i < xs.length
  · have hx : xs[i]? = some xs[i] := List.getElem?_eq_getElem hlt
    obtain ⟨jg, jy⟩ := itm i _ hx
    rw [drop_at hx] at go
    refine .inr ⟨jg, At (i + 1), fun σ' H' a => ⟨xs.length - (i + 1), by omega, rfl, hlt, a⟩, fun y H3 yl => ?_⟩
    obtain ⟨My, fa, ry⟩ := jy y H3 yl
    refine rg My H3 _ _ _ y _ _ (gi.frA fa) ry go fun ρ2 σ3 q2 g2 _ => ?_
    refine rb My H3 σ3 ρ2 _ _ g2 q2 ⟨fun ρ' M' H' σ' q' g' f' => ⟨M', ρ', (f.trans fa.fr).trans f', g', q'⟩, fun ρ' M' H' σ' q' g' f' => k.nx ρ' M' H' σ' q' g' ((f1.trans f).trans (fa.fr.trans f')),
      fun ρ' M' H' σ' q' g' f' => ⟨M', ρ', (f.trans fa.fr).trans f', g', q'⟩, fun d ρ' M' H' σ' v q' h' f' r' => k.rt d ρ' M' H' σ' v q' h' ((f1.trans f).trans (fa.fr.trans f')) r',
      fun x ρ' cls dd M' H' σ' q' g' f' r' => k.ex x ρ' cls dd M' H' σ' q' g' ((f1.trans f).trans (fa.fr.trans f')) r'⟩
  · have e : i = xs.length := by omega
    subst e
    rw [List.drop_length] at go
    exact .inl ⟨stp, k.nx ρi Mi H2 σ2 go gi (f1.trans f)⟩
def whileN (t : MT) (body : MS) : Nat → Ev → Po → Prop
  | 0, _, _ => False
  | n + 1, ρ, P => t ρ (fun b ρ1 => if b = true then body ρ1 { P with nx := fun ρ' => whileN t body n ρ' P, ct := fun ρ' => whileN t body n ρ' P, bk := P.nx } else P.nx ρ1) P.ex
def sWhile (t : MT) (body : MS) : MS := fun ρ P => ∃ n, whileN t body n ρ P
theorem ss_while {mt : MT} {body : List Stmt} {mb : MS} (hp : PassesOwn (model X.prog X.w) X.A X.env X.xe) (h : ET c X W e mt) (hb : SB c X W body mb) : SS c X W (.While e body [] pos) (sWhile mt mb) := by
  obtain ⟨t, p, r⟩ := h
  obtain ⟨tb, pb, rb⟩ := hb
  refine ⟨_, ps_while hp p pb, fun M H σ ρ P D gd hm k => ?_⟩
  obtain ⟨n0, hm⟩ := hm
  refine ⟨fun n σ H2 => ∃ (Mi : Own) (ρi : Ev), Fr c M H Mi H2 ∧ Good c Mi H2 σ ρi ∧ whileN mt mb n ρi P, ⟨n0, M, ρ, .refl, gd, hm⟩, ?_⟩
  rintro n σ2 H2 ⟨Mi, ρi, f, gi, go⟩
  cases n with
  | zero => exact go.elim
  | succ n =>
    refine r Mi H2 σ2 ρi _ _ _ gi go (fun b ρ1 M1 H1 q g1 f1 => ?_) (k.fr f).xok
    cases b with
    | true =>
      rw [if_pos rfl] at q ⊢
      refine ⟨fun σ' H' => ∃ (Mi : Own) (ρi : Ev), Fr c M H Mi H' ∧ Good c Mi H' σ' ρi ∧ whileN mt mb n ρi P, fun σ' H' a => ⟨n, Nat.lt_succ_self n, a⟩, ?_⟩
      refine rb M1 H1 σ2 ρ1 _ _ g1 q ⟨fun ρ' M' H' σ' q' g' f' => ⟨M', ρ', (f.trans f1).trans f', g', q'⟩, fun ρ' M' H' σ' q' g' f' => k.nx ρ' M' H' σ' q' g' ((f.trans f1).trans f'),
        fun ρ' M' H' σ' q' g' f' => ⟨M', ρ', (f.trans f1).trans f', g', q'⟩, fun d ρ' M' H' σ' v q' h' f' r' => k.rt d ρ' M' H' σ' v q' h' ((f.trans f1).trans f') r',
        fun x ρ' cls dd M' H' σ' q' g' f' r' => k.ex x ρ' cls dd M' H' σ' q' g' ((f.trans f1).trans f') r'⟩
    | false =>
      rw [if_neg Bool.false_ne_true] at q ⊢
      exact k.nx ρ1 M1 H1 σ2 q g1 (f.trans f1)
/-! ### a def -/
def ev0 (N : List Str) (ds : List D) : Ev := ds.map (fun d => some (d, Fl.sh)) ++ List.replicate (N.length - ds.length) none
theorem start_good {N : List Str} {ds : List D} {vs : List V} (hd : HdOk c M H) (r : RepL c M H ds vs) : Good c M H (L2.start N vs) (ev0 N ds) := by
  refine ⟨hd, ?_, fun i => ?_⟩
  · unfold L2.start ev0
    rw [List.length_append, List.length_append, List.length_map, List.length_map, List.length_replicate, List.length_replicate, r.length]
  · unfold L2.start ev0
    rw [← r.length]
    generalize N.length - vs.length = n
    have key : ∀ {ds : List D} {vs : List V} (i j : Nat), RepL c M H ds vs → SlotRep c M H j ((vs.map some ++ List.replicate n none).getD i none) (Ev.get (ds.map (fun d => some (d, Fl.sh)) ++ List.replicate n none) i) := by
      intro ds
      induction ds with
      | nil =>
        intro vs i j r
        unfold RepL at r
        subst r
        have z : ∀ (n i : Nat), Ev.get (List.replicate n (none : Slot)) i = none := by
          intro n
          induction n with
          | zero => intro i; rfl
          | succ n ih =>
            intro i
            cases i with
            | zero => rfl
            | succ i => exact ih i
        show SlotRep c M H j _ (Ev.get (List.replicate n (none : Slot)) i)
        rw [z]
        cases ((List.map some ([] : List V) ++ List.replicate n none).getD i none) <;> trivial
      | cons d ds ih =>
        intro vs i j r
        unfold RepL at r
        obtain ⟨v, w, rfl, h1, h2⟩ := r
        cases i with
        | zero => exact h1
        | succ i => exact ih i j h2
    exact key i i r
/-- THE RULE for a def: what its body asks follows from what is promised -/
theorem def_ok {P : Program} {w : World} {K : PySem.W.Frag} {mg : Str → Option Value} {base : Heap} {x qual : Str} {st : Stmt} {f : Addr} {fd : FuncData} {N ps : List Str} {k : Nat} {S : FS} {m : MS} (F : Fun K x qual st f fd) (Sc : FnScope N ps (defScope st))
    (hl : ∀ ds Q E, S ds Q E → ds.length = ps.length)
    (hb : ∀ (cdv : Value) (A : Around) (outer : List Env) (s : Shared) (H : Hp) (E : XK) (c : Ct) (W : WX), Rm k (A.deeper (envOfC qual (defScope st) s.heap.objs.size f cdv)) →
      Fit c (cxOf (L2.CX P w) P w K mg base N qual (defScope st) f cdv A outer s H E) → c.pin = none → Takes (cxOf (L2.CX P w) P w K mg base N qual (defScope st) f cdv A outer s H E) W →
      SB c (cxOf (L2.CX P w) P w K mg base N qual (defScope st) f cdv A outer s H E) W (defBody st) m)
    (hm : ∀ ds Q E, S ds Q E → m (ev0 N ds) { nx := fun _ => Q .non, rt := fun d _ => Q d, ex := fun x _ => E x }) : FnG P w K mg base (k + 1) f fd ps (spOf K mg S) := by
  refine fnG F Sc (fun vs H Q E h => ?_) (fun cdv A outer s H vs Q E hr h => ?_)
  · obtain ⟨c, M, ds, Qd, Ed, _, _, _, r, h, _⟩ := h
    rw [r.length]
    exact hl _ _ _ h
  · obtain ⟨c, M, ds, Qd, Ed, ⟨hK, hp⟩, hmg, hd, r, h, hQ, hE⟩ := h
    obtain ⟨t, p, rel⟩ := hb cdv A outer s H E c (fun cls d _ H => E cls d H) hr ⟨hK, hmg⟩ hp (takes_of rfl rfl rfl rfl)
    refine ⟨t, p, rel M H _ (ev0 N ds) _ _ (start_good hd r) (hm _ _ _ h) ⟨fun ρ' M' H' σ' q g' f' => ?_, fun ρ' M' H' σ' q g' f' => q.elim, fun ρ' M' H' σ' q g' f' => q.elim, fun d ρ' M' H' σ' v q h' f' r' => hQ d v M' H' q f' h'.hand r', fun x ρ' cls dd M' H' σ' q g' f' r' => hE x cls dd M' H' q f' g'.hand r'⟩⟩
    exact hQ .non .non M' H' q f' g'.hand rfl
end
end Lk

namespace Lk
open PySem PySem.Spec PyProof.Rows L2
section
variable {c : Ct} {X : Cx} {W : WX} {M M' : Own} {H H' : Hp} {σ : L2.St} {ρ : Ev} {a : Addr} {e : Expr} {me : ME} {pos : Pos} {st : Stmt} {rest : List Stmt} {ms mr : MS}
/-! ## 9. More statements -/
@[simp] def sDead : MS := fun _ _ => False
theorem ss_dead : SS c X W st sDead := ⟨_, ps_never, fun _ _ _ _ _ _ _ h _ => h.elim⟩
theorem sb_dead {sts : List Stmt} : SB c X W sts sDead := ⟨_, pss_never, fun _ _ _ _ _ _ _ h _ => h.elim⟩
theorem Good.relab {t : Option Lab} {l : Lab} (g : Good c M H σ ρ) (hm : M a = some l) (hl : ∀ i, l ≠ .sl i) (ht : l ≠ .tm) : Good c (setM M a t) H σ ρ := by
  refine ⟨g.hand.rel hm t, ⟨g.ev.len, fun i => ?_⟩⟩
  have q := g.ev.at_ i
  generalize ρ.get i = s at q ⊢
  generalize σ.getD i none = o at q ⊢
  cases s with
  | none => cases o <;> trivial
  | some p =>
    obtain ⟨d, fl⟩ := p
    cases o with
    | none => cases fl <;> exact q
    | some v =>
      cases fl with
      | sh => exact Rep.rel hm t q
      | ow => exact ⟨OwRep.rel hm (fun z => hl i z.symm) t q.1, q.2⟩
      | fz => exact OwRep.rel hm (fun z => ht z.symm) t q
theorem OwRep.frN {t : Lab} {d : D} {v : V} (hn : ∀ i, t ≠ .sl i) (f : Fr c M H M' H') (h : OwRep c M H t d v) : OwRep c M' H' t d v := by
  obtain ⟨a, e, m, n, o⟩ := h
  obtain ⟨u, hu⟩ := o.there
  have k := fun o' ho => f.keep a o' ho (fun i z => by rw [m] at z; exact hn i (Option.some.inj z)) n
  exact ⟨a, e, (k u hu).2.trans m, n, o.frL f fun o' ho => (k o' ho).1⟩
/-- values of which some are new lists (not there at M0, H0), not yet stored -/
def Nw (M0 : Own) (H0 : Hp) (a : Addr) : Prop := ∀ o, H0 a = some o → ∃ i, M0 a = some (.sl i)
theorem Nw.of {M0 : Own} {H0 : Hp} (nh : c.hd ≠ some a) (h : ∀ l, Fr c M0 H0 (setM M' a l) H') : Nw M0 H0 a := fun o e => by
  by_cases z : ∃ i, M0 a = some (.sl i)
  · exact z
  · have n : ∀ i, M0 a ≠ some (.sl i) := fun i q => z ⟨i, q⟩
    have e1 := ((h none).keep a o e n nh).2
    have e2 := ((h (some .tm)).keep a o e n nh).2
    rw [setM_same] at e1 e2
    rw [← e1] at e2
    cases e2
theorem Nw.fr {M0 M1 : Own} {H0 H1 : Hp} (nh : c.hd ≠ some a) (f : Fr c M0 H0 M1 H1) (h : Nw M1 H1 a) : Nw M0 H0 a := fun o e => by
  by_cases z : ∃ i, M0 a = some (.sl i)
  · exact z
  · have n : ∀ i, M0 a ≠ some (.sl i) := fun i q => z ⟨i, q⟩
    obtain ⟨e1, e2⟩ := f.keep a o e n nh
    obtain ⟨i, q⟩ := h o e1
    rw [e2] at q
    exact ⟨i, q⟩
theorem Fr.re {M0 M1 : Own} {H0 : Hp} (f : Fr c M0 H0 M H) (h : ∀ b, M1 b = M b ∨ Nw M0 H0 b) : Fr c M0 H0 M1 H := ⟨fun b o e n nh => by
  obtain ⟨e1, e2⟩ := f.keep b o e n nh
  rcases h b with q | q
  · exact ⟨e1, q.trans e2⟩
  · obtain ⟨i, z⟩ := q o e
    exact absurd z (n i)⟩
def MixL (c : Ct) (M0 : Own) (H0 : Hp) (M : Own) (H : Hp) : List (D × Fl) → List V → Prop
  | [], vs => vs = []
  | (d, fl) :: ps, vs => ∃ v r, vs = v :: r ∧ (match fl with
    | .sh => Rep c M H d v
    | _ => OwRep c M H (.pd ps.length) d v ∧ ∀ a, v = .ref a → Nw M0 H0 a) ∧ MixL c M0 H0 M H ps r
theorem MixL.fr {M0 : Own} {H0 : Hp} (f : Fr c M H M' H') : ∀ {ps : List (D × Fl)} {vs : List V}, MixL c M0 H0 M H ps vs → MixL c M0 H0 M' H' ps vs
  | [], _, h => h
  | (d, .sh) :: ps, _, h => by
    obtain ⟨v, r, e, h1, h2⟩ := h
    exact ⟨v, r, e, Rep.fr f h1, MixL.fr f h2⟩
  | (d, .ow) :: ps, _, h => by
    obtain ⟨v, r, e, h1, h2⟩ := h
    exact ⟨v, r, e, ⟨OwRep.frN (fun _ z => by cases z) f h1.1, h1.2⟩, MixL.fr f h2⟩
  | (d, .fz) :: ps, _, h => by
    obtain ⟨v, r, e, h1, h2⟩ := h
    exact ⟨v, r, e, ⟨OwRep.frN (fun _ z => by cases z) f h1.1, h1.2⟩, MixL.fr f h2⟩
theorem OwRep.nohd {t : Lab} {d : D} (h : OwRep c M H t d (.ref a)) : c.hd ≠ some a := by
  obtain ⟨b, e, m, n, o⟩ := h
  cases e
  exact n
theorem MixL.start {M0 M1 : Own} {H0 H1 : Hp} (f : Fr c M0 H0 M1 H1) : ∀ {ps : List (D × Fl)} {vs : List V}, MixL c M1 H1 M H ps vs → MixL c M0 H0 M H ps vs
  | [], _, h => h
  | (d, .sh) :: ps, _, h => by
    obtain ⟨v, r, e, h1, h2⟩ := h
    exact ⟨v, r, e, h1, MixL.start f h2⟩
  | (d, .ow) :: ps, _, h => by
    obtain ⟨v, r, e, h1, h2⟩ := h
    exact ⟨v, r, e, ⟨h1.1, fun a q => (h1.2 a q).fr (by subst q; exact h1.1.nohd) f⟩, MixL.start f h2⟩
  | (d, .fz) :: ps, _, h => by
    obtain ⟨v, r, e, h1, h2⟩ := h
    exact ⟨v, r, e, ⟨h1.1, fun a q => (h1.2 a q).fr (by subst q; exact h1.1.nohd) f⟩, MixL.start f h2⟩
theorem MixL.rel {M0 : Own} {H0 : Hp} {k : Nat} {t : Option Lab} (hm : M a = some (.pd k)) : ∀ {ps : List (D × Fl)} {vs : List V}, ps.length ≤ k → MixL c M0 H0 M H ps vs → MixL c M0 H0 (setM M a t) H ps vs
  | [], _, _, h => h
  | (d, .sh) :: ps, _, hk, h => by
    obtain ⟨v, r, e, h1, h2⟩ := h
    exact ⟨v, r, e, Rep.rel hm t h1, MixL.rel hm (Nat.le_of_succ_le hk) h2⟩
  | (d, .ow) :: ps, _, hk, h => by
    obtain ⟨v, r, e, h1, h2⟩ := h
    exact ⟨v, r, e, ⟨OwRep.rel hm (fun z => by cases z; exact Nat.lt_irrefl _ hk) t h1.1, h1.2⟩, MixL.rel hm (Nat.le_of_succ_le hk) h2⟩
  | (d, .fz) :: ps, _, hk, h => by
    obtain ⟨v, r, e, h1, h2⟩ := h
    exact ⟨v, r, e, ⟨OwRep.rel hm (fun z => by cases z; exact Nat.lt_irrefl _ hk) t h1.1, h1.2⟩, MixL.rel hm (Nat.le_of_succ_le hk) h2⟩
theorem MixL.length {M0 : Own} {H0 : Hp} : ∀ {ps : List (D × Fl)} {vs : List V}, MixL c M0 H0 M H ps vs → vs.length = ps.length
  | [], _, h => by
    have h : _ = [] := h
    rw [h]; rfl
  | (d, fl) :: ps, _, h => by
    obtain ⟨v, r, rfl, _, h2⟩ := h
    rw [List.length_cons, List.length_cons, MixL.length h2]
abbrev MX := Ev → (List (D × Fl) → Ev → Prop) → XP → Prop
def AX (c : Ct) (X : Cx) (W : WX) (es : List Expr) (n : Nat) (m : MX) : Prop := ∃ t, PA X es t ∧ ∀ M H σ ρ Q E (QV : List V → Hp → Prop), Good c M H σ ρ → m ρ Q E →
  (∀ ps ρ' M' H' vs, Q ps ρ' → ps.length = n → Good c M' H' σ ρ' → Fr c M H M' H' → MixL c M H M' H' ps vs → QV vs H') → XOk c W M H σ E → t σ H QV
@[simp] def xNil : MX := fun ρ Q _ => Q [] ρ
@[simp] def xSh (m : ME) (r : MX) : MX := fun ρ Q E => m ρ (fun d ρ1 => r ρ1 (fun ps ρ2 => Q ((d, .sh) :: ps) ρ2) E) E
@[simp] def xOw (m : ME) (r : MX) : MX := fun ρ Q E => m ρ (fun d ρ1 => r ρ1 (fun ps ρ2 => Q ((d, .ow) :: ps) ρ2) E) E
theorem ax_nil : AX c X W [] 0 xNil := ⟨_, pa_nil, fun M H σ ρ Q E QV g h k _ => k [] ρ M H [] h rfl g .refl rfl⟩
theorem ax_sh {es : List Expr} {n : Nat} {m : ME} {r : MX} (h : EE c X W e m) (h2 : AX c X W es n r) (hs : starEach (e :: es) X.env = (false, eval e X.env) :: starEach es X.env := by rfl) : AX c X W (e :: es) (n + 1) (xSh m r) := by
  obtain ⟨t, p, rr⟩ := h
  obtain ⟨t2, p2, r2⟩ := h2
  refine ⟨_, pa_cons p p2 hs, fun M H σ ρ Q E QV g hm k x => rr M H σ ρ _ E _ g hm (fun d ρ1 M1 H1 v q1 g1 f1 r1 => ?_) x⟩
  refine r2 M1 H1 σ ρ1 _ E _ g1 q1 (fun ps ρ2 M2 H2 vs q2 l2 g2 f2 m2 => ?_) (x.fr f1)
  exact k _ ρ2 M2 H2 (v :: vs) q2 (by rw [List.length_cons, l2]) g2 (f1.trans f2) ⟨v, vs, rfl, r1.fr f2, m2.start f1⟩
theorem ax_ow {es : List Expr} {n : Nat} {m : ME} {r : MX} (h : EF c X W e m) (h2 : AX c X W es n r) (hs : starEach (e :: es) X.env = (false, eval e X.env) :: starEach es X.env := by rfl) : AX c X W (e :: es) (n + 1) (xOw m r) := by
  obtain ⟨t, p, rr⟩ := h
  obtain ⟨t2, p2, r2⟩ := h2
  refine ⟨_, pa_cons p p2 hs, fun M H σ ρ Q E QV g hm k x => rr M H σ ρ _ E _ g hm (fun d ρ1 M1 H1 a q1 nh z => ?_) x⟩
  have nw : Nw M H a := .of nh fun l => (z l).2.1
  obtain ⟨g1, f1, o1⟩ := z (some (.pd n))
  refine r2 _ H1 σ ρ1 _ E _ g1 q1 (fun ps ρ2 M2 H2 vs q2 l2 g2 f2 m2 => ?_) (x.fr f1)
  have r1 : OwRep c (setM M1 a (some (.pd n))) H1 (.pd n) d (.ref a) := ⟨a, rfl, setM_same, nh, o1⟩
  refine k _ ρ2 M2 H2 (.ref a :: vs) q2 (by rw [List.length_cons, l2]) g2 (f1.trans f2) ⟨.ref a, vs, rfl, ?_, m2.start f1⟩
  show OwRep c M2 H2 (.pd ps.length) d (.ref a) ∧ _
  rw [l2]
  exact ⟨r1.frN (fun _ z => by cases z) f2, fun b e => by cases e; exact nw⟩
/-- stored in the slots, one by one -/
@[simp] def putAll : Ev → List Nat → List (D × Fl) → Ev
  | ρ, i :: is, (d, .sh) :: ps => putAll (ρ.put i (some (d, .sh))) is ps
  | ρ, i :: is, (d, _) :: ps => putAll (ρ.put i (some (d, .ow))) is ps
  | ρ, _, _ => ρ
def setAll : L2.St → List Nat → List V → L2.St
  | σ, i :: is, v :: vs => setAll (σ.set i (some v)) is vs
  | σ, _, _ => σ
theorem Good.putAll (np : c.pin = none) {M0 : Own} {H0 : Hp} : ∀ {is : List Nat} {ps : List (D × Fl)} {vs : List V} {M : Own} {σ : L2.St} {ρ : Ev}, Good c M H σ ρ → MixL c M0 H0 M H ps vs → ∃ M', (∀ b, M' b = M b ∨ Nw M0 H0 b) ∧ Good c M' H (setAll σ is vs) (Lk.putAll ρ is ps)
  | [], ps, vs, M, σ, ρ, g, _ => ⟨M, fun _ => .inl rfl, by
    have e1 : setAll σ [] vs = σ := by unfold setAll; rfl
    have e2 : Lk.putAll ρ [] ps = ρ := by unfold Lk.putAll; rfl
    rw [e1, e2]; exact g⟩
  | i :: is, [], vs, M, σ, ρ, g, h => ⟨M, fun _ => .inl rfl, by
    have h : vs = [] := h
    subst h
    exact g⟩
  | i :: is, (d, .sh) :: ps, vs, M, σ, ρ, g, h => by
    obtain ⟨v, r, rfl, h1, h2⟩ := h
    exact Good.putAll np (is := is) (g.put (i := i) h1) h2
  | i :: is, (d, .ow) :: ps, vs, M, σ, ρ, g, h => by
    obtain ⟨v, r, rfl, ⟨h1, h3⟩, h2⟩ := h
    obtain ⟨a, rfl, m, n, o⟩ := h1
    have g1 := g.relab (t := some (.sl i)) m (fun _ z => by cases z) (fun z => by cases z)
    obtain ⟨M', k, z⟩ := Good.putAll np (is := is) (g1.put_ow np n (o.rel m _)) (h2.rel m (Nat.le_refl _))
    refine ⟨M', fun b => ?_, z⟩
    by_cases q : b = a
    · exact .inr (q ▸ h3 a rfl)
    · rcases k b with e | e
      · exact .inl (e.trans (setM_ne q))
      · exact .inr e
  | i :: is, (d, .fz) :: ps, vs, M, σ, ρ, g, h => by
    obtain ⟨v, r, rfl, ⟨h1, h3⟩, h2⟩ := h
    obtain ⟨a, rfl, m, n, o⟩ := h1
    have g1 := g.relab (t := some (.sl i)) m (fun _ z => by cases z) (fun z => by cases z)
    obtain ⟨M', k, z⟩ := Good.putAll np (is := is) (g1.put_ow np n (o.rel m _)) (h2.rel m (Nat.le_refl _))
    refine ⟨M', fun b => ?_, z⟩
    by_cases q : b = a
    · exact .inr (q ▸ h3 a rfl)
    · rcases k b with e | e
      · exact .inl (e.trans (setM_ne q))
      · exact .inr e
@[simp] def sPar (is : List Nat) (m : MX) : MS := fun ρ P => m ρ (fun ps ρ' => P.nx (putAll ρ' is ps)) P.ex
theorem ss_par (i j : Nat) {x y : Str} {a b : Expr} {m : MX} {px py pt : Pos} {kt k2 pt2} (np : c.pin = none) (hc : X.calm = true) (hN : X.N.Nodup) (h : AX c X W [a, b] 2 m) (hij : i ≠ j := by decide) (hi : X.N[i]? = some x := by rfl) (hj : X.N[j]? = some y := by rfl)
    (hx : X.env.scope.names.lookup x = some .local := by rfl) (hy : X.env.scope.names.lookup y = some .local := by rfl)
    (hw : swappedStores [.Tuple [.Name x px, .Name y py] kt pt] (.Tuple [a, b] k2 pt2) X.env = pure (some [x, y]) := by rfl)
    (hs : swapsWithSole [.Tuple [.Name x px, .Name y py] kt pt] (.Tuple [a, b] k2 pt2) pos.line X.env = pure false := by rfl) :
    SS c X W (.Assign [.Tuple [.Name x px, .Name y py] kt pt] (.Tuple [a, b] k2 pt2) pos) (sPar [i, j] m) := by
  obtain ⟨t, p, r⟩ := h
  refine ⟨_, ps_par hc hN hi hj hij hx hy p hw hs, fun M H σ ρ P D g hm k => r M H σ ρ _ _ _ g hm (fun ps ρ' M' H' vs q l g' f mx => ?_) k.xok⟩
  have lv := mx.length
  rw [l] at lv
  obtain ⟨v, w, rfl⟩ : ∃ v w, vs = [v, w] := by
    match vs, lv with
    | [v, w], _ => exact ⟨v, w, rfl⟩
  obtain ⟨M2, k2, g2⟩ := g'.putAll np (is := [i, j]) mx
  exact ⟨v, w, rfl, k.nx _ M2 H' _ q g2 (f.re k2)⟩
theorem ss_par3 (i j l : Nat) {x y z : Str} {a b d : Expr} {m : MX} {px py pz pt : Pos} {kt k2 pt2} (np : c.pin = none) (hc : X.calm = true) (hN : X.N.Nodup) (h : AX c X W [a, b, d] 3 m) (hij : i ≠ j := by decide) (hil : i ≠ l := by decide) (hjl : j ≠ l := by decide) (hi : X.N[i]? = some x := by rfl) (hj : X.N[j]? = some y := by rfl) (hl : X.N[l]? = some z := by rfl)
    (hx : X.env.scope.names.lookup x = some .local := by rfl) (hy : X.env.scope.names.lookup y = some .local := by rfl) (hz : X.env.scope.names.lookup z = some .local := by rfl)
    (hw : swappedStores [.Tuple [.Name x px, .Name y py, .Name z pz] kt pt] (.Tuple [a, b, d] k2 pt2) X.env = pure (some [x, y, z]) := by rfl)
    (hs : swapsWithSole [.Tuple [.Name x px, .Name y py, .Name z pz] kt pt] (.Tuple [a, b, d] k2 pt2) pos.line X.env = pure false := by rfl) :
    SS c X W (.Assign [.Tuple [.Name x px, .Name y py, .Name z pz] kt pt] (.Tuple [a, b, d] k2 pt2) pos) (sPar [i, j, l] m) := by
  obtain ⟨t, p, r⟩ := h
  refine ⟨_, ps_par3 hc hN hi hj hl hij hil hjl hx hy hz p hw hs, fun M H σ ρ P D g hm k => r M H σ ρ _ _ _ g hm (fun ps ρ' M' H' vs q lp g' f mx => ?_) k.xok⟩
  have lv := mx.length
  rw [lp] at lv
  obtain ⟨v, w, u, rfl⟩ : ∃ v w u, vs = [v, w, u] := by
    match vs, lv with
    | [v, w, u], _ => exact ⟨v, w, u, rfl⟩
  obtain ⟨M2, k2, g2⟩ := g'.putAll np (is := [i, j, l]) mx
  exact ⟨v, w, u, rfl, k.nx _ M2 H' _ q g2 (f.re k2)⟩
/-- x op= e, whole numbers -/
@[simp] def sAug (i : Nat) (f : Int → Int → Int) (m : ME) : MS := fun ρ P => match ρ.get i with
  | some (.int n, .sh) => m ρ (fun d ρ' => asI (fun k => P.nx (ρ'.put i (some (.int (f n k), .sh)))) d) P.ex
  | _ => False
theorem ss_aug (i : Nat) {x : Str} {op : Operator} {f : Int → Int → Int} {pos' : Pos} (ho : PIp X op (ipI f)) (hN : X.N.Nodup) (h : EE c X W e me) (hi : X.N[i]? = some x := by rfl) (hx : Loc X.env.scope x := by first | exact Or.inl rfl | exact Or.inr rfl)
    (hf : X.fn x = true ∨ X.env.scope.names.lookup x = some .local := by first | exact .inl rfl | exact .inr rfl) : SS c X W (.AugAssign (.Name x pos') op e pos) (sAug i f me) := by
  obtain ⟨t, p, r⟩ := h
  refine ⟨_, ps_aug hN hi hx p ho hf, fun M H σ ρ P D g hm k => ?_⟩
  unfold sAug at hm
  split at hm
  · rename_i n e0
    obtain ⟨v, e1, b, rr⟩ := g.look e0
    have rv : v = .int n := rr rfl
    subst rv
    refine ⟨_, e1, r M H σ ρ _ _ _ g hm (fun d ρ' M' H' w q g' f' r' => ?_) k.xok⟩
    cases d with
    | int z =>
      have r' : w = .int z := r'
      subst r'
      exact ⟨n, z, rfl, rfl, k.nx _ M' H' _ q (g'.put (show Rep c M' H' (.int _) (.int _) from rfl)) f'⟩
    | _ => exact q.elim
  · exact hm.elim
/-! ### lists that a name owns, written -/
theorem OwRep.updO {l t : Lab} {o : HO} {d : D} {v : V} (hm : M a = some l) (ne : t ≠ l) (h : OwRep c M H t d v) : OwRep c M (upd H a o) t d v := by
  obtain ⟨b, e, m, n, q⟩ := h
  have hb : b ≠ a := fun z => by rw [z, hm] at m; exact ne (Option.some.inj m).symm
  refine ⟨b, e, m, n, ?_⟩
  cases d with
  | lst xs =>
    obtain ⟨vs, e2, r⟩ := q
    exact ⟨vs, (upd_ne hb).trans e2, r.updO hm⟩
  | dct ks ds =>
    obtain ⟨vs, e2, l, r⟩ := q
    exact ⟨vs, (upd_ne hb).trans e2, l, r.updO hm⟩
  | _ => exact q.elim
/-- slot i's list at a is written -/
theorem Good.write {i : Nat} {d0 d : D} {o : HO} (g : Good c M H σ ρ) (e : ρ.get i = some (d0, .ow)) (hs : σ[i]? = some (some (.ref a))) (ow : OwAt c M (upd H a o) a d) :
    Good c M (upd H a o) σ (ρ.put i (some (d, .ow))) ∧ Fr c M H M (upd H a o) := by
  have q0 := g.ev.at_ i
  rw [e, List.getD_eq_getElem?_getD, hs] at q0
  obtain ⟨⟨b, eb, m, n, o0⟩, qp⟩ := q0
  cases eb
  refine ⟨⟨g.hand.updO m, ⟨by rw [Ev.put_length]; exact g.ev.len, fun j => ?_⟩⟩, ⟨fun b' u h1 h2 _ => ⟨(upd_ne fun z => h2 i (by rw [z]; exact m)).trans h1, rfl⟩⟩⟩
  by_cases hj : j = i
  · subst hj
    rcases Ev.get_put (ρ := ρ) (i := j) (s := some (d, Fl.ow)) with z | z
    · rw [z, List.getD_eq_getElem?_getD, hs]
      exact ⟨⟨a, rfl, m, n, ow⟩, qp⟩
    · rw [z]
      cases σ.getD j none <;> trivial
  · rw [Ev.get_put_ne hj]
    have q := g.ev.at_ j
    generalize ρ.get j = s at q ⊢
    generalize σ.getD j none = u at q ⊢
    cases s with
    | none => cases u <;> trivial
    | some p =>
      obtain ⟨d', fl⟩ := p
      cases u with
      | none => cases fl <;> exact q
      | some w =>
        cases fl with
        | sh => exact Rep.updO m q
        | ow => exact ⟨OwRep.updO m (fun z => by cases z; exact hj rfl) q.1, q.2⟩
        | fz => exact OwRep.updO m (fun z => by cases z) q
theorem Good.ownL {i : Nat} {xs : List D} (g : Good c M H σ ρ) (e : ρ.get i = some (.lst xs, .ow)) : ∃ a vs, σ[i]? = some (some (.ref a)) ∧ H a = some (.lst vs) ∧ RepL c M H xs vs ∧ M a = some (.sl i) ∧ c.hd ≠ some a := by
  have q := g.ev.at_ i
  rw [e] at q
  have hi : i < σ.length := by rw [g.ev.len]; exact Ev.get_lt e
  cases es : σ[i]? with
  | none => exact absurd (List.getElem?_eq_none_iff.mp es) (by omega)
  | some o =>
    have ed : σ.getD i none = o := by rw [List.getD_eq_getElem?_getD, es]; rfl
    rw [ed] at q
    cases o with
    | none => exact q.elim
    | some v =>
      obtain ⟨⟨b, ev, m, n, vs, h1, r⟩, _⟩ := q
      subst ev
      exact ⟨b, vs, rfl, h1, r, m, n⟩
/-- what is at slot i's own list -/
@[simp] def atOw (i : Nat) (ρ : Ev) (Q : List D → Prop) : Prop := match ρ.get i with
  | some (.lst xs, .ow) => Q xs
  | _ => False
theorem atOw_of {i : Nat} {Q : List D → Prop} (h : atOw i ρ Q) : ∃ xs, ρ.get i = some (.lst xs, .ow) ∧ Q xs := by
  unfold atOw at h
  split at h
  · rename_i xs e
    exact ⟨xs, e, h⟩
  · exact h.elim
/-- x.append(e) -/
@[simp] def mApp (i : Nat) (m : ME) : ME := fun ρ Q E => atOw i ρ fun _ => m ρ (fun d ρ' => atOw i ρ' fun xs => xs.length < sizeLine ∧ Q .non (ρ'.put i (some (.lst (xs ++ [d]), .ow)))) E
theorem ee_append (i : Nat) {x : Str} {px pa pc : Pos} (h : EE c X W e me) (hN : X.N[i]? = some x := by rfl) (hv : Vis X.env.scope x := by first | exact Or.inl rfl | exact Or.inr (Or.inl rfl) | exact Or.inr (Or.inr rfl)) (hd : (x == ("__debug__" : Str)) = false := by decide)
    (hcd : (x == ("__classdict__" : Str)) = false := by decide) (hbase : attributeBase (.Name x px) "append" X.env (eval (.Name x px) X.env) = eval (.Name x px) X.env := by rfl)
    (hfew : ((backTo pc (starEach [e] X.env)).all (fun x => !x.1) && (backToKw pc (keywordEach [] X.env)).all (fun x => x.1.isSome)
      && decide ([e].length + ([] : List Keyword).length + (if ([] : List Keyword).isEmpty then 0 else 1) < 30)) = true := by rfl)
    (hline : (pa.endLine == pc.line) = true := by rfl) (hs : starEach [e] X.env = (false, eval e X.env) :: starEach [] X.env := by rfl) :
    EE c X W (.Call (.Attribute (.Name x px) "append" pa) [e] [] pc) (mApp i me) := by
  obtain ⟨t, p, r⟩ := h
  refine ⟨_, pe_bm PySem.F.plainAttrs_list PySem.F.slot_list_append PySem.F.type_list_append mt_append (pe_var hN hv hd hcd) (pa_cons p pa_nil hs) hbase hfew hline hs, fun M H σ ρ Q E QV g hm k xx => ?_⟩
  obtain ⟨xs0, e0, hm⟩ := atOw_of hm
  obtain ⟨a, vs0, hσ, hH0, _⟩ := g.ownL e0
  refine ⟨.ref a, hσ, .inl ⟨rfl, _, SqL.of hH0⟩, ?_⟩
  refine r M H σ ρ _ E _ g hm (fun d ρ' M' H' v q g' f' r' => ?_) xx
  obtain ⟨xs, e1, hl, q⟩ := atOw_of q
  obtain ⟨b, vs, hb, hH, rl, m, n⟩ := g'.ownL e1
  rw [hσ] at hb
  cases hb
  refine ⟨a, vs, v, rfl, rfl, hH, by rw [rl.length]; exact hl, ?_⟩
  obtain ⟨g2, f2⟩ := g'.write (d := .lst (xs ++ [d])) (o := .lst (vs ++ [v])) e1 hσ ⟨vs ++ [v], upd_same, (rl.append (.one r')).updO m⟩
  exact k .non _ M' _ .non q g2 (f'.trans f2) rfl
/-- x[i] = e -/
@[simp] def sSetIx (i : Nat) (mv mi : ME) : MS := fun ρ P => mv ρ (fun d ρ1 => atOw i ρ1 fun _ => mi ρ1 (fun k ρ2 => asI (fun k => atOw i ρ2 fun xs => withO (ixN xs.length k) fun j => P.nx (ρ2.put i (some (.lst (xs.set j d), .ow)))) k) P.ex) P.ex
theorem ss_setix (i : Nat) {x : Str} {ie : Expr} {mi : ME} {px ps : Pos} (h : EE c X W e me) (h2 : EE c X W ie mi) (hN : X.N[i]? = some x := by rfl) (hv : Vis X.env.scope x := by first | exact Or.inl rfl | exact Or.inr (Or.inl rfl) | exact Or.inr (Or.inr rfl)) (hd : (x == ("__debug__" : Str)) = false := by decide)
    (hcd : (x == ("__classdict__" : Str)) = false := by decide)
    (ha : ∀ v, assign (.Subscript (.Name x px) ie ps) X.env v = (do
      let ov ← holding [v] (eval (.Name x px) X.env)
      let iv ← holding [v, ov] (eval ie X.env)
      standAt ps
      holding [v, ov, iv] (setItem ov iv v)
      release [v, ov, iv] []) := by intro _; rfl)
    (hs : swapsWithSole [.Subscript (.Name x px) ie ps] e pos.line X.env = pure false := by rfl) (hw : swappedStores [.Subscript (.Name x px) ie ps] e X.env = pure none := by rfl)
    (h1 : (assignEach [.Subscript (.Name x px) ie ps] X.env).map (·.2) = [assign (.Subscript (.Name x px) ie ps) X.env] := by rfl) : SS c X W (.Assign [.Subscript (.Name x px) ie ps] e pos) (sSetIx i me mi) := by
  obtain ⟨t, p, r⟩ := h
  obtain ⟨t2, p2, r2⟩ := h2
  refine ⟨_, ps_asg p (pg_sub (pe_var hN hv hd hcd) p2 set_list ha) hs hw h1, fun M H σ ρ P D g hm k => r M H σ ρ _ _ _ g hm (fun d ρ1 M1 H1 v q1 g1 f1 r1 => ?_) k.xok⟩
  obtain ⟨xs0, e0, q1⟩ := atOw_of q1
  obtain ⟨a, vs0, hσ, hH0, _⟩ := g1.ownL e0
  refine ⟨.ref a, hσ, ?_⟩
  refine r2 M1 H1 σ ρ1 _ _ _ g1 q1 (fun kk ρ2 M2 H2 w q2 g2 f2 r2' => ?_) (k.xok.fr f1)
  cases kk with
  | int z =>
    have r2' : w = .int z := r2'
    subst r2'
    obtain ⟨xs, e1, q2⟩ := atOw_of q2
    obtain ⟨j, ej, q2⟩ := withO_of q2
    obtain ⟨b, vs, hb, hH, rl, m, n⟩ := g2.ownL e1
    rw [hσ] at hb
    cases hb
    refine ⟨a, vs, z, j, rfl, rfl, hH, by rw [rl.length]; exact ej, ?_⟩
    obtain ⟨g3, f3⟩ := g2.write (d := .lst (xs.set j d)) (o := .lst (vs.set j v)) e1 hσ ⟨vs.set j v, upd_same, (rl.set (r1.fr f2) j).updO m⟩
    exact k.nx _ M2 _ _ q2 g3 ((f1.trans f2).trans f3)
  | _ => exact q2.elim
/-- x = y, y's own list goes over -/
@[simp] def sMov (i j : Nat) : MS := fun ρ P => match ρ.get j with
  | some (d, .ow) => P.nx ((ρ.put j none).put i (some (d, .ow)))
  | _ => False
theorem ss_mov (i j : Nat) {x y : Str} {px py : Pos} (np : c.pin = none) (hN : X.N.Nodup) (hi : X.N[i]? = some x := by rfl) (hj : X.N[j]? = some y := by rfl) (hij : i ≠ j := by decide) (hx : Loc X.env.scope x := by first | exact Or.inl rfl | exact Or.inr rfl)
    (hv : Vis X.env.scope y := by first | exact Or.inl rfl | exact Or.inr (Or.inl rfl) | exact Or.inr (Or.inr rfl)) (hd : (y == ("__debug__" : Str)) = false := by decide)
    (hcd : (y == ("__classdict__" : Str)) = false := by decide) (hs : swapsWith (.Name y py) (some (.Name x px)) pos.line X.env = pure false := by rfl)
    (hf : X.fn x = true ∨ X.env.scope.names.lookup x = some .local := by first | exact .inl rfl | exact .inr rfl) : SS c X W (.Assign [.Name x px] (.Name y py) pos) (sMov i j) := by
  refine ⟨_, ps_set hN hi hx (pe_var hj hv hd hcd) hs hf, fun M H σ ρ P D g hm k => ?_⟩
  unfold sMov at hm
  cases e : ρ.get j with
  | none => rw [e] at hm; exact hm.elim
  | some p =>
    obtain ⟨d, fl⟩ := p
    rw [e] at hm
    cases fl with
    | sh => exact hm.elim
    | fz => exact hm.elim
    | ow =>
      have q := g.ev.at_ j
      rw [e] at q
      obtain ⟨v, hσ, _⟩ := g.look e
      rw [List.getD_eq_getElem?_getD, hσ] at q
      obtain ⟨⟨b, eb, m, n, o⟩, _⟩ := q
      have eb : v = .ref b := eb
      subst eb
      refine ⟨.ref b, hσ, ?_⟩
      -- slot j forgotten
      have g0 : Good c M H σ (ρ.put j none) := ⟨g.hand, by rw [Ev.put_length]; exact g.ev.len, fun l => by
        rcases put_none_get (ρ := ρ) (i := j) (j := l) with z | ⟨_, z⟩
        · rw [z]
          cases σ.getD l none <;> trivial
        · rw [z]; exact g.ev.at_ l⟩
      have g1 : Good c (setM M b (some (.sl i))) H σ (ρ.put j none) := ⟨g0.hand.rel m _, g0.ev.len, fun l => by
        have q := g0.ev.at_ l
        by_cases hl : l = j
        · subst hl
          rcases put_none_get (ρ := ρ) (i := l) (j := l) with z | ⟨z, _⟩
          · rw [z]
            cases σ.getD l none <;> trivial
          · exact absurd rfl z
        · generalize (ρ.put j none).get l = s at q ⊢
          generalize σ.getD l none = u at q ⊢
          cases s with
          | none => cases u <;> trivial
          | some p =>
            obtain ⟨d', fl⟩ := p
            cases u with
            | none => cases fl <;> exact q
            | some w =>
              cases fl with
              | sh => exact Rep.rel m _ q
              | ow => exact ⟨OwRep.rel m (fun z => by cases z; exact hl rfl) _ q.1, q.2⟩
              | fz => exact OwRep.rel m (fun z => by cases z) _ q⟩
      exact k.nx _ _ H _ hm (g1.put_ow np n (o.rel m _)) ⟨fun b' u h1 h2 _ => ⟨h1, setM_ne fun z => h2 j (by rw [z]; exact m)⟩⟩
end
end Lk

namespace Lk
open PySem PySem.Spec PyProof.Rows L2
/-! ## 10. Defs that stand in the text; the hand; the law -/
def HasDef (K : PySem.W.Frag) (mg : Str → Option Value) (x : Str) (st : Stmt) (ps : List Str) : Prop := ∃ (f : Addr) (fd : FuncData), Fun K x x st f fd ∧ mg x = some (.ref f) ∧ Binds K fd ps []
section
variable {P : Program} {w : World} {K : PySem.W.Frag} {mg : Str → Option Value} {base : Heap}
theorem def_at {x : Str} {st : Stmt} {N ps : List Str} {k : Nat} {S : FS} {m : MS} (F : HasDef K mg x st ps) (Sc : FnScope N ps (defScope st))
    (hb : ∀ (f : Addr) (cdv : Value) (A : Around) (outer : List Env) (s : Shared) (H : Hp) (E : XK) (c : Ct) (W : WX), Rm k (A.deeper (envOfC x (defScope st) s.heap.objs.size f cdv)) →
      Fit c (cxOf (L2.CX P w) P w K mg base N x (defScope st) f cdv A outer s H E) → c.pin = none → Takes (cxOf (L2.CX P w) P w K mg base N x (defScope st) f cdv A outer s H E) W →
      SB c (cxOf (L2.CX P w) P w K mg base N x (defScope st) f cdv A outer s H E) W (defBody st) m)
    (hl : ∀ ds Q E, S ds Q E → ds.length = ps.length)
    (hm : ∀ ds Q E, S ds Q E → m (ev0 N ds) { nx := fun _ => Q .non, rt := fun d _ => Q d, ex := fun x _ => E x }) : DefAt P w K mg base (k + 1) x S := by
  obtain ⟨f, fd, F, hg, hbn⟩ := F
  exact ⟨f, fd, ps, def_ok F Sc hl (fun cdv A outer s H E c W => hb f cdv A outer s H E c W) hm, hg, F.kp, hbn⟩
/-! ### the hand -/
structure HdC (cells : List Int) (p r x n : Int) : Prop where
  nn : ∀ z ∈ cells, 0 ≤ z
  len : cells.length ≤ 63
  p0 : 0 ≤ p
  r0 : 0 ≤ r
  x0 : 0 ≤ x
  x1 : x < 2147483648
  n0 : 0 ≤ n
abbrev hdD (cells : List Int) (p r x n : Int) : D := .lst [.lst (cells.map D.int), .int p, .int r, .int x, .int n]
def S_hand : FS := fun ds Q _ => ∃ ns : List Int, ds = [.fl ns] ∧ ns.length ≤ 63 ∧ ∀ cells p r x n, HdC cells p r x n → Q (hdD cells p r x n)
def S_draw : FS := fun ds Q _ => ∃ m : Int, ds = [.ob 0, .int m] ∧ 0 < m ∧ m < 2 ^ 200 ∧ ∀ r : Int, 0 ≤ r → r < m → Q (.int r)
/-- the list of the hand as a tree, at its address -/
theorem hd_at {c : Ct} {M : Own} {H : Hp} {a : Addr} {cells : List Int} {p r x n : Int} {vs : List V} (hc : HdC cells p r x n) (hM : M a = none) (hH : H a = some (.lst vs)) (rl : RepL c M H [.lst (cells.map D.int), .int p, .int r, .int x, .int n] vs) : HandOk M H a := by
  unfold RepL at rl
  obtain ⟨v, r1, rfl, h1, rl⟩ := rl
  unfold Rep at h1
  obtain ⟨cl, cs, rfl, s, rc⟩ := h1
  have ec := rc.ints
  subst ec
  unfold RepL at rl
  obtain ⟨v1, r2, rfl, h1, rl⟩ := rl
  have h1 : v1 = .int p := h1
  subst h1
  unfold RepL at rl
  obtain ⟨v1, r3, rfl, h1, rl⟩ := rl
  have h1 : v1 = .int r := h1
  subst h1
  unfold RepL at rl
  obtain ⟨v1, r4, rfl, h1, rl⟩ := rl
  have h1 : v1 = .int x := h1
  subst h1
  unfold RepL at rl
  obtain ⟨v1, r5, rfl, h1, rl⟩ := rl
  have h1 : v1 = .int n := h1
  subst h1
  unfold RepL at rl
  subst rl
  refine ⟨hM, cl, cells, p, r, x, n, hH, fun z => ?_, s.1, s.2.2, hc.nn, hc.len, hc.p0, hc.r0, hc.x0, hc.x1, hc.n0⟩
  have h2 := s.2.2
  rw [z, hH] at h2
  cases cells with
  | nil => cases h2
  | cons i is => cases h2
theorem draw_at {x : Str} {st : Stmt} {N ps : List Str} {k : Nat} {m : MS} (F : HasDef K mg x st ps) (Sc : FnScope N ps (defScope st)) (hps : ps.length = 2) (hN : 2 ≤ N.length)
    (hb : ∀ (f : Addr) (cdv : Value) (A : Around) (outer : List Env) (s : Shared) (H : Hp) (E : XK) (c : Ct) (W : WX), Rm k (A.deeper (envOfC x (defScope st) s.heap.objs.size f cdv)) →
      Fit c (cxOf (L2.CX P w) P w K mg base N x (defScope st) f cdv A outer s H E) → Takes (cxOf (L2.CX P w) P w K mg base N x (defScope st) f cdv A outer s H E) W →
      SB c (cxOf (L2.CX P w) P w K mg base N x (defScope st) f cdv A outer s H E) W (defBody st) m)
    (hm : ∀ cells p r x n z, HdC cells p r x n → 0 < z → z < 2 ^ 200 → m (some (hdD cells p r x n, .ow) :: some (.int z, .sh) :: List.replicate (N.length - 2) none)
      { nx := fun _ => False, rt := fun d ρ => ∃ y cells p r x n, d = .int y ∧ 0 ≤ y ∧ y < z ∧ HdC cells p r x n ∧ ρ.get 0 = some (hdD cells p r x n, .ow), ex := fun _ _ => False }) : DefAt P w K mg base (k + 1) x S_draw := by
  obtain ⟨f, fd, F, hg, hbn⟩ := F
  refine ⟨f, fd, ps, ?_, hg, F.kp, hbn⟩
  refine fnG F Sc (fun vs H Q E h => ?_) (fun cdv A outer s H vs Q E hr h => ?_)
  · obtain ⟨c, M, ds, Qd, Ed, _, _, _, r, ⟨m, rfl, _⟩, _⟩ := h
    rw [r.length]
    exact hps.symm
  · obtain ⟨c, M, ds, Qd, Ed, ⟨hK, hp⟩, hmg, hd, rl, ⟨z, rfl, hz0, hz1, hq⟩, hQ, hE⟩ := h
    unfold RepL at rl
    obtain ⟨v, r1, rfl, h1, rl⟩ := rl
    obtain ⟨h, hh, rfl⟩ : ∃ a, c.hd = some a ∧ v = .ref a := h1
    unfold RepL at rl
    obtain ⟨v, r1, rfl, h1, rl⟩ := rl
    have h1 : v = .int z := h1
    subst h1
    unfold RepL at rl
    subst rl
    obtain ⟨hMh, cl, cells, p, r, x, n, hH, ne, hMc, hHc, c1, c2, c3, c4, c5, c6, c7⟩ := hd h hh
    -- the hand as a list of the slot 0
    let c' : Ct := { K := c.K, mg := c.mg, hd := none, pin := some h }
    obtain ⟨t, pp, rel⟩ := hb f cdv A outer s H E c' (fun cls d _ H => E cls d H) hr ⟨hK, hmg⟩ (takes_of rfl rfl rfl rfl)
    have Mcl : setM M h (some (.sl 0)) cl = none := (setM_ne ne).trans hMc
    have rc : RepL c' (setM M h (some (.sl 0))) H [.lst (cells.map D.int), .int p, .int r, .int x, .int n] [.ref cl, .int p, .int r, .int x, .int n] := by
      refine .cons ?_ (.cons rfl (.cons rfl (.cons rfl (.cons rfl .nil))))
      unfold Rep
      exact ⟨cl, cells.map V.int, rfl, ⟨Mcl, (fun q => by cases q), hHc⟩, RepL.ofInts _⟩
    have g0 : Good c' (setM M h (some (.sl 0))) H (L2.start N [.ref h, .int z]) (some (hdD cells p r x n, .ow) :: some (.int z, .sh) :: List.replicate (N.length - 2) none) := by
      refine ⟨(fun h e => by cases e), ⟨?_, fun i => ?_⟩⟩
      · show ([V.ref h, V.int z].map some ++ List.replicate (N.length - 2) none).length = _
        simp
      · show SlotRep c' _ H i ((some (V.ref h) :: some (V.int z) :: List.replicate (N.length - 2) none).getD i none) _
        match i with
        | 0 => exact ⟨⟨h, rfl, setM_same, (fun q => by cases q), _, hH, rc⟩, fun _ h' e => by cases e; rfl⟩
        | 1 => exact rfl
        | i + 2 =>
          have z : ∀ (n i : Nat), Ev.get (List.replicate n (none : Slot)) i = none := by
            intro n
            induction n with
            | zero => intro i; rfl
            | succ n ih =>
              intro i
              cases i with
              | zero => rfl
              | succ i => exact ih i
          show SlotRep c' _ H _ ((List.replicate (N.length - 2) none).getD i none) (Ev.get (List.replicate (N.length - 2) (none : Slot)) i)
          rw [z]
          cases (List.replicate (N.length - 2) (none : Option V)).getD i none <;> trivial
    refine ⟨t, pp, rel _ H _ _ _ _ g0 (hm cells p r x n z ⟨c1, c2, c3, c4, c5, c6, c7⟩ hz0 hz1) ⟨fun _ _ _ _ q _ _ => q.elim, fun _ _ _ _ q _ _ => q.elim, fun _ _ _ _ q _ _ => q.elim, fun d ρ' M' H' σ' v q g' f' r' => ?_, fun _ _ _ _ _ _ _ q _ _ _ => q.elim⟩⟩
    obtain ⟨y, cells, p, r, x, n, rfl, hy0, hy1, hc, he⟩ := q
    have r' : v = .int y := r'
    subst r'
    obtain ⟨a, vs, hσ, hHa, rl, hMa, _⟩ := g'.ownL he
    have q := g'.ev.at_ 0
    rw [he, List.getD_eq_getElem?_getD, hσ] at q
    have ea : a = h := by
      have q := q.2 rfl h rfl
      cases q
      rfl
    subst ea
    have hM3 : setM M' a none a = none := setM_same
    have rl2 : RepL c' (setM M' a none) H' [.lst (cells.map D.int), .int p, .int r, .int x, .int n] vs := rl.rel hMa none
    have hok : HandOk (setM M' a none) H' a := hd_at hc hM3 hHa rl2
    refine hQ (.int y) (.int y) (setM M' a none) H' (hq y hy0 hy1) ⟨fun b o e n hh' => ?_⟩ (fun h' e => ?_) rfl
    · have nb : b ≠ a := fun z => by rw [z] at hh'; exact hh' hh
      obtain ⟨e1, e2⟩ := f'.keep b o e (fun i => by rw [setM_ne nb]; exact n i) (fun q => by cases q)
      exact ⟨e1, (setM_ne nb).trans (e2.trans (setM_ne nb))⟩
    · rw [hh] at e
      cases e
      exact hok
/-! ### the law -/
def spLaw (K : PySem.W.Frag) : Sp := fun vs H Q _ => ∃ (a : Addr) (ns : List Int), vs = [.ref a] ∧ SqL K H a (ns.map V.int) ∧ ns.length ≤ 63 ∧ ∀ H', Q (.bl true) H'
def ev1 (N : List Str) : Ev := none :: some (.ob 0, .sh) :: List.replicate (N.length - 2) none
/-- one reading for any place of the hand -/
theorem uni_SB {X : Cx} {W : WX} {ι : Type} {cs : ι → Ct} {st : List Stmt} {m : MS} (h : ∀ i, SB (cs i) X W st m) : ∃ t, PSs X st t ∧ ∀ i, SSrel (cs i) W t m := by
  refine ⟨fun D σ H => ∃ i, Classical.choose (h i) D σ H, ⟨fun pins s σ H D I q => ?_⟩, fun i M H σ ρ P D g hm k => ⟨i, ?_⟩⟩
  · obtain ⟨i, q⟩ := q
    exact (Classical.choose_spec (h i)).1.run pins s σ H D I q
  · exact (Classical.choose_spec (h i)).2 M H σ ρ P D g hm k
theorem law_at {x : Str} {st st0 : Stmt} {rest : List Stmt} {N ps : List Str} {k : Nat} {m0 m : MS} {f : Addr} {fd : FuncData} (F : Fun K x x st f fd) (Sc : FnScope N ps (defScope st)) (hps : ps.length = 1) (hN : 2 ≤ N.length) (hbd : defBody st = st0 :: rest)
    (h0 : ∀ (cdv : Value) (A : Around) (outer : List Env) (s : Shared) (H : Hp) (E : XK) (c : Ct) (W : WX), Rm k (A.deeper (envOfC x (defScope st) s.heap.objs.size f cdv)) →
      Fit c (cxOf (L2.CX P w) P w K mg base N x (defScope st) f cdv A outer s H E) → c.pin = none → Takes (cxOf (L2.CX P w) P w K mg base N x (defScope st) f cdv A outer s H E) W →
      SS c (cxOf (L2.CX P w) P w K mg base N x (defScope st) f cdv A outer s H E) W st0 m0)
    (hb : ∀ (cdv : Value) (A : Around) (outer : List Env) (s : Shared) (H : Hp) (E : XK) (c : Ct) (W : WX), Rm k (A.deeper (envOfC x (defScope st) s.heap.objs.size f cdv)) →
      Fit c (cxOf (L2.CX P w) P w K mg base N x (defScope st) f cdv A outer s H E) → c.pin = none → Takes (cxOf (L2.CX P w) P w K mg base N x (defScope st) f cdv A outer s H E) W →
      SB c (cxOf (L2.CX P w) P w K mg base N x (defScope st) f cdv A outer s H E) W rest m)
    (hm0 : ∀ ns : List Int, ns.length ≤ 63 → m0 (ev0 N [.fl ns]) { nx := fun ρ => ∃ cells p r x n, HdC cells p r x n ∧ ρ.get 1 = some (hdD cells p r x n, .sh) ∧ ρ.length = N.length, rt := fun _ _ => False, ex := fun _ _ => False })
    (hm : m (ev1 N) { nx := fun _ => False, rt := fun d _ => d = .bl true, ex := fun _ _ => False }) : FnG P w K mg base (k + 1) f fd ps (spLaw K) := by
  refine fnG F Sc (fun vs H Q E h => ?_) (fun cdv A outer s H vs Q E hr h => ?_)
  · obtain ⟨a, ns, rfl, _⟩ := h
    exact hps.symm
  · obtain ⟨a, ns, rfl, hS, hlen, hQ⟩ := h
    rw [hbd]
    let c0 : Ct := { K := K, mg := mg, hd := none }
    obtain ⟨t0, p0, r0⟩ := h0 cdv A outer s H E c0 (fun cls d _ H => E cls d H) hr ⟨rfl, rfl⟩ rfl (takes_of rfl rfl rfl rfl)
    obtain ⟨t, p, r⟩ := uni_SB (cs := fun a : Addr => ({ K := K, mg := mg, hd := some a } : Ct)) fun a => hb cdv A outer s H E { K := K, mg := mg, hd := some a } (fun cls d _ H => E cls d H) hr ⟨rfl, rfl⟩ rfl (takes_of rfl rfl rfl rfl)
    refine ⟨_, pss_cons p0 p, r0 (fun _ => none) H _ (ev0 N [.fl ns]) _ _ (start_good (fun h e => by cases e) (.one ?_)) (hm0 ns hlen) ⟨fun ρ' M' H' σ' q g' f' => ?_, fun _ _ _ _ q _ _ => q.elim, fun _ _ _ _ q _ _ => q.elim, fun _ _ _ _ _ _ q _ _ _ => q.elim, fun _ _ _ _ _ _ _ q _ _ _ => q.elim⟩⟩
    · unfold Rep
      rcases hS with hS | hS
      · exact ⟨a, rfl, .inl ⟨rfl, (fun q => by cases q), hS⟩⟩
      · exact ⟨a, rfl, .inr (.inr hS)⟩
    · obtain ⟨cells, p, r2, x, n, hc, he, hlen1⟩ := q
      obtain ⟨v, hσ, _, rr⟩ := g'.look he
      have rr := rr rfl
      unfold Rep at rr
      obtain ⟨b, vs, rfl, ⟨hMb, _, hHb⟩, rl⟩ := rr
      have hok := hd_at hc hMb hHb rl
      have hlen2 := g'.ev.len
      refine r b M' H' σ' (ev1 N) _ _ ⟨(fun h e => by cases e; exact hok), ⟨?_, fun i => ?_⟩⟩ hm ⟨fun _ _ _ _ q _ _ => q.elim, fun _ _ _ _ q _ _ => q.elim, fun _ _ _ _ q _ _ => q.elim, fun d ρ2 M2 H2 σ2 v q g2 f2 r3 => ?_, fun _ _ _ _ _ _ _ q _ _ _ => q.elim⟩
      · rw [hlen2, hlen1]
        show N.length = (List.replicate (N.length - 2) none).length + 1 + 1
        rw [List.length_replicate]
        omega
      · match i with
        | 0 =>
          show SlotRep _ _ _ 0 _ none
          cases σ'.getD 0 none <;> trivial
        | 1 =>
          show SlotRep _ _ _ 1 _ (some (.ob 0, .sh))
          rw [List.getD_eq_getElem?_getD, hσ]
          exact ⟨b, rfl, rfl⟩
        | i + 2 =>
          have z : ∀ (n i : Nat), Ev.get (List.replicate n (none : Slot)) i = none := by
            intro n
            induction n with
            | zero => intro i; rfl
            | succ n ih =>
              intro i
              cases i with
              | zero => rfl
              | succ i => exact ih i
          show SlotRep _ _ _ _ _ (Ev.get (List.replicate (N.length - 2) (none : Slot)) i)
          rw [z]
          cases σ'.getD (i + 2) none <;> trivial
      · subst q
        have r3 : v = .bl true := r3
        subst r3
        exact hQ H2
end
/-- a number that stands at the top -/
theorem glob_int {c : Ct} {X : Cx} {x : Str} {i : Int} {t : Tok} (h : X.mg x = some (.int i t)) : GlobR c X x (.int i) := ⟨.int i, .int i t, h, ⟨t, rfl⟩, fun _ _ => rfl⟩
theorem glob_str {c : Ct} {X : Cx} {x y : Str} {t : Tok} (h : X.mg x = some (.str y t)) : GlobR c X x (.str y) := ⟨.str y, .str y t, h, ⟨t, rfl⟩, fun _ _ => rfl⟩
end Lk

namespace Lk
open PySem PySem.Spec PyProof.Rows L2
/-! ## 11. The rules in short -/
section
variable {c : Ct} {X : Cx} {W : WX} {M M' : Own} {H H' : Hp} {a b e : Expr} {me ma mb : ME} {m : M2} {r : MA} {pos : Pos} {es : List Expr} {p : Pos}
theorem ee_add (hf : Fit c X) (h : E2 c X W a b m) : EE c X W (.BinOp a .Add b pos) (mOp dAdd m) := ee_op opr_add (sp_add hf) h
theorem ef_add (h : E2 c X W a b m) : EF c X W (.BinOp a .Add b pos) (mOp dAddL m) := ef_op op_cat spF_add h
theorem ee_sub (h : E2 c X W a b m) : EE c X W (.BinOp a .Sub b pos) (mOp dSub m) := ee_op op_sub sp_sub h
theorem ee_mul (h : E2 c X W a b m) : EE c X W (.BinOp a .Mult b pos) (mOp dMul m) := ee_op opr_mul sp_mul h
theorem ef_mul (h : E2 c X W a b m) : EF c X W (.BinOp a .Mult b pos) (mOp dMulL m) := ef_op op_rep spF_mul h
theorem ee_floor (h : E2 c X W a b m) : EE c X W (.BinOp a .FloorDiv b pos) (mOp dFloor m) := ee_op op_fdivW sp_floor h
theorem ee_mod (h : E2 c X W a b m) : EE c X W (.BinOp a .Mod b pos) (mOp dMod m) := ee_op op_mod sp_mod h
theorem ee_pow (h : E2 c X W a b m) : EE c X W (.BinOp a .Pow b pos) (mOp dPow m) := ee_op op_pow sp_pow h
theorem ee_lt (h : E2 c X W a b m) : EE c X W (.Compare a [.Lt] [b] pos) (mOp dLt m) := ee_cmp op_lt (sp_cmp _) h (nomark _)
theorem ee_le (h : E2 c X W a b m) : EE c X W (.Compare a [.LtE] [b] pos) (mOp dLe m) := ee_cmp op_le (sp_cmp _) h (nomark _)
theorem ee_gt (h : E2 c X W a b m) : EE c X W (.Compare a [.Gt] [b] pos) (mOp dGt m) := ee_cmp op_gt (sp_cmp _) h (nomark _)
theorem ee_ge (h : E2 c X W a b m) : EE c X W (.Compare a [.GtE] [b] pos) (mOp dGe m) := ee_cmp op_ge (sp_cmp _) h (nomark _)
theorem ee_eq (hf : Fit c X) (hu : X.A.units + 64 < cLine) (h : E2 c X W a b m) : EE c X W (.Compare a [.Eq] [b] pos) (mOp dEq m) := ee_cmp (opr_eq hu) (sp_eq hf) h (nomark _)
theorem ee_ne (hf : Fit c X) (hu : X.A.units + 64 < cLine) (h : E2 c X W a b m) : EE c X W (.Compare a [.NotEq] [b] pos) (mOp dNe m) := ee_cmp (opr_ne hu) (sp_ne hf) h (nomark _)
theorem ee_isN (h : E2 c X W a b m) : EE c X W (.Compare a [.Is] [b] pos) (mOp dIsN m) := ee_cmp op_isN sp_isN h (nomark _)
theorem ee_notN (h : E2 c X W a b m) : EE c X W (.Compare a [.IsNot] [b] pos) (mOp dNotN m) := ee_cmp op_notN sp_notN h (nomark _)
theorem et_lt (h : E2 c X W a b m) : ET c X W (.Compare a [.Lt] [b] pos) (mTest (mOp dLt m)) := et_cmp op_lt (sp_cmp _) h (nomark _)
theorem et_le (h : E2 c X W a b m) : ET c X W (.Compare a [.LtE] [b] pos) (mTest (mOp dLe m)) := et_cmp op_le (sp_cmp _) h (nomark _)
theorem et_gt (h : E2 c X W a b m) : ET c X W (.Compare a [.Gt] [b] pos) (mTest (mOp dGt m)) := et_cmp op_gt (sp_cmp _) h (nomark _)
theorem et_ge (h : E2 c X W a b m) : ET c X W (.Compare a [.GtE] [b] pos) (mTest (mOp dGe m)) := et_cmp op_ge (sp_cmp _) h (nomark _)
theorem et_eq (hf : Fit c X) (hu : X.A.units + 64 < cLine) (h : E2 c X W a b m) : ET c X W (.Compare a [.Eq] [b] pos) (mTest (mOp dEq m)) := et_cmp (opr_eq hu) (sp_eq hf) h (nomark _)
theorem et_ne (hf : Fit c X) (hu : X.A.units + 64 < cLine) (h : E2 c X W a b m) : ET c X W (.Compare a [.NotEq] [b] pos) (mTest (mOp dNe m)) := et_cmp (opr_ne hu) (sp_ne hf) h (nomark _)
theorem et_isN (h : E2 c X W a b m) : ET c X W (.Compare a [.Is] [b] pos) (mTest (mOp dIsN m)) := et_cmp op_isN sp_isN h (nomark _)
theorem et_notN (h : E2 c X W a b m) : ET c X W (.Compare a [.IsNot] [b] pos) (mTest (mOp dNotN m)) := et_cmp op_notN sp_notN h (nomark _)
theorem ch_lele {x y z : Expr} {mc : ME} (ha : EE c X W x ma) (hb : EE c X W y mb) (hc : EE c X W z mc) (hm : lastMarks [.LtE, .LtE] [y, z] = false := by with_unfolding_all rfl) : EE c X W (.Compare x [.LtE, .LtE] [y, z] pos) (mChain dLe dLe ma mb mc) := ee_chain op_le op_le (sp_cmp _) (sp_cmp _) ha hb hc hm
theorem ct_lele {x y z : Expr} {mc : ME} (ha : EE c X W x ma) (hb : EE c X W y mb) (hc : EE c X W z mc) (hm : lastMarks [.LtE, .LtE] [y, z] = false := by with_unfolding_all rfl) : ET c X W (.Compare x [.LtE, .LtE] [y, z] pos) (mTest (mChain dLe dLe ma mb mc)) := et_chain op_le op_le (sp_cmp _) (sp_cmp _) ha hb hc hm
theorem ch_lelt {x y z : Expr} {mc : ME} (ha : EE c X W x ma) (hb : EE c X W y mb) (hc : EE c X W z mc) (hm : lastMarks [.LtE, .Lt] [y, z] = false := by with_unfolding_all rfl) : EE c X W (.Compare x [.LtE, .Lt] [y, z] pos) (mChain dLe dLt ma mb mc) := ee_chain op_le op_lt (sp_cmp _) (sp_cmp _) ha hb hc hm
theorem ct_lelt {x y z : Expr} {mc : ME} (ha : EE c X W x ma) (hb : EE c X W y mb) (hc : EE c X W z mc) (hm : lastMarks [.LtE, .Lt] [y, z] = false := by with_unfolding_all rfl) : ET c X W (.Compare x [.LtE, .Lt] [y, z] pos) (mTest (mChain dLe dLt ma mb mc)) := et_chain op_le op_lt (sp_cmp _) (sp_cmp _) ha hb hc hm
theorem ch_ltle {x y z : Expr} {mc : ME} (ha : EE c X W x ma) (hb : EE c X W y mb) (hc : EE c X W z mc) (hm : lastMarks [.Lt, .LtE] [y, z] = false := by with_unfolding_all rfl) : EE c X W (.Compare x [.Lt, .LtE] [y, z] pos) (mChain dLt dLe ma mb mc) := ee_chain op_lt op_le (sp_cmp _) (sp_cmp _) ha hb hc hm
theorem ct_ltle {x y z : Expr} {mc : ME} (ha : EE c X W x ma) (hb : EE c X W y mb) (hc : EE c X W z mc) (hm : lastMarks [.Lt, .LtE] [y, z] = false := by with_unfolding_all rfl) : ET c X W (.Compare x [.Lt, .LtE] [y, z] pos) (mTest (mChain dLt dLe ma mb mc)) := et_chain op_lt op_le (sp_cmp _) (sp_cmp _) ha hb hc hm

/-- a test's value is True or False -/
theorem tru_test {t : TE} (h : TErel c W t me) : TTrel c W (tTest t) (mTest me) := test_rel h

section calls
variable (hs : starEach (e :: es) X.env = (false, eval e X.env) :: starEach es X.env := by rfl)
theorem ee_len (hf : Fit c X) (hm : X.mg "len" = none) (ha : AB c X W [e] r) (hg : Gl X "len" := by rfl) (he : starEach [e] X.env = (false, eval e X.env) :: starEach [] X.env := by rfl) (hpl : (backTo pos (starEach [] X.env)).any (·.1) = false := by rfl) : EE c X W (.Call (.Name "len" p) [e] [] pos) (mCB dLen r) :=
  ee_B clr_len (sp_len hf) hm ha PySem.boot_len hg (by decide) (by decide) he hpl
theorem ee_abs (hm : X.mg "abs" = none) (ha : AB c X W [e] r) (hg : Gl X "abs" := by rfl) (he : starEach [e] X.env = (false, eval e X.env) :: starEach [] X.env := by rfl) (hpl : (backTo pos (starEach [] X.env)).any (·.1) = false := by rfl) : EE c X W (.Call (.Name "abs" p) [e] [] pos) (mCB dAbs r) :=
  ee_B call_abs sp_abs hm ha (by decide +kernel) hg (by decide) (by decide) he hpl
theorem ee_intc (hm : X.mg "int" = none) (ha : AB c X W [e] r) (hg : Gl X "int" := by rfl) (he : starEach [e] X.env = (false, eval e X.env) :: starEach [] X.env := by rfl) (hpl : (backTo pos (starEach [] X.env)).any (·.1) = false := by rfl) : EE c X W (.Call (.Name "int" p) [e] [] pos) (mCB dInt r) :=
  ee_T call_int1 sp_int hm ha (by decide +kernel) hg (by decide) (by decide) he hpl
theorem ee_sum (hf : Fit c X) (hc : X.calm = true) (hm : X.mg "sum" = none) (ha : AB c X W [e] r) (hg : Gl X "sum" := by rfl) (he : starEach [e] X.env = (false, eval e X.env) :: starEach [] X.env := by rfl) (hpl : (backTo pos (starEach [] X.env)).any (·.1) = false := by rfl) : EE c X W (.Call (.Name "sum" p) [e] [] pos) (mCB dSum r) :=
  ee_B (cr_sum hc) (sp_sum hf) hm ha (by decide +kernel) hg (by decide) (by decide) he hpl
theorem ee_all (hf : Fit c X) (hc : X.calm = true) (hm : X.mg "all" = none) (ha : AB c X W [e] r) (hg : Gl X "all" := by rfl) (he : starEach [e] X.env = (false, eval e X.env) :: starEach [] X.env := by rfl) (hpl : (backTo pos (starEach [] X.env)).any (·.1) = false := by rfl) : EE c X W (.Call (.Name "all" p) [e] [] pos) (mCB dAll r) :=
  ee_B (cr_all hc) (sp_all hf) hm ha (by decide +kernel) hg (by decide) (by decide) he hpl
theorem ee_any (hf : Fit c X) (hc : X.calm = true) (hm : X.mg "any" = none) (ha : AB c X W [e] r) (hg : Gl X "any" := by rfl) (he : starEach [e] X.env = (false, eval e X.env) :: starEach [] X.env := by rfl) (hpl : (backTo pos (starEach [] X.env)).any (·.1) = false := by rfl) : EE c X W (.Call (.Name "any" p) [e] [] pos) (mCB dAny r) :=
  ee_B (cr_any hc) (sp_any hf) hm ha (by decide +kernel) hg (by decide) (by decide) he hpl
theorem ee_tuple (hf : Fit c X) (hm : X.mg "tuple" = none) (ha : AB c X W [e] r) (hg : Gl X "tuple" := by rfl) (he : starEach [e] X.env = (false, eval e X.env) :: starEach [] X.env := by rfl) (hpl : (backTo pos (starEach [] X.env)).any (·.1) = false := by rfl) : EE c X W (.Call (.Name "tuple" p) [e] [] pos) (mCB dTuple r) :=
  ee_T call_tuple_of (sp_tuple hf) hm ha (by decide +kernel) hg (by decide) (by decide) he hpl
theorem ef_list (hf : Fit c X) (hm : X.mg "list" = none) (ha : AB c X W [e] r) (hg : Gl X "list" := by rfl) (he : starEach [e] X.env = (false, eval e X.env) :: starEach [] X.env := by rfl) (hpl : (backTo pos (starEach [] X.env)).any (·.1) = false := by rfl) : EF c X W (.Call (.Name "list" p) [e] [] pos) (mCB dList r) :=
  ef_T call_list_of (spF_list hf) hm ha (by decide +kernel) hg (by decide) (by decide) he hpl
theorem ef_sortI (hf : Fit c X) (hm : X.mg "sorted" = none) (ha : AB c X W [e] r) (hg : Gl X "sorted" := by rfl) (he : starEach [e] X.env = (false, eval e X.env) :: starEach [] X.env := by rfl) (hpl : (backTo pos (starEach [] X.env)).any (·.1) = false := by rfl) : EF c X W (.Call (.Name "sorted" p) [e] [] pos) (mCB dSortI r) :=
  ef_B cr_sortedI (spF_sortI hf) hm ha (by decide +kernel) hg (by decide) (by decide) he hpl
theorem ee_minL (hf : Fit c X) (hc : X.calm = true) (hm : X.mg "min" = none) (ha : AB c X W [e] r) (hg : Gl X "min" := by rfl) (he : starEach [e] X.env = (false, eval e X.env) :: starEach [] X.env := by rfl) (hpl : (backTo pos (starEach [] X.env)).any (·.1) = false := by rfl) : EE c X W (.Call (.Name "min" p) [e] [] pos) (mCB dMinL r) :=
  ee_B (cr_min hc) (sp_minL hf) hm ha (by decide +kernel) hg (by decide) (by decide) he hpl
theorem ee_maxL (hf : Fit c X) (hc : X.calm = true) (hm : X.mg "max" = none) (ha : AB c X W [e] r) (hg : Gl X "max" := by rfl) (he : starEach [e] X.env = (false, eval e X.env) :: starEach [] X.env := by rfl) (hpl : (backTo pos (starEach [] X.env)).any (·.1) = false := by rfl) : EE c X W (.Call (.Name "max" p) [e] [] pos) (mCB dMaxL r) :=
  ee_B (cr_max hc) (sp_maxL hf) hm ha (by decide +kernel) hg (by decide) (by decide) he hpl
theorem ee_strI (hm : X.mg "str" = none) (ha : AB c X W [e] r) (hg : Gl X "str" := by rfl) (he : starEach [e] X.env = (false, eval e X.env) :: starEach [] X.env := by rfl) (hpl : (backTo pos (starEach [] X.env)).any (·.1) = false := by rfl) : EE c X W (.Call (.Name "str" p) [e] [] pos) (mCB dStrI r) :=
  ee_T call_str_int sp_strI hm ha (by decide +kernel) hg (by decide) (by decide) he hpl
theorem ee_min2 (hc : X.calm = true) (hm : X.mg "min" = none) (ha : AB c X W [a, b] r) (hg : Gl X "min" := by rfl) (he : starEach [a, b] X.env = (false, eval a X.env) :: starEach [b] X.env := by rfl) (hpl : (backTo pos (starEach [b] X.env)).any (·.1) = false := by rfl) : EE c X W (.Call (.Name "min" p) [a, b] [] pos) (mCB dMin2 r) :=
  ee_B (call_min2 hc) sp_min2 hm ha (by decide +kernel) hg (by decide) (by decide) he hpl
theorem ee_max2 (hc : X.calm = true) (hm : X.mg "max" = none) (ha : AB c X W [a, b] r) (hg : Gl X "max" := by rfl) (he : starEach [a, b] X.env = (false, eval a X.env) :: starEach [b] X.env := by rfl) (hpl : (backTo pos (starEach [b] X.env)).any (·.1) = false := by rfl) : EE c X W (.Call (.Name "max" p) [a, b] [] pos) (mCB dMax2 r) :=
  ee_B (call_max2 hc) sp_max2 hm ha (by decide +kernel) hg (by decide) (by decide) he hpl
theorem ee_isi (hf : Fit c X) (hm : X.mg "isinstance" = none) (ha : AB c X W [a, b] r) (hg : Gl X "isinstance" := by rfl) (he : starEach [a, b] X.env = (false, eval a X.env) :: starEach [b] X.env := by rfl) (hpl : (backTo pos (starEach [b] X.env)).any (·.1) = false := by rfl) : EE c X W (.Call (.Name "isinstance" p) [a, b] [] pos) (mCB dIsi r) :=
  ee_B call_isi (sp_isi hf) hm ha (by decide +kernel) hg (by decide) (by decide) he hpl
end calls
/-! ### isinstance(x, (T1, T2, ..)) -/
def TYs (X : Cx) (es : List Expr) (ns : List String) : Prop := PA X es fun σ H Q => Q (ns.map V.ty) H
theorem tys_nil : TYs X [] [] := ⟨fun pos pins s σ H Q I h => (pa_nil (X := X)).run pos pins s σ H Q I h⟩
theorem tys_cons {x : Str} {n : String} {ns : List String} (hm : X.mg x = none) (h : TYs X es ns) (hv : bootBuiltins x = some (.type n) := by decide +kernel) (hg : Gl X x := by rfl) (hn : x ≠ "__name__" := by decide) (hd : (x == ("__debug__" : Str)) = false := by decide)
    (hs : starEach (.Name x p :: es) X.env = (false, eval (.Name x p) X.env) :: starEach es X.env := by rfl) : TYs X (.Name x p :: es) (n :: ns) := by
  have q := pa_cons (pe_bltn (v := .ty n) (pos := p) hg hm hv rfl hn hd) h hs
  exact ⟨fun pos pins s σ H Q I h => q.run pos pins s σ H Q I h⟩
@[simp] def mIsiT (ns : List String) (m : ME) : ME := fun ρ Q E => m ρ (fun d ρ' => withO d.tyN fun t => Q (.bl (ns.any fun n => isTyB t n)) ρ') E
theorem kitAny_all {K : PySem.W.Frag} {t : String} (ht : t ∈ tyNames) : ∀ {ns : List String}, (∀ n ∈ ns, n ∈ tyNames) → PySem.W.kitAny K (.type t) (ns.map Value.type) = some (ns.any fun n => isTyB t n)
  | [], _ => rfl
  | n :: ns, h => by
    have e := kit_ty (K := K) (kitB_all t ht n (h n List.mem_cons_self))
    have ih := kitAny_all (K := K) ht (ns := ns) fun m hm => h m (List.mem_cons_of_mem _ hm)
    show PySem.W.kitAny K (.type t) (Value.type n :: ns.map Value.type) = _
    refine kitAny_cons e (fun q => ?_) fun q => ?_
    · rw [ih, List.any_cons, q, Bool.false_or]
    · rw [List.any_cons, q, Bool.true_or]
theorem ee_isiT {ts : List Expr} {kk : Nat} {tp : Pos} {ns : List String} (hf : Fit c X) (hm : X.mg "isinstance" = none) (h : EB c X W e me) (ht : TYs X ts ns) (hns : ∀ n ∈ ns, n ∈ tyNames := by decide) (hl : ns.length ≤ sizeLine := by decide) (hg : Gl X "isinstance" := by rfl)
    (he : starEach [e, .Tuple ts kk tp] X.env = (false, eval e X.env) :: starEach [.Tuple ts kk tp] X.env := by rfl) (he2 : starEach [.Tuple ts kk tp] X.env = (false, eval (.Tuple ts kk tp) X.env) :: starEach [] X.env := by rfl) (hpl : (backTo pos (starEach [.Tuple ts kk tp] X.env)).any (·.1) = false := by rfl) :
    EE c X W (.Call (.Name "isinstance" p) [e, .Tuple ts kk tp] [] pos) (mIsiT ns me) := by
  obtain ⟨t, pp, r⟩ := h
  refine ⟨_, pe_callB call_isiT hg hm (by decide +kernel) (pa_cons pp (pa_cons (pe_tup ht) pa_nil he2) he) (by decide) (by decide) he hpl, fun M H σ ρ Q E QV g hm k x => r M H σ ρ _ E _ g hm (fun d ρ' M' H' v q g' f' rr => ?_) x⟩
  obtain ⟨t, et, q⟩ := withO_of q
  refine ⟨by rw [List.length_map]; exact hl, fun l hl => ?_⟩
  have fa : FrA M' H' (setM M' l none) (upd H' l (.tup (ns.map V.ty))) := FrA.new hl
  have kc : ∀ ns : List String, Paired ClsV (ns.map V.ty) (ns.map Value.type) := fun ns => by
    induction ns with
    | nil => exact .nil
    | cons n ns ih => exact .cons (.ty n) ih
  refine ⟨v, l, ns.map V.ty, .type t, ns.map Value.type, _, rfl, upd_same, kc ns, ?_, kitAny_all (D.tyN_mem et) hns, k _ ρ' (setM M' l none) _ _ q (g'.frA fa) (f'.trans fa.fr) rfl⟩
  have rr2 : BRep c (setM M' l none) (upd H' l (.tup (ns.map V.ty))) d v := by
    rcases rr with rr | ⟨tt, rr⟩
    · exact .inl (rr.fr fa.fr)
    · exact .inr ⟨tt, rr.frA fa⟩
  exact hf.K ▸ rr2.tyx et
end
end Lk

namespace Lk
open PySem PySem.Spec PyProof.Rows L2
/-! ## 12. A name walked; blocks -/
section
variable {c : Ct} {X : Cx} {W : WX} {M M' : Own} {H H' : Hp} {tg : Expr}
theorem takes_no : Takes X WNo := fun _ _ ⟨_, _, _, _, _, _, _, _, _, _, _, _, _, _, _, _, w⟩ => w.elim
theorem Fit.blk {b : Bk} {scope : Scope} (hf : Fit c X) : Fit c (bk X scope b) := ⟨hf.1, hf.2⟩
def PI.or' {e : Expr} {w1 w2 : TI} (h1 : PI X tg e w1) (h2 : PI X tg e w2) : PI X tg e (fun σ H R => w1 σ H R ∨ w2 σ H R) := ⟨fun pins s σ H R I h => by
  rcases h with h | h
  · exact h1.run pins s σ H R I h
  · exact h2.run pins s σ H R I h⟩
def strL (s : Str) : List D := s.cps.toList.map fun ch => D.str ⟨#[ch]⟩
theorem itr_str {s : Str} : ItR c M H (Its s) (strL s) := fun M' H' f _ => by
  have hlen : (strL s).length = s.cps.size := by unfold strL; rw [List.length_map, Array.length_toList]
  refine ⟨fun i d hd => ?_, ?_⟩
  · unfold strL at hd
    rw [List.getElem?_map, Array.getElem?_toList] at hd
    cases e : s.cps[i]? with
    | none => rw [e] at hd; cases hd
    | some ch =>
      rw [e] at hd
      cases hd
      have hi : i < s.cps.size := (Array.getElem?_eq_some_iff.mp e).1
      refine ⟨hi, fun x Hy y => ?_⟩
      obtain ⟨rfl, c', e', y⟩ := y
      rw [e] at e'
      cases e'
      subst y
      exact ⟨M', .refl, rfl⟩
  · show s.cps.size ≤ _
    rw [hlen]
    exact Nat.le_refl _
/-- a list, a tuple, the signs of a text -/
@[simp] def asSq (Q : List D → Prop) : D → Prop
  | .lst xs => Q xs
  | .tup xs => Q xs
  | .str s => Q (strL s)
  | _ => False
@[simp] def iVar (i : Nat) : MI := fun ρ Q _ => match ρ.get i with
  | some (d, .sh) => asSq (fun xs => Q xs ρ) d
  | some (.lst xs, .ow) => Q xs (ρ.put i (some (.lst xs, .sh)))
  | _ => False
@[simp] def iBor (i : Nat) : MI := fun ρ Q _ => match ρ.get i with
  | some (d, .sh) => asSq (fun xs => Q xs ρ) d
  | some (.lst xs, _) => Q xs ρ
  | _ => False
@[simp] def asSt (Q : List D → Prop) : D → Prop
  | .str s => Q (strL s)
  | _ => False
@[simp] def iStr' (m : ME) : MI := fun ρ Q E => m ρ (fun d ρ' => asSt (fun xs => Q xs ρ') d) E
theorem si_str {e : Expr} {m : ME} (h : EE c X W e m) : SI c X W tg e (iStr' m) := by
  obtain ⟨t, p, r⟩ := h
  refine ⟨_, pi_str p, fun M H σ ρ Q E R g hm k x => r M H σ ρ _ E _ g hm (fun d ρ' M' H' v q g' f rr => ?_) x⟩
  cases d with
  | str s =>
    have rr : v = .str s := rr
    subst rr
    exact ⟨s, rfl, k _ ρ' M' H' _ q g' f itr_str⟩
  | _ => exact q.elim
theorem si_var (i : Nat) {x : Str} {pos : Pos} (hf : Fit c X) (hN : X.N[i]? = some x := by rfl) (hv : Vis X.env.scope x := by first | exact Or.inl rfl | exact Or.inr (Or.inl rfl) | exact Or.inr (Or.inr rfl)) (hd : (x == ("__debug__" : Str)) = false := by decide)
    (hcd : (x == ("__classdict__" : Str)) = false := by decide) : SI c X W tg (.Name x pos) (iVar i) := by
  obtain ⟨w1, p1, r1⟩ := si_list (tg := tg) hf (ee_var (c := c) (X := X) (W := W) (pos := pos) i hN hv hd hcd)
  obtain ⟨w2, p2, r2⟩ := si_tup (tg := tg) hf (ee_var (c := c) (X := X) (W := W) (pos := pos) i hN hv hd hcd)
  obtain ⟨w3, p3, r3⟩ := si_str (tg := tg) (ee_var (c := c) (X := X) (W := W) (pos := pos) i hN hv hd hcd)
  refine ⟨_, PI.or' (PI.or' p1 p2) p3, fun M H σ ρ Q E R g hm k x => ?_⟩
  unfold iVar at hm
  split at hm
  · rename_i d e0
    cases d with
    | lst xs => exact .inl (.inl (r1 M H σ ρ Q E R g (by unfold iLst mVar; rw [e0]; exact hm) k x))
    | tup xs => exact .inl (.inr (r2 M H σ ρ Q E R g (by unfold iTpl mVar; rw [e0]; exact hm) k x))
    | str s => exact .inr (r3 M H σ ρ Q E R g (by unfold iStr' mVar; rw [e0]; exact hm) k x)
    | _ => exact hm.elim
  · rename_i xs e0
    exact .inl (.inl (r1 M H σ ρ Q E R g (by unfold iLst mVar; rw [e0]; exact hm) k x))
  · exact hm.elim
theorem sib_name (i : Nat) {x : Str} {pos : Pos} (hf : Fit c X) (hN : X.N[i]? = some x := by rfl) (hv : Vis X.env.scope x := by first | exact Or.inl rfl | exact Or.inr (Or.inl rfl) | exact Or.inr (Or.inr rfl)) (hd : (x == ("__debug__" : Str)) = false := by decide)
    (hcd : (x == ("__classdict__" : Str)) = false := by decide) : SIb c X W tg (.Name x pos) (iBor i) := by
  obtain ⟨w1, p1, r1⟩ := sib_var (tg := tg) hf (eb_var (c := c) (X := X) (W := W) (pos := pos) i hN hv hd hcd)
  obtain ⟨w2, p2, r2⟩ := (si_tup (tg := tg) hf (ee_var (c := c) (X := X) (W := W) (pos := pos) i hN hv hd hcd)).sib
  obtain ⟨w3, p3, r3⟩ := (si_str (tg := tg) (ee_var (c := c) (X := X) (W := W) (pos := pos) i hN hv hd hcd)).sib
  refine ⟨_, PI.or' (PI.or' p1 p2) p3, fun M H σ ρ Q E R g hm k x => ?_⟩
  unfold iBor at hm
  split at hm
  · rename_i d e0
    cases d with
    | lst xs => exact .inl (.inl (r1 M H σ ρ Q E R g (by unfold iLst mBor; rw [e0]; exact hm) k x))
    | tup xs => exact .inl (.inr (r2 M H σ ρ Q E R g (by unfold iTpl mVar; rw [e0]; exact hm) k x))
    | str s => exact .inr (r3 M H σ ρ Q E R g (by unfold iStr' mVar; rw [e0]; exact hm) k x)
    | _ => exact hm.elim
  · rename_i xs fl e0
    exact .inl (.inl (r1 M H σ ρ Q E R g (by unfold iLst mBor; rw [e0]; exact hm) k x))
  · exact hm.elim
end
end Lk

namespace Lk
open PySem PySem.Spec PyProof.Rows L2
/-! ## 13. Own exceptions -/
abbrev bmVE : List Value := [.type "ValueError", .type "Exception", .type "BaseException", .type "object"]
structure ExCls (K : PySem.W.Frag) (C : Addr) : Prop where
  exc : PySem.W.excIn K C bmVE "ValueError.__new__" = true
  kp : PySem.W.keepIn K (.ref C) = true
  sub : PySem.W.subIn K (.ref C) (.type "BaseException") = some true
  ty : PySem.W.typeIn K (.ref C) = some (.type "type")
def HasExc (K : PySem.W.Frag) (mg : Str → Option Value) (x : Str) : Prop := ∃ C, mg x = some (.ref C) ∧ ExCls K C
section
variable {c : Ct} {X : Cx} {W : WX} {M M' : Own} {H H' : Hp} {σ : L2.St} {ρ : Ev} {x : Str} {p pos pos' : Pos}
/-- X() -/
theorem pmk_own0 {C : Addr} (q : ExCls X.K C) (gC : X.mg x = some (.ref C)) (hg : Gl X x) (hdb : (x == ("__debug__" : Str)) = false := by decide) : PMk X (.Call (.Name x p) [] [] pos) (fun _ H Q => Q (.ref C) none H) := by
  intro pins s σ H Q I h
  refine wpAny_Call_Name_kw (ld_glob I hg gC (PySem.W.callWith_K0 (first := []) I.kIn q.kp ?_) hdb)
  obtain ⟨bm, N, nm, qn, bs, hdct, sn, sub, ab, col, dd, k0, k1, k2, k3, k5, mN, hC, hN, hni, T⟩ := exc_obj I.kIn q.exc
  refine wpAny_call_exc_subT (rest := []) PySem.F.excBase_ValueError T hC hN hni (fun h' e hm => ?_) (Nat.zero_le _)
  exact mk_of I hm (raises_own q.sub q.ty) h (I.hok.gone hm.new)
@[simp] def sRaise (x : Str) : MS := fun ρ P => P.ex { name := x } ρ
theorem ss_raise (hf : Fit c X) (tk : Takes X W) (q : HasExc X.K X.mg x) (hc : X.calm = true := by rfl) (hg : Gl X x := by rfl) (hdb : (x == ("__debug__" : Str)) = false := by decide) : SS c X W (.Raise (some (.Call (.Name x p) [] [] pos)) none pos') (sRaise x) := by
  obtain ⟨C, hm, q⟩ := q
  refine ⟨_, ps_raise hc tk (pmk_own0 q hm hg hdb), fun M H σ ρ P D g hq k => ?_⟩
  exact k.ex _ ρ (.ref C) none M H σ hq g .refl ⟨C, hf.mg ▸ hm, rfl, rfl⟩
end
end Lk

namespace Lk
open PySem PySem.Spec PyProof.Rows L2
/-! ## 14. The plain side: loops -/
theorem forL_ind {bd : MG} {body : MS} {P : Po} (I : List D → Ev → Prop) (h0 : ∀ ρ, I [] ρ → P.nx ρ)
    (h1 : ∀ x xs ρ (F : Ev → Prop), I (x :: xs) ρ → (∀ ρ', I xs ρ' → F ρ') → bd x ρ fun ρ2 => body ρ2 { P with nx := F, ct := F, bk := P.nx }) : ∀ xs ρ, I xs ρ → forL bd body xs ρ P
  | [], ρ, h => h0 ρ h
  | x :: xs, ρ, h => h1 x xs ρ _ h fun ρ' h' => forL_ind I h0 h1 xs ρ' h'
/-- by places -/
theorem forL_ix {bd : MG} {body : MS} {P : Po} (xs : List D) (I : Nat → Ev → Prop) (h0 : ∀ ρ, I xs.length ρ → P.nx ρ)
    (h1 : ∀ i x ρ (F : Ev → Prop), i < xs.length → xs[i]? = some x → I i ρ → (∀ ρ', I (i + 1) ρ' → F ρ') → bd x ρ fun ρ2 => body ρ2 { P with nx := F, ct := F, bk := P.nx }) (ρ : Ev) (hI : I 0 ρ) : forL bd body xs ρ P := by
  refine forL_ind (fun ys ρ => ∃ i, i ≤ xs.length ∧ ys = xs.drop i ∧ I i ρ) (fun ρ h => ?_) (fun x ys ρ F h hF => ?_) xs ρ ⟨0, Nat.zero_le _, rfl, hI⟩
  · obtain ⟨i, hi, e, hI⟩ := h
    have : i = xs.length := by
      have := congrArg List.length e
      rw [List.length_drop] at this
      simp at this
      omega
    subst this
    exact h0 ρ hI
  · obtain ⟨i, hi, e, hI⟩ := h
    have hl : i < xs.length := by
      have := congrArg List.length e
      rw [List.length_drop] at this
      simp at this
      omega
    rw [List.drop_eq_getElem_cons hl] at e
    cases e
    exact h1 i _ ρ F hl (List.getElem?_eq_getElem hl) hI fun ρ' h' => hF ρ' ⟨i + 1, hl, rfl, h'⟩
theorem rangeL_length (lo : Int) (n : Nat) : (rangeL lo n).length = n := by unfold rangeL; rw [List.length_map, List.length_range]
theorem rangeL_get {lo : Int} {n i : Nat} {x : D} (h : (rangeL lo n)[i]? = some x) : x = .int (lo + (i : Int)) := by
  unfold rangeL at h
  rw [List.getElem?_map] at h
  cases e : (List.range n)[i]? with
  | none => rw [e] at h; cases h
  | some j =>
    rw [e] at h
    cases h
    have := (List.getElem?_eq_some_iff.mp e).2
    rw [List.getElem_range] at this
    rw [this]
theorem forL_range {bd : MG} {body : MS} {P : Po} (lo : Int) (n : Nat) (I : Nat → Ev → Prop) (h0 : ∀ ρ, I n ρ → P.nx ρ)
    (h1 : ∀ i ρ (F : Ev → Prop), i < n → I i ρ → (∀ ρ', I (i + 1) ρ' → F ρ') → bd (.int (lo + (i : Int))) ρ fun ρ2 => body ρ2 { P with nx := F, ct := F, bk := P.nx }) (ρ : Ev) (hI : I 0 ρ) : forL bd body (rangeL lo n) ρ P := by
  refine forL_ix (rangeL lo n) I (fun ρ h => h0 ρ (by rw [rangeL_length] at h; exact h)) (fun i x ρ F hi hx hI hF => ?_) ρ hI
  rw [rangeL_get hx]
  exact h1 i ρ F (by rw [rangeL_length] at hi; exact hi) hI hF
/-- a while, by a measure -/
theorem while_ind {t : MT} {body : MS} {P : Po} (I : Nat → Ev → Prop) (h : ∀ n ρ (F : Ev → Prop), I n ρ → (∀ m ρ', m < n → I m ρ' → F ρ') →
    t ρ (fun b ρ1 => if b = true then body ρ1 { P with nx := F, ct := F, bk := P.nx } else P.nx ρ1) P.ex) (n : Nat) (ρ : Ev) (hI : I n ρ) : sWhile t body ρ P := by
  refine ⟨n + 1, ?_⟩
  have key : ∀ n m ρ, m ≤ n → I m ρ → whileN t body (n + 1) ρ P := by
    intro n
    induction n with
    | zero =>
      intro m ρ hm hI
      refine h m ρ _ hI fun k ρ' hk _ => by omega
    | succ n ih =>
      intro m ρ hm hI
      exact h m ρ _ hI fun k ρ' hk hI' => ih k ρ' (by omega) hI'
  exact key n n ρ (Nat.le_refl _) hI
/-! ### comprehensions -/
theorem lc_ind {bd : MG} {tt : MT} {me : ME} {ρ : Ev} {k : List D → Prop} (I : List D → List D → Prop) (h0 : ∀ acc, I [] acc → k acc)
    (h1 : ∀ x xs acc (F : List D → Prop), I (x :: xs) acc → (∀ acc', I xs acc' → F acc') → bd x ρ fun ρ2 => tt ρ2 (fun b ρ3 => if b = true then me ρ3 (fun d _ => acc.length < sizeLine ∧ F (acc ++ [d])) noX else F acc) noX) :
    ∀ xs acc, I xs acc → lcGo bd tt me xs acc ρ k
  | [], acc, h => h0 acc h
  | x :: xs, acc, h => h1 x xs acc _ h fun acc' h' => lc_ind I h0 h1 xs acc' h'
/-- .. each item by a function, filtered -/
theorem lc_fm {bd : MG} {tt : MT} {me : ME} {ρ : Ev} {k : List D → Prop} (p : D → Bool) (g : D → D) (xs : List D) (hl : xs.length ≤ sizeLine)
    (h : ∀ x ∈ xs, ∀ (R : D → Prop) (F : Prop), (p x = true → R (g x)) → (p x = false → F) → bd x ρ fun ρ2 => tt ρ2 (fun b ρ3 => if b = true then me ρ3 (fun d _ => R d) noX else F) noX) (hk : k ((xs.filter p).map g)) : lcGo bd tt me xs [] ρ k := by
  refine lc_ind (fun ys acc => ∃ i, i ≤ xs.length ∧ ys = xs.drop i ∧ acc = ((xs.take i).filter p).map g) (fun acc h => ?_) (fun x ys acc F h2 hF => ?_) xs [] ⟨0, Nat.zero_le _, rfl, rfl⟩
  · obtain ⟨i, hi, e, rfl⟩ := h
    have : i = xs.length := by
      have := congrArg List.length e
      rw [List.length_drop] at this
      simp at this
      omega
    subst this
    rw [List.take_length]
    exact hk
  · obtain ⟨i, hi, e, rfl⟩ := h2
    have hl2 : i < xs.length := by
      have := congrArg List.length e
      rw [List.length_drop] at this
      simp at this
      omega
    rw [List.drop_eq_getElem_cons hl2] at e
    cases e
    have tk : xs.take (i + 1) = xs.take i ++ [xs[i]] := by rw [List.take_succ, List.getElem?_eq_getElem hl2]; rfl
    refine h xs[i] (List.getElem_mem _) (fun d => (((xs.take i).filter p).map g).length < sizeLine ∧ F (((xs.take i).filter p).map g ++ [d])) _ (fun hp => ⟨?_, hF _ ⟨i + 1, hl2, rfl, ?_⟩⟩) fun hp => hF _ ⟨i + 1, hl2, rfl, ?_⟩
    · rw [List.length_map]
      have a1 := List.length_filter_le p (xs.take i)
      rw [List.length_take] at a1
      omega
    · rw [tk, List.filter_append, List.map_append]
      simp [List.filter_cons, hp]
    · rw [tk, List.filter_append, List.map_append]
      simp [List.filter_cons, hp]
theorem lc_map {bd : MG} {me : ME} {ρ : Ev} {k : List D → Prop} (g : D → D) (xs : List D) (hl : xs.length ≤ sizeLine)
    (h : ∀ x ∈ xs, ∀ (R : D → Prop), R (g x) → bd x ρ fun ρ2 => me ρ2 (fun d _ => R d) noX) (hk : k (xs.map g)) : lcGo bd mYes me xs [] ρ k := by
  refine lc_fm (fun _ => true) g xs hl (fun x hx R F h1 h2 => ?_) (by rw [show xs.filter (fun _ => true) = xs from List.filter_eq_self.mpr (by simp)]; exact hk)
  have := h x hx R (h1 rfl)
  simpa [mYes] using this
/-- .. each item just so -/
theorem lc_all {bd : MG} {me : ME} {ρ : Ev} {k : List D → Prop} (xs : List D) (p : D → Prop) (hl : xs.length ≤ sizeLine)
    (h : ∀ x ∈ xs, ∀ (R : D → Prop), (∀ d, p d → R d) → bd x ρ fun ρ2 => me ρ2 (fun d _ => R d) noX) (hk : ∀ ys : List D, ys.length = xs.length → (∀ d ∈ ys, p d) → k ys) : lcGo bd mYes me xs [] ρ k := by
  refine lc_ind (fun zs acc => acc.length + zs.length = xs.length ∧ (∀ d ∈ acc, p d) ∧ ∀ z ∈ zs, z ∈ xs) (fun acc h => hk acc (by simpa using h.1) h.2.1) (fun x ys acc F h2 hF => ?_) xs [] ⟨by simp, by simp, fun _ h => h⟩
  obtain ⟨e1, e2, e3⟩ := h2
  have := h x (e3 x List.mem_cons_self) (fun d => acc.length < sizeLine ∧ F (acc ++ [d])) fun d hd => ⟨by simp at e1; omega, hF _ ⟨by simp at e1 ⊢; omega, fun z hz => ?_, fun z hz => e3 z (List.mem_cons_of_mem _ hz)⟩⟩
  · simpa [mYes] using this
  · rcases List.mem_append.mp hz with q | q
    · exact e2 z q
    · rw [List.mem_singleton.mp q]
      exact hd
@[simp] theorem ints_map' (ns : List Int) : D.ints (ns.map D.int) = some ns := ints_map ns
@[simp] theorem bls_map' (ns : List Bool) : D.bls (ns.map D.bl) = some ns := bls_map ns

@[simp] theorem tyN_non : D.tyN .non = some "NoneType" := rfl
@[simp] theorem tyN_bl {b} : D.tyN (.bl b) = some "bool" := rfl
@[simp] theorem tyN_int {b} : D.tyN (.int b) = some "int" := rfl
@[simp] theorem tyN_str {b} : D.tyN (.str b) = some "str" := rfl
@[simp] theorem tyN_tup {b} : D.tyN (.tup b) = some "tuple" := rfl
@[simp] theorem tyN_lst {b} : D.tyN (.lst b) = some "list" := rfl
@[simp] theorem tyN_dct {a b} : D.tyN (.dct a b) = some "dict" := rfl
@[simp] theorem tyN_ob {b} : D.tyN (.ob b) = none := rfl
@[simp] theorem tyN_gl {b} : D.tyN (.gl b) = none := rfl
@[simp] theorem tyN_ty {b} : D.tyN (.ty b) = none := rfl
@[simp] theorem tyN_fl {b} : D.tyN (.fl b) = none := rfl
@[simp] theorem tru_non : dTru .non = some false := rfl
@[simp] theorem tru_bl {b} : dTru (.bl b) = some b := rfl
@[simp] theorem tru_int {i} : dTru (.int i) = some (i != 0) := rfl
@[simp] theorem tru_tup {xs} : dTru (.tup xs) = some !xs.isEmpty := rfl
@[simp] theorem tru_lst {xs} : dTru (.lst xs) = some !xs.isEmpty := rfl
@[simp] theorem tru_dct {ks ds} : dTru (.dct ks ds) = some !ks.isEmpty := rfl
@[simp] theorem isNon_non : D.isNon .non = true := rfl
@[simp] theorem isNon_bl {b} : D.isNon (.bl b) = false := rfl
@[simp] theorem isNon_int {b} : D.isNon (.int b) = false := rfl
@[simp] theorem isNon_str {b} : D.isNon (.str b) = false := rfl
@[simp] theorem isNon_tup {b} : D.isNon (.tup b) = false := rfl
@[simp] theorem isNon_lst {b} : D.isNon (.lst b) = false := rfl
@[simp] theorem isNon_dct {a b} : D.isNon (.dct a b) = false := rfl
@[simp] theorem asT_bl {Q : Bool → Prop} {b : Bool} : asT Q (.bl b) = Q b := rfl
@[simp] theorem asT_int {Q : Bool → Prop} {i : Int} : asT Q (.int i) = Q (i != 0) := rfl
@[simp] theorem asT_non {Q : Bool → Prop} : asT Q .non = Q false := rfl
@[simp] theorem asT_lst {Q : Bool → Prop} {xs : List D} : asT Q (.lst xs) = Q (!xs.isEmpty) := rfl
@[simp] theorem asT_tup {Q : Bool → Prop} {xs : List D} : asT Q (.tup xs) = Q (!xs.isEmpty) := rfl
@[simp] theorem sizeLine_val : sizeLine = 16777216 := sizeLine_eq
theorem ixN_nat (n m : Nat) : ixN n (m : Int) = if m < n then some m else none := by
  unfold ixN
  rw [if_pos (by omega)]
  by_cases h : m < n
  · rw [if_pos h, if_pos (by omega), Int.toNat_natCast]
  · rw [if_neg h, if_neg (by omega)]
theorem atI_nat {α : Type} (xs : List α) (m : Nat) : atI xs (m : Int) = xs[m]? := by
  unfold atI
  rw [ixN_nat]
  by_cases h : m < xs.length
  · rw [if_pos h]; rfl
  · rw [if_neg h, List.getElem?_eq_none (by omega)]; rfl
@[simp] theorem ixN_natC {n m : Nat} : ixN n ((m : Nat) : Int) = if m < n then some m else none := ixN_nat n m
@[simp] theorem ixN_0 {n : Nat} : ixN n 0 = if 0 < n then some 0 else none := ixN_nat n 0
@[simp] theorem ixN_1 {n : Nat} : ixN n 1 = if 1 < n then some 1 else none := ixN_nat n 1
@[simp] theorem ixN_2 {n : Nat} : ixN n 2 = if 2 < n then some 2 else none := ixN_nat n 2
@[simp] theorem ixN_3 {n : Nat} : ixN n 3 = if 3 < n then some 3 else none := ixN_nat n 3
@[simp] theorem ixN_4 {n : Nat} : ixN n 4 = if 4 < n then some 4 else none := ixN_nat n 4
@[simp] theorem ixN_5 {n : Nat} : ixN n 5 = if 5 < n then some 5 else none := ixN_nat n 5
@[simp] theorem ixN_6 {n : Nat} : ixN n 6 = if 6 < n then some 6 else none := ixN_nat n 6
@[simp] theorem ixN_7 {n : Nat} : ixN n 7 = if 7 < n then some 7 else none := ixN_nat n 7
@[simp] theorem atI_natC {α : Type} {xs : List α} {m : Nat} : atI xs ((m : Nat) : Int) = xs[m]? := atI_nat xs m
@[simp] theorem atI_0 {α : Type} {xs : List α} : atI xs 0 = xs[0]? := atI_nat xs 0
@[simp] theorem atI_1 {α : Type} {xs : List α} : atI xs 1 = xs[1]? := atI_nat xs 1
@[simp] theorem atI_2 {α : Type} {xs : List α} : atI xs 2 = xs[2]? := atI_nat xs 2
@[simp] theorem atI_3 {α : Type} {xs : List α} : atI xs 3 = xs[3]? := atI_nat xs 3
@[simp] theorem atI_4 {α : Type} {xs : List α} : atI xs 4 = xs[4]? := atI_nat xs 4
@[simp] theorem atI_5 {α : Type} {xs : List α} : atI xs 5 = xs[5]? := atI_nat xs 5
@[simp] theorem atI_6 {α : Type} {xs : List α} : atI xs 6 = xs[6]? := atI_nat xs 6
@[simp] theorem atI_7 {α : Type} {xs : List α} : atI xs 7 = xs[7]? := atI_nat xs 7
theorem atI_at {α : Type} {xs : List α} {i : Int} (h0 : 0 ≤ i) (h1 : i < xs.length) : atI xs i = some (xs[i.toNat]'(by omega)) := by
  obtain ⟨m, rfl⟩ : ∃ m : Nat, i = (m : Int) := ⟨i.toNat, by omega⟩
  rw [atI_nat]
  exact List.getElem?_eq_getElem _
theorem seq_cut {a b : MS} {ρ : Ev} {P : Po} (A : Ev → Prop) (h2 : ∀ ρ', A ρ' → b ρ' P) (h1 : ∀ B : Ev → Prop, (∀ ρ', A ρ' → B ρ') → a ρ { P with nx := B }) : sSeq a b ρ P := h1 _ h2
@[simp] theorem Pl_non {n : Nat} : Pl n .non := by cases n <;> trivial
@[simp] theorem Pl_bl {n : Nat} {b : Bool} : Pl n (.bl b) := by cases n <;> trivial
@[simp] theorem Pl_int {n : Nat} {i : Int} : Pl n (.int i) := by cases n <;> trivial
@[simp] theorem eqv_bl {a b : Bool} : D.eqv (.bl a) (.bl b) = decide (a = b) := by
  unfold D.eqv D.py
  cases a <;> cases b <;> simp [PyData.eqv]
theorem eqv_self {n : Nat} {d : D} (h : Pl n d) : D.eqv d d = true := PySem.SeqAt.eqv_refl _ h.lay.1
def frz1 : Slot → Slot
  | some (d, .ow) => some (d, .fz)
  | s => s
@[simp] theorem frz_cons {s : Slot} {r : Ev} : Ev.frz (s :: r) = frz1 s :: Ev.frz r := by
  cases s with
  | none => rfl
  | some p =>
    obtain ⟨d, fl⟩ := p
    cases fl <;> rfl
@[simp] theorem frz_nil : Ev.frz [] = [] := rfl
@[simp] theorem frz1_none : frz1 none = none := rfl
@[simp] theorem frz1_sh {d : D} : frz1 (some (d, .sh)) = some (d, .sh) := rfl
@[simp] theorem frz1_ow {d : D} : frz1 (some (d, .ow)) = some (d, .fz) := rfl
theorem mul_small {i j : Int} (h : (-(2 ^ 64) < i ∧ i < 2 ^ 64) ∨ (-(2 ^ 64) < j ∧ j < 2 ^ 64)) : MulOk i j := .inl h
theorem log2_lt {n k : Nat} (hk : 0 < k) (h : n < 2 ^ k) : n.log2 < k := by
  by_cases z : n = 0
  · subst z
    simpa using hk
  · exact (Nat.log2_lt z).mpr h
theorem mul_k {i j : Int} {k l : Nat} (h1 : i.natAbs < 2 ^ k) (h2 : j.natAbs < 2 ^ l) (hk : 0 < k) (hl : 0 < l) (h : k + l < 1000000) : MulOk i j := .inr (by
  unfold CMulW
  have a := log2_lt hk h1
  have b := log2_lt hl h2
  omega)
theorem div_k {i j : Int} {k : Nat} (h1 : 0 < j) (h2 : j.natAbs < 2 ^ k) (hk : 0 < k) (h : k ≤ 9000) : CDivW i j := ⟨h1, by
  have := log2_lt hk h2
  omega⟩
theorem div_small {i j : Int} (h1 : 0 < j) (h2 : j < 2 ^ 200) : CDivW i j := div_k (k := 200) h1 (by omega) (by decide) (by decide)
end Lk

namespace Lk
open PySem PySem.Spec PyProof.Rows L2
/-! ## 15. The head -/
theorem hasDef_mk {K : PySem.W.Frag} {h : Heap} {mg : Str → Option Value} {x : Str} {st : Stmt} {ps : List Str} {f : Addr} {oc : Value} {od an : Option Addr} {osl : Array (Option Value)} {kV doc pm cdv ct : Value} (X : K.In h) (G : h.Ns mainGlobals mg)
    (b : ∀ (kV doc pm : Value) (an : Option Addr) (cdv ct : Value) (us : List Value), us.length = ps.length → bindArgs (PySem.W.fnOf x x (defArgs st) (defBody st) (defScope st) .none kV doc pm an cdv ct) ⟨us, []⟩ = pure (ps.zip us))
    (a : PySem.W.nsIn K mainGlobals x = some (some (.ref f))) (l : K.lookup f = some ⟨oc, od, .func (PySem.W.fnOf x x (defArgs st) (defBody st) (defScope st) .none kV doc pm an cdv ct), osl⟩)
    (c : PySem.W.codeIn K cdv x = true) (k : PySem.W.keepIn K (.ref f) = true) : HasDef K mg x st ps :=
  ⟨f, _, fun_mk l c k, PySem.W.mg_of X G a, (fun_mk l c k).binds b⟩
theorem hasExc_mk {K : PySem.W.Frag} {h : Heap} {mg : Str → Option Value} {x : Str} {C : Addr} (X : K.In h) (G : h.Ns mainGlobals mg) (a : PySem.W.nsIn K mainGlobals x = some (some (.ref C)))
    (e : PySem.W.excIn K C [.type "ValueError", .type "Exception", .type "BaseException", .type "object"] "ValueError.__new__" = true) (k : PySem.W.keepIn K (.ref C) = true) (s : PySem.W.subIn K (.ref C) (.type "BaseException") = some true) (t : PySem.W.typeIn K (.ref C) = some (.type "type")) : HasExc K mg x :=
  ⟨C, PySem.W.mg_of X G a, e, k, s, t⟩
theorem glob_mk {K : PySem.W.Frag} {h : Heap} {mg : Str → Option Value} {x : Str} {i : Int} {t : Tok} (X : K.In h) (G : h.Ns mainGlobals mg) (a : PySem.W.nsIn K mainGlobals x = some (some (.int i t))) : ∃ t, mg x = some (.int i t) := ⟨t, PySem.W.mg_of X G a⟩
theorem globs_mk {K : PySem.W.Frag} {h : Heap} {mg : Str → Option Value} {x y : Str} {t : Tok} (X : K.In h) (G : h.Ns mainGlobals mg) (a : PySem.W.nsIn K mainGlobals x = some (some (.str y t))) : ∃ t, mg x = some (.str y t) := ⟨t, PySem.W.mg_of X G a⟩
/-- what the law's def keeps, at the place where it stands -/
def LawKept (P : Program) (w : World) (K : PySem.W.Frag) (mg : Str → Option Value) (k : Nat) (fa : Addr) : Prop :=
  ∃ fd : FuncData, (∀ (s : Shared) (u : Value), BindsTo s fd ⟨[u], []⟩ [("script", u)]) ∧ ∀ base : Heap, K.In base → base.Ns mainGlobals mg → FnG P w K mg base k fa fd ["script"] (spLaw K)
theorem lawKept_mk {P : Program} {w : World} {K : PySem.W.Frag} {h : Heap} {mg : Str → Option Value} {st : Stmt} {fa f : Addr} {k : Nat} {oc : Value} {od an : Option Addr} {osl : Array (Option Value)} {kV doc pm cdv ct : Value} (X : K.In h) (G : h.Ns mainGlobals mg) (hfa : mg "law" = some (.ref fa))
    (b : ∀ (kV doc pm : Value) (an : Option Addr) (cdv ct : Value) (s : Shared) (u : Value), BindsTo s (PySem.W.fnOf "law" "law" (defArgs st) (defBody st) (defScope st) .none kV doc pm an cdv ct) ⟨[u], []⟩ [("script", u)])
    (a : PySem.W.nsIn K mainGlobals "law" = some (some (.ref f))) (l : K.lookup f = some ⟨oc, od, .func (PySem.W.fnOf "law" "law" (defArgs st) (defBody st) (defScope st) .none kV doc pm an cdv ct), osl⟩)
    (c : PySem.W.codeIn K cdv "law" = true) (kp : PySem.W.keepIn K (.ref f) = true)
    (H : ∀ (fd : FuncData) (base : Heap), Fun K "law" "law" st f fd → FnG P w K mg base k f fd ["script"] (spLaw K)) : LawKept P w K mg k fa := by
  have e := hfa.symm.trans (PySem.W.mg_of X G a)
  cases e
  exact ⟨_, fun s u => b _ _ _ _ _ _ s u, fun base _ _ => H _ base (fun_mk l c kp)⟩
theorem never_at {P : Program} {w : World} {K : PySem.W.Frag} {mg : Str → Option Value} {base : Heap} {k : Nat} {x : Str} {st : Stmt} {ps : List Str} (F : HasDef K mg x st ps) : DefAt P w K mg base k x (fun _ _ _ => False) := by
  obtain ⟨f, fd, F, hg, hbn⟩ := F
  refine ⟨f, fd, ps, ⟨fun vs H Q E h => ?_, fun A outer s H args us vs Q E hr _ _ _ h => ?_⟩, hg, F.kp, hbn⟩
  · obtain ⟨c, M, ds, Qd, Ed, _, _, _, _, h, _⟩ := h
    exact h.elim
  · obtain ⟨c, M, ds, Qd, Ed, _, _, _, _, h, _⟩ := h
    exact h.elim
theorem walk {l : PySem.W.OpenLaw} {q : Program} {loose : List Str} {XP : (Str → Option Value) → Heap → Prop} {YP : World → Heap → Prop} {d : DefRec} {K : Params → PySem.W.Frag} {k : Nat} (hn : l.most = some 63) (hdf : d.params.defaults = []) (hr : Room k callerA)
    (hY : ∀ (w : World) (h : Heap), YP w h → (K w.params).In h)
    (F : ∀ (w : World) (mg : Str → Option Value) (fa : Addr) (h : Heap), (K w.params).In h → h.Ns mainGlobals mg → mg d.name = some (.ref fa) → LawKept l.prog w (K w.params) mg k fa) :
    PySem.W.WalkO q loose XP YP l.row.toRowW d [] (fun f vs => PySem.call f vs) :=
  walkG (k := k) (x := "script") (sp := spLaw) hn hdf hr hY F (fun _ _ a ns hl hS => ⟨a, ns, rfl, hS, hl, fun _ => rfl⟩)
end Lk

namespace Lk
open PySem PySem.Spec PyProof.Rows L2
/-! ## 16. repr, in, slices with a step -/
section
variable {c : Ct} {X : Cx} {W : WX} {M M' : Own} {H H' : Hp} {a b e : Expr} {me ma mb : ME} {m : M2} {r : MA} {pos : Pos} {es : List Expr} {p : Pos}
def rReprD (K : PySem.W.Frag) : R1 := fun xs H Q => ∃ x d, xs = [x] ∧ Dp K H x d ∧ d.showable = true ∧ d.canLay0 = true ∧ d.depth ≤ 60 ∧ d.shown.length ≤ sizeLine ∧ Q (.str d.shown) H
theorem call_reprD (hg : X.A.guards = some []) (hu : X.A.units + 66 < cLine) : CallR X (.builtin "repr") (rReprD X.K) := by
  intro pins s σ H xs us Q I r h
  obtain ⟨x, d, rfl, hd, hs, hl, hz, hn, q⟩ := h
  obtain ⟨u, rfl, ru⟩ := r.one
  have fin : ∀ (h' : Heap) (t tk : Tok), (∀ b o, s.heap.get? b = some o → h'.get? b = some o) → EP X pins σ Q (.str d.shown t) { s with heap := h', toks := tk } := fun h' t tk hk => ⟨.str _, H, I.kept hk, ⟨_, rfl⟩, q⟩
  have keep : ∀ b o, s.heap.get? b = some o → s.heap.get? b = some o := fun _ _ e => e
  obtain ⟨as, rd⟩ := Dp.reads I d x u hd ru
  cases rd with
  | none => exact PySem.P.repr_of_none (fin s.heap _ _ keep)
  | bool k => exact PySem.P.repr_of_bool (fin s.heap _ _ keep)
  | int i t => exact PySem.P.repr_of_int (of_decide_eq_true hs) (fin s.heap _ _ keep)
  | str y t => exact PySem.P.repr_of_str (fin s.heap _ _ keep) hn
  | list h1 h2 h3 h4 => exact repr_of_reads' (.list h1 h2 h3 h4) hs (PyData.noDict_hsm (PyData.hasDict_of_canLay _ hl)) hg (by omega) (fun _ _ e => e) (fun h' t tk hk => fin h' t tk hk) hn
  | tuple h1 h2 h3 h4 => exact repr_of_reads' (.tuple h1 h2 h3 h4) hs (PyData.noDict_hsm (PyData.hasDict_of_canLay _ hl)) hg (by omega) (fun _ _ e => e) (fun h' t tk hk => fin h' t tk hk) hn
  | dict h1 h2 h3 h4 h5 => cases hd
/-- what repr shows -/
def D.shown (d : D) : Str := d.py.shown
def ShowOk (d : D) : Prop := Pl 60 d ∧ d.py.showable = true ∧ d.py.shown.length ≤ sizeLine
@[simp] def dRepr : FA
  | [d], Q => ShowOk d ∧ Q (.str d.shown)
  | _, _ => False
theorem sp_repr (hf : Fit c X) : CallSp c (rReprD X.K) dRepr := fun M H ds vs Qd QV hh b h k => by
  unfold dRepr at h
  split at h
  · obtain ⟨⟨pl, hs, hn⟩, q⟩ := h
    obtain ⟨v, rfl, bb⟩ := b.one
    exact ⟨v, _, rfl, hf.K ▸ bb.dp pl, hs, pl.lay.1, pl.lay.2, hn, k _ M H _ q .refl rfl⟩
  · exact h.elim
theorem ee_repr (hf : Fit c X) {j : Nat} (rm : Rm j X.A) (hm : X.mg "repr" = none) (ha : AB c X W [e] r) (hg : Gl X "repr" := by rfl) (he : starEach [e] X.env = (false, eval e X.env) :: starEach [] X.env := by rfl) (hpl : (backTo pos (starEach [] X.env)).any (·.1) = false := by rfl) : EE c X W (.Call (.Name "repr" p) [e] [] pos) (mCB dRepr r) :=
  ee_B (call_reprD rm.gd rm.units') (sp_repr hf) hm ha (by decide +kernel) hg (by decide) (by decide) he hpl
/-! ### in -/
abbrev rInT (K : PySem.W.Frag) (neg : Bool) : R2 := fun x y H Q => ∃ d ds, Dp K H x d ∧ (Dp K H y (.list ds) ∨ Dp K H y (.tuple ds)) ∧ SeqAt.shaped d = true ∧ SeqAt.shaped (.list ds) = true ∧ Q (.bl (neg ^^ ds.any fun z => PyData.eqv z d)) H
theorem shaped_tup {ds : List PyData} (h : SeqAt.shaped (.list ds) = true) : PyData.canLayAll0 ds = true ∧ PyData.depthAll ds ≤ 63 := by
  have h1 := SeqAt.canLay_of_shaped h
  have h2 := SeqAt.depth_of_shaped h
  rw [PyData.canLay0] at h1
  rw [PyData.depth] at h2
  exact ⟨h1, by omega⟩
theorem opr_in (hu : X.A.units + 66 < cLine) : OpR X (compareOp .In) (rInT X.K false) := by
  intro pins s σ H x y v u Q I rx ry h
  obtain ⟨d, ds, hd, he, sd, se, q⟩ := h
  obtain ⟨as, r1⟩ := Dp.reads I d x v hd rx
  obtain ⟨l1, l2⟩ := shaped_tup se
  have q : Q (.bl (ds.any fun z => PyData.eqv z d)) H := by simpa using q
  rcases he with he | he
  · obtain ⟨bs, r2⟩ := Dp.reads I (.list ds) y u he ry
    exact SeqAt.in_list_reads r2 r1 l1 (SeqAt.canLay_of_shaped sd) (by have := Nat.min_le_left (PyData.depthAll ds) d.depth; omega) ⟨.bl _, H, I, rfl, q⟩
  · obtain ⟨bs, r2⟩ := Dp.reads I (.tuple ds) y u he ry
    exact SeqAt.in_tuple_reads r2 r1 l1 (SeqAt.canLay_of_shaped sd) (by have := Nat.min_le_left (PyData.depthAll ds) d.depth; omega) ⟨.bl _, H, I, rfl, q⟩
theorem opr_notIn (hu : X.A.units + 66 < cLine) : OpR X (compareOp .NotIn) (rInT X.K true) := by
  intro pins s σ H x y v u Q I rx ry h
  obtain ⟨d, ds, hd, he, sd, se, q⟩ := h
  obtain ⟨as, r1⟩ := Dp.reads I d x v hd rx
  obtain ⟨l1, l2⟩ := shaped_tup se
  have q : Q (.bl (!ds.any fun z => PyData.eqv z d)) H := by simpa using q
  rcases he with he | he
  · obtain ⟨bs, r2⟩ := Dp.reads I (.list ds) y u he ry
    exact SeqAt.notIn_list_reads r2 r1 l1 (SeqAt.canLay_of_shaped sd) (by have := Nat.min_le_left (PyData.depthAll ds) d.depth; omega) ⟨.bl _, H, I, rfl, q⟩
  · obtain ⟨bs, r2⟩ := Dp.reads I (.tuple ds) y u he ry
    exact SeqAt.notIn_tuple_reads r2 r1 l1 (SeqAt.canLay_of_shaped sd) (by have := Nat.min_le_left (PyData.depthAll ds) d.depth; omega) ⟨.bl _, H, I, rfl, q⟩
def dInL (neg : Bool) (x : D) (ys : List D) (Q : D → Prop) : Prop := Pl 60 x ∧ Pl 60 (.lst ys) ∧ Q (.bl (neg ^^ ys.any fun y => D.eqv y x))
@[simp] def dInX (neg : Bool) : F2
  | x, .lst ys, Q => dInL neg x ys Q
  | x, .tup ys, Q => dInL neg x ys Q
  | _, _, _ => False
theorem any_py (ys : List D) (x : D) : ((ys.map D.py).any fun z => PyData.eqv z x.py) = ys.any fun y => D.eqv y x := by
  rw [List.any_map]
  rfl
theorem sp_inX (hf : Fit c X) (neg : Bool) : OpSp c (rInT X.K neg) (dInX neg) := fun M H x y vx vy Qd QV hh bx by_ h k => by
  unfold dInX at h
  split at h
  · rename_i ys Q
    obtain ⟨p1, p2, q⟩ := h
    have d2 := by_.dp p2
    have s2 := p2.shaped (by omega)
    rw [D.py, pyL_map] at d2 s2
    exact ⟨_, _, hf.K ▸ bx.dp p1, .inl (hf.K ▸ d2), p1.shaped (by omega), s2, by rw [any_py]; exact k _ M H _ q .refl rfl⟩
  · obtain ⟨p1, p2, q⟩ := h
    rename_i Q ys
    have p3 : Pl 60 (.tup ys) := p2
    have d2 := by_.dp p3
    have s2 := p2.shaped (by omega)
    have e1 : D.py (.tup ys) = .tuple (D.py.pyL ys) := rfl
    have e2 : D.py (.lst ys) = .list (D.py.pyL ys) := rfl
    rw [e1, pyL_map] at d2
    rw [e2, pyL_map] at s2
    exact ⟨_, _, hf.K ▸ bx.dp p1, .inr (hf.K ▸ d2), p1.shaped (by omega), s2, by rw [any_py]; exact k _ M H _ q .refl rfl⟩
  · exact h.elim
theorem ee_in (hf : Fit c X) {j : Nat} (rm : Rm j X.A) (h : E2 c X W a b m) (hm : behindInMarks .In b = false := by first | exact nomark _ | rfl) : EE c X W (.Compare a [.In] [b] pos) (mOp (dInX false) m) := ee_cmp (opr_in rm.units') (sp_inX hf false) h hm
theorem et_in (hf : Fit c X) {j : Nat} (rm : Rm j X.A) (h : E2 c X W a b m) (hm : behindInMarks .In b = false := by first | exact nomark _ | rfl) : ET c X W (.Compare a [.In] [b] pos) (mTest (mOp (dInX false) m)) := et_cmp (opr_in rm.units') (sp_inX hf false) h hm
theorem ee_notIn (hf : Fit c X) {j : Nat} (rm : Rm j X.A) (h : E2 c X W a b m) (hm : behindInMarks .NotIn b = false := by first | exact nomark _ | rfl) : EE c X W (.Compare a [.NotIn] [b] pos) (mOp (dInX true) m) := ee_cmp (opr_notIn rm.units') (sp_inX hf true) h hm
theorem et_notIn (hf : Fit c X) {j : Nat} (rm : Rm j X.A) (h : E2 c X W a b m) (hm : behindInMarks .NotIn b = false := by first | exact nomark _ | rfl) : ET c X W (.Compare a [.NotIn] [b] pos) (mTest (mOp (dInX true) m)) := et_cmp (opr_notIn rm.units') (sp_inX hf true) h hm
/-- one sign in a text -/
@[simp] def dInS : F2
  | .str x, .str s, Q => ∃ ch : Nat, x = ⟨#[ch]⟩ ∧ Q (.bl (decide (ch ∈ s.cps.toList)))
  | _, _, _ => False
theorem sp_inS : OpSp c (fun x y H Q => ∃ (c : Nat) (z : Str), x = .str ⟨#[c]⟩ ∧ y = .str z ∧ Q (.bl (decide (c ∈ z.cps.toList))) H) dInS := fun M H x y vx vy Qd QV hh bx by_ h k => by
  unfold dInS at h
  split at h
  · obtain ⟨ch, rfl, h⟩ := h
    exact ⟨_, _, bx.str, by_.str, k _ M H _ h .refl rfl⟩
  · exact h.elim
theorem ee_inS (h : E2 c X W a b m) (hm : behindInMarks .In b = false := by first | exact nomark _ | rfl) : EE c X W (.Compare a [.In] [b] pos) (mOp dInS m) := ee_cmp op_in_sign sp_inS h hm
theorem et_inS (h : E2 c X W a b m) (hm : behindInMarks .In b = false := by first | exact nomark _ | rfl) : ET c X W (.Compare a [.In] [b] pos) (mTest (mOp dInS m)) := et_cmp op_in_sign sp_inS h hm
/-! ### True, False by is -/
@[simp] def dIsB (neg : Bool) : F2
  | .bl x, .bl y, Q => Q (.bl (neg ^^ decide (x = y)))
  | _, _, _ => False
theorem sp_isB : OpSp c rIsB (dIsB false) := fun M H x y vx vy Qd QV hh bx by_ h k => by
  unfold dIsB at h
  split at h
  · exact ⟨_, _, bx.bl, by_.bl, by simpa using k _ M H _ h .refl rfl⟩
  · exact h.elim
theorem sp_notB : OpSp c rNotB (dIsB true) := fun M H x y vx vy Qd QV hh bx by_ h k => by
  unfold dIsB at h
  split at h
  · exact ⟨_, _, bx.bl, by_.bl, by simpa using k _ M H _ h .refl rfl⟩
  · exact h.elim
theorem ee_isB (h : E2 c X W a b m) : EE c X W (.Compare a [.Is] [b] pos) (mOp (dIsB false) m) := ee_cmp op_isBl sp_isB h (nomark _)
theorem et_isB (h : E2 c X W a b m) : ET c X W (.Compare a [.Is] [b] pos) (mTest (mOp (dIsB false) m)) := et_cmp op_isBl sp_isB h (nomark _)
theorem ee_notB (h : E2 c X W a b m) : EE c X W (.Compare a [.IsNot] [b] pos) (mOp (dIsB true) m) := ee_cmp op_notBl sp_notB h (nomark _)
theorem et_notB (h : E2 c X W a b m) : ET c X W (.Compare a [.IsNot] [b] pos) (mTest (mOp (dIsB true) m)) := et_cmp op_notBl sp_notB h (nomark _)
/-! ### list[::-1] -/
@[simp] def dRevL : D → (D → Prop) → Prop
  | .lst xs, Q => Q (.lst xs.reverse)
  | _, _ => False
theorem ef_rev {k : Nat} {p1 p2 p3 : Pos} (hf : Fit c X) (h : EB c X W e me) : EF c X W (.Subscript e (.Slice none none (some (.UnaryOp .USub (.Constant (.int 1) k p1) p2)) p3) pos) (mUn dRevL me) := by
  obtain ⟨t, pp, r⟩ := h
  refine ⟨_, pe_revL pp, fun M H σ ρ Q E QV g hm k x => r M H σ ρ _ E _ g hm (fun d ρ1 M1 H1 v q g1 f1 r1 => ?_) x⟩
  cases d with
  | lst xs =>
    obtain ⟨a, vs, rfl, s, rl⟩ := r1.lst
    refine ⟨a, vs, rfl, hf.K ▸ s, fun l hl => k _ ρ1 M1 _ l q (g1.nohd hl) fun t => ?_⟩
    have fa : FrA M1 H1 (setM M1 l t) (upd H1 l (.lst vs.reverse)) := FrA.new hl
    exact ⟨g1.frA fa, f1.trans fa.fr, own_newL rl.rev fa⟩
  | _ => exact q.elim
/-! ### tuple * int -/
@[simp] def dMulT : F2
  | .tup xs, .int k, Q => xs ≠ [] ∧ 2 ≤ k ∧ k ≤ 1000 ∧ xs.length ≤ 1000 ∧ Q (.tup (List.replicate k.toNat xs).flatten)
  | _, _, _ => False
theorem sp_mulT (hf : Fit c X) : OpSp c (rRepT X.K) dMulT := fun M H x y vx vy Qd QV hh bx by_ h k => by
  unfold dMulT at h
  split at h
  · rename_i Q xs n
    obtain ⟨h1, h2, h3, h4, q⟩ := h
    obtain ⟨a, vs, rfl, s, r⟩ := bx.tup
    have l := r.length
    refine ⟨a, n, vs, rfl, by_.int, hf.K ▸ s, fun z => h1 (by rw [z] at l; exact List.length_eq_zero_iff.mp l.symm), h2, h3, by rw [l]; exact h4, fun p hp => ?_⟩
    have rep : ∀ m : Nat, RepL c M H (List.replicate m xs).flatten (List.replicate m vs).flatten := by
      intro m
      induction m with
      | zero => exact .nil
      | succ m ih =>
        rw [List.replicate_succ, List.replicate_succ, List.flatten_cons, List.flatten_cons]
        exact r.append ih
    exact k _ (setM M p none) _ _ q (FrA.new hp) (rep_newT hp (hd_new hh hp) (rep _))
  · exact h.elim
theorem ee_mulT (hf : Fit c X) (h : E2 c X W a b m) : EE c X W (.BinOp a .Mult b pos) (mOp dMulT m) := ee_op op_repT (sp_mulT hf) h
end
end Lk

namespace Lk
open PySem PySem.Spec PyProof.Rows L2 Srt SrtO
/-! ## 17. sorted of a tuple -/
section
variable {prog : Program} {w : World} {A : Around} {E : Value → Shared → Prop} {s : Shared}
/-- the heap behind the collecting of what stands in vs -/
abbrev colH (h : Heap) (vs : List Value) : Heap := (h.push (seqObj "list" #[] 0)).update h.objs.size (Obj.mapSeq (· ++ vs.toArray))
theorem collectT {t : Addr} {vs : List Value} {Q : List Value → Shared → Prop} (ht : IsTup s.heap t vs.toArray) (hz : vs.length ≤ sizeLine) (h : Q vs { s with heap := colH s.heap vs }) : wpAny (model prog w) A (collect (.ref t)) Q E s := by
  obtain ⟨o, e1, e2, n, e3⟩ := ht
  have f1 := Heap.get?_push_of_some (seqObj "list" #[] 0) e1
  have f2 : (s.heap.push (seqObj "list" #[] 0)).get? s.heap.objs.size = some (seqObj "list" #[] 0) := Heap.get?_push_size _ rfl
  unfold collect
  refine wpAny_bind (wpAny_runValue (codeAny_builtin entry_proto_collect' (wpAny_bind (wpAny_newList (wpAny_pure ⟨Code.quiet_builtin _ (by decide +kernel), codeAny_builtin entry_list_iadd' ?_⟩)))))
  show wpAny (model prog w) _ (Builtin.List.listExtendWith (.ref s.heap.objs.size) (.ref t) (.ref s.heap.objs.size)) _ _ { s with heap := s.heap.push (seqObj "list" #[] 0) }
  unfold Builtin.List.listExtendWith
  refine wpAny_bind (wpAny_typeOf (T := "tuple") ⟨o, f1, e2⟩ ?_)
  have tt : (Value.type "tuple" == Value.type "tuple") = true := by rfl
  rw [if_pos (by simp only [tt, Bool.or_true])]
  refine wpAny_bind (listItems_at f1 e3 (wpAny_bind (listItems_at (xs := #[]) (n := 0) f2 rfl ?_)))
  rw [if_neg (by simp)]
  have z1 : (#[] ++ vs.toArray : Array Value).size ≤ sizeLine + 1 := by
    rw [Array.size_append, List.size_toArray]
    show 0 + vs.length ≤ _
    omega
  refine wpAny_bind (listUpdate_at (xs := #[]) (n := 0) f2 rfl (wpAny_pure ?_) (Nat.zero_le _) z1)
  refine wpAny_bind (wpAny_load (get?_update_seq f2 _) (wpAny_pure ?_))
  have e4 : ((#[] : Array Value) ++ vs.toArray).toList = vs := by simp
  rw [e4]
  exact h
theorem sortedT {t : Addr} {vs : List Value} {ltv : Value → Value → Bool} {Q : Value → Shared → Prop} (O : Swo ltv) (ht : IsTup s.heap t vs.toArray) (hz : vs.length ≤ sizeLine)
    (hS : 2 ≤ vs.length → ∀ (h₁ : Heap) (a : Addr), h₁.get? a = some (seqObj "list" vs.toArray 0) → (∀ b o, s.heap.get? b = some o → b ≠ a ∧ h₁.get? b = some o) → SortableO prog w A.in1.in1 { s with heap := h₁ } a vs ltv)
    (h : ∀ out : List Value, Srtd ltv out → Stb ltv out vs → Q (.ref (s.heap.objs.size + 1)) { s with heap := sortedAll s.heap vs out.toArray }) : wpAny (model prog w) A (call (.builtin "sorted") [.ref t]) Q E s := by
  have sz : (colH s.heap vs).objs.size = s.heap.objs.size + 1 := by rw [Heap.size_update, size_push']
  have new : ((colH s.heap vs).push (seqObj "list" vs.toArray 0)).get? (s.heap.objs.size + 1) = some (seqObj "list" vs.toArray 0) := sz ▸ Heap.get?_push_size _ rfl
  have old : ∀ b o, s.heap.get? b = some o → b ≠ s.heap.objs.size + 1 ∧ ((colH s.heap vs).push (seqObj "list" vs.toArray 0)).get? b = some o := fun b o q => by
    have lt := Heap.lt_size q
    exact ⟨Nat.ne_of_lt (Nat.lt_succ_of_lt lt), Heap.get?_push_of_some _ ((Heap.get?_update_ne _ _ _ _ (Nat.ne_of_lt lt)).trans (Heap.get?_push_of_some _ q))⟩
  refine Calls.call_function_entry kind_sorted plain_sorted entry_sorted (args_sorted1 _) ?_
  unfold Builtin.«sorted»
  refine wpAny_bind (m := checkCount "sorted" 1 1 _) (wpAny_pure (wpAny_bind (collectT ht hz (wpAny_bind (wpAny_newList ?_ hz)))))
  show wpAny (model prog w) _ _ _ _ { s with heap := (colH s.heap vs).push (seqObj "list" vs.toArray 0) }
  rw [sz]
  refine wpAny_bind (wpAny_holding (wpAny_call_entry slot_list_sort ⟨_, new, rfl⟩ entry_list_sort (list_sort_ord O new hz (fun h2 => hS h2 _ _ new old) fun out hs hb => ⟨_, rfl, wpAny_pure ⟨_, rfl, h out hs hb⟩⟩) (args_list_sort _)))
end
def rSortTI (K : PySem.W.Frag) : R1 := fun xs H Q => ∃ (a : Addr) (ns : List Int), xs = [V.ref a] ∧ SqT K H a (ns.map V.int) ∧ ∀ (ns' : List Int) (p : Addr), ns'.Perm ns → ns'.Pairwise (· ≤ ·) → H p = none → Q (.ref p) (upd H p (.lst (ns'.map V.int)))
theorem cr_sortTI {X : Cx} : CallR X (.builtin "sorted") (rSortTI X.K) := by
  intro pins s σ H xs us Q I r h
  obtain ⟨a, ns, rfl, hs, q⟩ := h
  obtain ⟨its, rv, ht, hz⟩ := I.tuple hs
  rw [Vals.ref1 r]
  have hi := rv.ints
  refine sortedT swo_int ht (by rw [← rv.length]; exact hz) (fun h2 _ _ _ _ => ints_sortable hi h2) fun out h1 h2 => ?_
  obtain ⟨k1, k2, k3⟩ := ints_out hi h1 h2
  obtain ⟨ep, e⟩ := PyProof.Rows.sortedAll_at s.heap its out.toArray
  have hl : ((out.map iv).map V.int).length ≤ sizeLine := by
    rw [List.length_map] at hz ⊢
    rw [k2.length_eq]
    exact hz
  refine ⟨.ref _, _, I.laid (t' := s.toks) (a := s.heap.objs.size + 1) (o := .lst ((out.map iv).map V.int)) (fun _ _ => PyProof.Rows.sortedAll_old) (Nat.le_succ _) ⟨hl, out, ep, vals_of_ints k1, e⟩, rfl, q _ _ k2 k3 (I.hok.fresh (Nat.le_succ _))⟩
end Lk

namespace Lk
open PySem PySem.Spec PyProof.Rows L2
/-! ## 18. sum, sorted of tuples too; lists written further -/
section
variable {c : Ct} {X : Cx} {W : WX} {M M' : Own} {H H' : Hp} {a b e : Expr} {me ma mb : ME} {m : M2} {r : MA} {pos : Pos} {es : List Expr} {p : Pos}
def rSumTI (K : PySem.W.Frag) : R1 := fun xs H Q => ∃ (a : Addr) (ns : List Int), xs = [V.ref a] ∧ SqT K H a (ns.map V.int) ∧ Q (.int ns.sum) H
theorem ints_get : ∀ {vs : List Value} {ns : List Int}, IntsAre vs ns → ∀ (i : Nat) (v : Value), vs[i]? = some v → ∃ t, v = .int (ns.getD i 0) t
  | _, _, .nil, i, v, h => by simp at h
  | _, _, .cons n t r, 0, v, h => by
    simp at h
    exact ⟨t, by rw [← h]; rfl⟩
  | _, _, .cons n t r, i + 1, v, h => ints_get r i v (by simpa using h)
theorem cr_sumTI (hc : X.calm = true) : CallR X (.builtin "sum") (rSumTI X.K) := by
  intro pins s σ H xs us Q I r h
  obtain ⟨a, ns, rfl, hs, q⟩ := h
  obtain ⟨its, rv, ht, _⟩ := I.tuple hs
  rw [Vals.ref1 r]
  have hi := rv.ints
  have hl := hi.length
  have lt : a < s.heap.objs.size := Heap.lt_size ht.choose_spec.1
  refine call_sum_walkG (wpAny_pyIter_tuple ht ?_)
  have old : ∀ b o, s.heap.get? b = some o → (s.heap.push { cls := .type "tuple_iterator", data := .fields #[.ref a, .int 0 0] }).get? b = some o := fun b o e => Heap.get?_push_of_some _ e
  have wk := Walks.tuple (prog := X.prog) (w := X.w) (A := X.A.in1) (show X.A.in1.handled = none from I.ok.hd hc) s.heap.objs.size a (Nat.ne_of_lt lt) its.toArray
  refine ⟨s.heap.objs.size, _, _, _, _, _, fun i => ns.getD i 0, rfl, wk, ?_, fun b hb => ?_, fun i v hv => ints_get hi i v ?_, fun h' tk t' hk => ?_⟩
  · refine ⟨⟨_, Heap.get?_push_size _ rfl, rfl, rfl⟩, ?_⟩
    obtain ⟨o, e, z⟩ := ht
    exact ⟨o, old _ _ e, z⟩
  · show b < (s.heap.push _).objs.size
    rw [Heap.push, Array.size_push]
    rcases List.mem_cons.mp hb with e | hb
    · rw [e]; exact Nat.lt_succ_self _
    · rw [List.mem_singleton.mp hb]; exact Nat.lt_succ_of_lt lt
  · have hv : its.toArray[i]? = some v := hv
    simpa using hv
  · have e : preSum (fun i => ns.getD i 0) its.toArray.size = ns.sum := by
      rw [preSum_getD, List.size_toArray, hl, List.take_length]
    rw [e]
    exact ⟨.int ns.sum, H, I.kept fun b o z => hk b o (fun w => by rw [List.mem_singleton.mp w] at z; exact absurd (Heap.lt_size z) (Nat.lt_irrefl _)) (old b o z), ⟨_, rfl⟩, q⟩
/-- what is in a list or a tuple -/
@[simp] def dSum2 : FA
  | [.lst xs], Q => withO (D.ints xs) fun ns => Q (.int ns.sum)
  | [.tup xs], Q => withO (D.ints xs) fun ns => Q (.int ns.sum)
  | _, _ => False
theorem sp_sum2 (hf : Fit c X) : CallSp c (fun xs H Q => rSum X.K xs H Q ∨ rSumTI X.K xs H Q) dSum2 := fun M H ds vs Qd QV hh b h k => by
  unfold dSum2 at h
  split at h
  · obtain ⟨ns, e, q⟩ := withO_of h
    have e := ints_eq e
    subst e
    obtain ⟨v, rfl, bb⟩ := b.one
    obtain ⟨a, ws, rfl, s, r⟩ := bb.lst
    have e := r.ints
    subst e
    exact .inl ⟨a, ns, rfl, hf.K ▸ s, k _ M H _ q .refl rfl⟩
  · obtain ⟨ns, e, q⟩ := withO_of h
    have e := ints_eq e
    subst e
    obtain ⟨v, rfl, bb⟩ := b.one
    obtain ⟨a, ws, rfl, s, r⟩ := bb.tup
    have e := r.ints
    subst e
    exact .inr ⟨a, ns, rfl, hf.K ▸ s, k _ M H _ q .refl rfl⟩
  · exact h.elim
theorem ee_sum2 (hf : Fit c X) (hc : X.calm = true) (hm : X.mg "sum" = none) (ha : AB c X W [e] r) (hg : Gl X "sum" := by rfl) (he : starEach [e] X.env = (false, eval e X.env) :: starEach [] X.env := by rfl) (hpl : (backTo pos (starEach [] X.env)).any (·.1) = false := by rfl) : EE c X W (.Call (.Name "sum" p) [e] [] pos) (mCB dSum2 r) :=
  ee_B ((cr_sum hc).or (cr_sumTI hc)) (sp_sum2 hf) hm ha (by decide +kernel) hg (by decide) (by decide) he hpl
@[simp] def dSort2 : FA
  | [.lst xs], Q => withO (D.ints xs) fun ns => Q (.lst ((isort ns).map .int))
  | [.tup xs], Q => withO (D.ints xs) fun ns => Q (.lst ((isort ns).map .int))
  | _, _ => False
theorem spF_sort2 (hf : Fit c X) : CallSpF c (fun xs H Q => rSortedI X.K xs H Q ∨ rSortTI X.K xs H Q) dSort2 := fun M H ds vs Qd QV hh b h k => by
  unfold dSort2 at h
  split at h
  · obtain ⟨ns, e, q⟩ := withO_of h
    have e := ints_eq e
    subst e
    obtain ⟨v, rfl, bb⟩ := b.one
    obtain ⟨a, ws, rfl, s, r⟩ := bb.lst
    have e := r.ints
    subst e
    refine .inl ⟨a, ns, rfl, hf.K ▸ s, fun ms p hp hs hn => ?_⟩
    have e := isort_one hp hs
    subst e
    exact k _ p _ q hn fun M' fa => own_newL (RepL.ofInts _) fa
  · obtain ⟨ns, e, q⟩ := withO_of h
    have e := ints_eq e
    subst e
    obtain ⟨v, rfl, bb⟩ := b.one
    obtain ⟨a, ws, rfl, s, r⟩ := bb.tup
    have e := r.ints
    subst e
    refine .inr ⟨a, ns, rfl, hf.K ▸ s, fun ms p hp hs hn => ?_⟩
    have e := isort_one hp hs
    subst e
    exact k _ p _ q hn fun M' fa => own_newL (RepL.ofInts _) fa
  · exact h.elim
theorem ef_sort2 (hf : Fit c X) (hm : X.mg "sorted" = none) (ha : AB c X W [e] r) (hg : Gl X "sorted" := by rfl) (he : starEach [e] X.env = (false, eval e X.env) :: starEach [] X.env := by rfl) (hpl : (backTo pos (starEach [] X.env)).any (·.1) = false := by rfl) : EF c X W (.Call (.Name "sorted" p) [e] [] pos) (mCB dSort2 r) :=
  ef_B (cr_sortedI.or cr_sortTI) (spF_sort2 hf) hm ha (by decide +kernel) hg (by decide) (by decide) he hpl
/-! ### x.extend(e), x.pop() -/
@[simp] def mExt (i : Nat) (m : ME) : ME := fun ρ Q E => atOw i ρ fun _ => m ρ (fun d ρ' => asL (fun ys => atOw i ρ' fun xs => xs.length + ys.length ≤ sizeLine ∧ Q .non (ρ'.put i (some (.lst (xs ++ ys), .ow)))) d) E
theorem ee_extend (i : Nat) {x : Str} {px pa pc : Pos} (h : EE c X W e me) (hN : X.N[i]? = some x := by rfl) (hv : Vis X.env.scope x := by first | exact Or.inl rfl | exact Or.inr (Or.inl rfl) | exact Or.inr (Or.inr rfl)) (hd : (x == ("__debug__" : Str)) = false := by decide)
    (hcd : (x == ("__classdict__" : Str)) = false := by decide) (hbase : attributeBase (.Name x px) "extend" X.env (eval (.Name x px) X.env) = eval (.Name x px) X.env := by rfl)
    (hfew : ((backTo pc (starEach [e] X.env)).all (fun x => !x.1) && (backToKw pc (keywordEach [] X.env)).all (fun x => x.1.isSome)
      && decide ([e].length + ([] : List Keyword).length + (if ([] : List Keyword).isEmpty then 0 else 1) < 30)) = true := by rfl)
    (hline : (pa.endLine == pc.line) = true := by rfl) (hs : starEach [e] X.env = (false, eval e X.env) :: starEach [] X.env := by rfl) :
    EE c X W (.Call (.Attribute (.Name x px) "extend" pa) [e] [] pc) (mExt i me) := by
  obtain ⟨t, p, r⟩ := h
  refine ⟨_, pe_bm PySem.F.plainAttrs_list PySem.F.slot_list_extend PySem.F.type_list_extend mt_extend (pe_var hN hv hd hcd) (pa_cons p pa_nil hs) hbase hfew hline hs, fun M H σ ρ Q E QV g hm k xx => ?_⟩
  obtain ⟨xs0, e0, hm⟩ := atOw_of hm
  obtain ⟨a, vs0, hσ, hH0, _⟩ := g.ownL e0
  refine ⟨.ref a, hσ, .inl ⟨rfl, _, SqL.of hH0⟩, ?_⟩
  refine r M H σ ρ _ E _ g hm (fun d ρ' M' H' v q g' f' r' => ?_) xx
  cases d with
  | lst ys =>
    obtain ⟨xs, e1, hl, q⟩ := atOw_of (show atOw i ρ' _ from q)
    obtain ⟨b, vs, hb, hH, rl, m, n⟩ := g'.ownL e1
    rw [hσ] at hb
    cases hb
    unfold Rep at r'
    obtain ⟨b, ws, rfl, s, rw_⟩ := r'
    refine ⟨a, b, vs, ws, rfl, rfl, hH, s.2.2, by rw [rl.length, rw_.length]; exact hl, ?_⟩
    obtain ⟨g2, f2⟩ := g'.write (d := .lst (xs ++ ys)) (o := .lst (vs ++ ws)) e1 hσ ⟨vs ++ ws, upd_same, (rl.append rw_).updO m⟩
    exact k .non _ M' _ .non q g2 (f'.trans f2) rfl
  | _ => exact q.elim
@[simp] def mPop (i : Nat) : ME := fun ρ Q _ => atOw i ρ fun xs => withO xs.getLast? fun d => Q d (ρ.put i (some (.lst xs.dropLast, .ow)))
theorem RepL.dropLast : ∀ {ds : List D} {vs : List V}, RepL c M H ds vs → RepL c M H ds.dropLast vs.dropLast := fun {ds vs} h => by
  rw [List.dropLast_eq_take, List.dropLast_eq_take, h.length]
  exact h.take _
theorem ee_pop (i : Nat) {x : Str} {px pa pc : Pos} (hN : X.N[i]? = some x := by rfl) (hv : Vis X.env.scope x := by first | exact Or.inl rfl | exact Or.inr (Or.inl rfl) | exact Or.inr (Or.inr rfl)) (hd : (x == ("__debug__" : Str)) = false := by decide)
    (hcd : (x == ("__classdict__" : Str)) = false := by decide) (hbase : attributeBase (.Name x px) "pop" X.env (eval (.Name x px) X.env) = eval (.Name x px) X.env := by rfl)
    (hline : (pa.endLine == pc.line) = true := by rfl) :
    EE c X W (.Call (.Attribute (.Name x px) "pop" pa) [] [] pc) (mPop i) := by
  refine ⟨_, pe_bm0 PySem.F.plainAttrs_list PySem.F.slot_list_pop PySem.F.type_list_pop mt_pop (pe_var hN hv hd hcd) hbase hline, fun M H σ ρ Q E QV g hm k xx => ?_⟩
  obtain ⟨xs, e0, hm⟩ := atOw_of hm
  obtain ⟨d, ed, q⟩ := withO_of hm
  obtain ⟨a, vs, hσ, hH, rl, m, n⟩ := g.ownL e0
  refine ⟨.ref a, hσ, .inl ⟨rfl, _, SqL.of hH⟩, ?_⟩
  rw [List.getLast?_eq_getElem?] at ed
  obtain ⟨v, hv, rv⟩ := rl.get ed
  obtain ⟨g2, f2⟩ := g.write (d := .lst xs.dropLast) (o := .lst vs.dropLast) e0 hσ ⟨vs.dropLast, upd_same, rl.dropLast.updO m⟩
  exact ⟨a, vs, v, rfl, rfl, hH, by rw [rl.length]; exact hv, k d _ M _ v q g2 f2 (rv.updO m)⟩
/-! ### enumerate of a list -/
def enumD (k : Nat) : List D → List D
  | [] => []
  | x :: xs => .tup [.int (k : Int), x] :: enumD (k + 1) xs
theorem enumD_length : ∀ (k : Nat) (xs : List D), (enumD k xs).length = xs.length
  | _, [] => rfl
  | k, _ :: xs => congrArg (· + 1) (enumD_length (k + 1) xs)
theorem enumD_get : ∀ {k : Nat} {xs : List D} {i : Nat} {d : D}, (enumD k xs)[i]? = some d → ∃ x, xs[i]? = some x ∧ d = .tup [.int ((k + i : Nat) : Int), x]
  | k, [], i, d, h => by simp [enumD] at h
  | k, x :: xs, 0, d, h => by
    simp [enumD] at h
    exact ⟨x, rfl, by rw [← h]; rfl⟩
  | k, x :: xs, i + 1, d, h => by
    obtain ⟨y, h1, h2⟩ := enumD_get (k := k + 1) (xs := xs) (i := i) (d := d) (by simpa [enumD] using h)
    exact ⟨y, by simpa using h1, by rw [h2]; congr 3; omega⟩
theorem itr_enum {K : PySem.W.Frag} {a : Addr} {vs : List V} {xs : List D} (hK : c.K = K) (e : H a = some (.lst vs)) (hm : ∀ i, M a ≠ some (.sl i)) (hn : c.hd ≠ some a) (r : RepL c M H xs vs) : ItR c M H (Ite K a) (enumD 0 xs) := fun M' H' f hd => by
  have s : SqL K H' a vs := .of (f.keep a _ e hm hn).1
  have r' := r.fr f
  refine ⟨fun i d hi => ?_, ⟨vs, s, by rw [enumD_length]; exact Nat.le_of_eq r.length⟩⟩
  obtain ⟨x, hx, rfl⟩ := enumD_get hi
  obtain ⟨v, hv, rv⟩ := r'.get hx
  refine ⟨⟨vs, v, s, hv⟩, fun z Hy q => ?_⟩
  obtain ⟨T, w, rfl, hT, rfl, q1⟩ := q
  have z1 := q1 vs s
  rw [hv] at z1
  cases z1
  refine ⟨setM M' T none, FrA.new hT, rep_newT hT (hd_new hd hT) (.cons ?_ (.cons rv .nil))⟩
  show V.int (i : Int) = V.int ((0 + i : Nat) : Int)
  rw [Nat.zero_add]
@[simp] def iEn (m : MA) : MI := fun ρ Q E => m ρ (fun ds ρ' => match ds with
  | [.lst xs] => Q (enumD 0 xs) ρ'
  | _ => False) E
theorem si_enum {elts : List Expr} {kk : Nat} {tpos : Pos} (hf : Fit c X) (hm0 : X.mg "enumerate" = none) (h : AS c X W [e] r) (hg : Gl X "enumerate" := by rfl) (hs : starEach [e] X.env = [(false, eval e X.env)] := by rfl) : SI c X W (.Tuple elts kk tpos) (.Call (.Name "enumerate" p) [e] [] pos) (iEn r) := by
  obtain ⟨t, pp, r⟩ := h
  refine ⟨_, pi_enum hg hm0 pp hs, fun M H σ ρ Q E R g hm k x => r M H σ ρ _ E _ g hm (fun ds ρ' M' H' vs q g' f rr => ?_) x⟩
  split at q
  · unfold RepL at rr
    obtain ⟨v, w, rfl, h1, rr⟩ := rr
    unfold RepL at rr
    subst rr
    unfold Rep at h1
    obtain ⟨a, vs, rfl, s1, r1⟩ := h1
    exact ⟨a, vs, rfl, .of s1.2.2, k _ ρ' M' H' _ q g' f (itr_enum hf.K s1.2.2 (nslot_of_none s1.1) s1.2.1 r1)⟩
  · exact q.elim
end
end Lk

namespace Lk
open PySem PySem.Spec PyProof.Rows L2
/-! ## 19. How long a repr may be -/
def IntsB (B : Nat) : Nat → D → Prop
  | _, .int i => i.natAbs < 10 ^ B
  | n + 1, .tup xs => ∀ x ∈ xs, IntsB B n x
  | n + 1, .lst xs => ∀ x ∈ xs, IntsB B n x
  | _, _ => True
mutual
def D.cost (B : Nat) : D → Nat
  | .int _ => B + 1
  | .str s => 10 * s.length + 8
  | .tup xs => D.costL B xs + 3
  | .lst xs => D.costL B xs + 3
  | _ => 5
def D.costL (B : Nat) : List D → Nat
  | [] => 0
  | x :: xs => D.cost B x + 2 + D.costL B xs
end
theorem shown_int {B : Nat} (hB : 0 < B) {i : Int} (h : i.natAbs < 10 ^ B) : (PyData.shown (.int i)).length ≤ B + 1 := by
  have e := int_text_length_le10 hB h
  show (Str.ofString (toString i)).length ≤ B + 1
  rw [PySem.ofString_length]
  exact e
theorem shown_str {s : Str} (h : PyData.strOk s = true) : (PyData.shown (.str s)).length ≤ 10 * s.length + 8 :=
  PyData.shown_le 8 (by decide) (.str s) (PyData.leavesShort_of_canLay0 8 (.str s) (by rw [PyData.canLay0]; exact h) rfl)
theorem shown_cost {B : Nat} (hB : 0 < B) : ∀ {n : Nat} {d : D}, Pl n d → IntsB B n d → d.py.shown.length ≤ D.cost B d := by
  intro n
  have all : ∀ {n : Nat} (ih : ∀ {d : D}, Pl n d → IntsB B n d → d.py.shown.length ≤ D.cost B d) {xs : List D}, (∀ x ∈ xs, Pl n x) → (∀ x ∈ xs, IntsB B n x) → ((PyData.shownAll (D.py.pyL xs)).map (·.length)).sum + 2 * (PyData.shownAll (D.py.pyL xs)).length ≤ D.costL B xs := by
    intro n ih xs
    induction xs with
    | nil => intro _ _; simp [D.py.pyL, PyData.shownAll, D.costL]
    | cons x xs ihx =>
      intro h1 h2
      have a := ih (h1 x List.mem_cons_self) (h2 x List.mem_cons_self)
      have b := ihx (fun y hy => h1 y (List.mem_cons_of_mem _ hy)) (fun y hy => h2 y (List.mem_cons_of_mem _ hy))
      show ((PyData.shownAll (x.py :: D.py.pyL xs)).map (·.length)).sum + 2 * (PyData.shownAll (x.py :: D.py.pyL xs)).length ≤ _
      rw [PyData.shownAll, D.costL, List.map_cons, List.sum_cons, List.length_cons]
      omega
  have flat : ∀ {n : Nat} {d : D}, (∀ xs, d ≠ .tup xs) → (∀ xs, d ≠ .lst xs) → Pl n d → IntsB B n d → d.py.shown.length ≤ D.cost B d := by
    intro n d h1 h2 hp hi
    cases d with
    | non =>
      have e : D.cost B .non = 5 := by simp [D.cost]
      rw [e]
      show (PyData.shown .none).length ≤ _
      decide +kernel
    | bl b =>
      have e : D.cost B (.bl b) = 5 := by simp [D.cost]
      rw [e]
      cases b
      · show (PyData.shown (.bool false)).length ≤ _
        decide +kernel
      · show (PyData.shown (.bool true)).length ≤ _
        decide +kernel
    | int i =>
      rw [D.cost]
      exact shown_int hB (by cases n <;> exact hi)
    | str s =>
      rw [D.cost]
      exact shown_str (by cases n <;> exact hp)
    | tup xs => exact absurd rfl (h1 xs)
    | lst xs => exact absurd rfl (h2 xs)
    | _ => cases n <;> exact hp.elim
  induction n with
  | zero =>
    intro d hp hi
    cases d with
    | tup xs => exact hp.elim
    | lst xs => exact hp.elim
    | _ => exact flat (fun _ => nofun) (fun _ => nofun) hp hi
  | succ n ih =>
    intro d hp hi
    cases d with
    | tup xs =>
      have a := all ih hp hi
      have b := tupleText_len_le (PyData.shownAll (D.py.pyL xs))
      show (PyData.shown (.tuple (D.py.pyL xs))).length ≤ _
      rw [PyData.shown, D.cost]
      omega
    | lst xs =>
      have a := all ih hp hi
      have b := listText_len_le (PyData.shownAll (D.py.pyL xs))
      show (PyData.shown (.list (D.py.pyL xs))).length ≤ _
      rw [PyData.shown, D.cost]
      omega
    | _ => exact flat (fun _ => nofun) (fun _ => nofun) hp hi
theorem showable_of {B : Nat} (hB : B ≤ 500) : ∀ {n : Nat} {d : D}, Pl n d → IntsB B n d → d.py.showable = true := by
  intro n
  have all : ∀ {n : Nat} (ih : ∀ {d : D}, Pl n d → IntsB B n d → d.py.showable = true) {xs : List D}, (∀ x ∈ xs, Pl n x) → (∀ x ∈ xs, IntsB B n x) → PyData.showableAll (D.py.pyL xs) = true := by
    intro n ih xs
    induction xs with
    | nil => intro _ _; rfl
    | cons x xs ihx =>
      intro h1 h2
      show PyData.showableAll (x.py :: D.py.pyL xs) = true
      rw [PyData.showableAll, ih (h1 x List.mem_cons_self) (h2 x List.mem_cons_self), ihx (fun y hy => h1 y (List.mem_cons_of_mem _ hy)) (fun y hy => h2 y (List.mem_cons_of_mem _ hy))]
      rfl
  have int_ : ∀ {i : Int}, i.natAbs < 10 ^ B → i.natAbs.log2 < 1920 := fun {i} h => by
    have h2 : i.natAbs < 2 ^ (4 * B + 1) := by
      have e : (10 : Nat) ^ B ≤ (2 ^ 4) ^ B := Nat.pow_le_pow_left (by decide) B
      rw [← Nat.pow_mul] at e
      rw [Nat.pow_succ]
      omega
    have := log2_lt (Nat.succ_pos _) h2
    by_cases z : 4 * B + 1 ≤ 1920
    · omega
    · -- 10^500 < 2^1661
      have e2 : (10 : Nat) ^ B ≤ 10 ^ 500 := Nat.pow_le_pow_right (by decide) hB
      have e3 : (10 : Nat) ^ 500 < 2 ^ 1900 := by decide +kernel
      have := log2_lt (k := 1900) (by decide) (Nat.lt_trans (Nat.lt_of_lt_of_le h e2) e3)
      omega
  induction n with
  | zero =>
    intro d hp hi
    cases d with
    | int i => exact decide_eq_true (int_ hi)
    | non => rfl
    | bl _ => rfl
    | str _ => rfl
    | _ => exact hp.elim
  | succ n ih =>
    intro d hp hi
    cases d with
    | int i => exact decide_eq_true (int_ hi)
    | non => rfl
    | bl _ => rfl
    | str _ => rfl
    | tup xs => exact all ih hp hi
    | lst xs => exact all ih hp hi
    | _ => exact hp.elim
theorem showOk {B : Nat} {d : D} (h0 : 0 < B) (h1 : B ≤ 500) (hp : Pl 60 d) (hi : IntsB B 60 d) (hc : D.cost B d ≤ 16777216) : ShowOk d :=
  ⟨hp, showable_of h1 hp hi, Nat.le_trans (shown_cost h0 hp hi) (by rw [sizeLine_val]; exact hc)⟩
theorem costL_ints (B : Nat) : ∀ ns : List Int, D.costL B (ns.map D.int) = (B + 3) * ns.length
  | [] => rfl
  | n :: ns => by
    rw [List.map_cons, D.costL, D.cost, costL_ints B ns, List.length_cons, Nat.mul_succ]
    omega
theorem showOk_ints {B : Nat} {ns : List Int} (h0 : 0 < B) (h1 : B ≤ 500) (hb : ∀ n ∈ ns, n.natAbs < 10 ^ B) (hl : ns.length ≤ 10000) : ShowOk (.tup (ns.map D.int)) := by
  refine showOk h0 h1 (fun x hx => ?_) (fun x hx => ?_) ?_
  · obtain ⟨i, _, rfl⟩ := List.mem_map.mp hx
    simp
  · obtain ⟨i, hi, rfl⟩ := List.mem_map.mp hx
    exact hb i hi
  · rw [D.cost, costL_ints]
    have : (B + 3) * ns.length ≤ 503 * 10000 := Nat.mul_le_mul (by omega) hl
    omega
theorem showOk_int {B : Nat} {i : Int} (h0 : 0 < B) (h1 : B ≤ 500) (hb : i.natAbs < 10 ^ B) : ShowOk (.int i) := showOk h0 h1 (by simp) hb (by rw [D.cost]; omega)
@[simp] theorem showOk_bl {b : Bool} : ShowOk (.bl b) := showOk (B := 1) (by decide) (by decide) (by simp) trivial (by simp [D.cost])
@[simp] theorem showOk_non : ShowOk .non := showOk (B := 1) (by decide) (by decide) (by simp) trivial (by simp [D.cost])
end Lk

namespace Lk
open PySem PySem.Spec PyProof.Rows L2
/-! ## 20. The order of data: min, max, sorted -/
def D.lt (x y : D) : Bool := PySem.W.dataLt x.py y.py
def D.alk (x y : D) : Bool := PySem.W.alike x.py y.py
def dminF (x : D) (xs : List D) : D := xs.foldl (fun a y => if D.lt y a then y else a) x
def dmaxF (x : D) (xs : List D) : D := xs.foldl (fun a y => if D.lt a y then y else a) x
def dsort (xs : List D) : List D := xs.mergeSort fun a b => !D.lt b a
/-- what can be compared -/
def Alk (xs : List D) : Prop := (∀ x ∈ xs, ∀ y ∈ xs, D.alk x y = true) ∧ (∀ x ∈ xs, x.isNon = false) ∧ ∀ x ∈ xs, Pl 60 x
theorem py_non : ∀ {n : Nat} {d : D}, Pl n d → d.isNon = false → d.py ≠ .none
  | _, .non, _, h => nomatch h
  | _, .bl _, _, _ => nofun
  | _, .int _, _, _ => nofun
  | _, .str _, _, _ => nofun
  | _, .tup _, _, _ => nofun
  | _, .lst _, _, _ => nofun
  | 0, .dct _ _, p, _ => p.elim
  | _ + 1, .dct _ _, p, _ => p.elim
  | 0, .ob _, p, _ => p.elim
  | _ + 1, .ob _, p, _ => p.elim
  | 0, .gl _, p, _ => p.elim
  | _ + 1, .gl _, p, _ => p.elim
  | 0, .ty _, p, _ => p.elim
  | _ + 1, .ty _, p, _ => p.elim
  | 0, .fl _, p, _ => p.elim
  | _ + 1, .fl _, p, _ => p.elim
theorem Alk.all {xs : List D} (h : Alk xs) : PySem.W.AlikeAll (xs.map D.py) := by
  refine ⟨fun x hx y hy => ?_, fun x hx => ?_⟩
  · obtain ⟨a, ha, rfl⟩ := List.mem_map.mp hx
    obtain ⟨b, hb, rfl⟩ := List.mem_map.mp hy
    exact h.1 a ha b hb
  · obtain ⟨a, ha, rfl⟩ := List.mem_map.mp hx
    exact py_non (h.2.2 a ha) (h.2.1 a ha)
theorem depthAll_le : ∀ {xs : List D}, (∀ x ∈ xs, Pl 60 x) → PyData.depthAll (xs.map D.py) ≤ 60
  | [], _ => by simp [PyData.depthAll]
  | x :: xs, h => by
    rw [List.map_cons, PyData.depthAll]
    exact Nat.max_le.mpr ⟨(h x List.mem_cons_self).lay.2, depthAll_le fun y hy => h y (List.mem_cons_of_mem _ hy)⟩
theorem getD_py (xs : List D) (i : Nat) : (xs.map D.py).getD i .none = (xs.getD i .non).py := by
  rw [List.getD_eq_getElem?_getD, List.getD_eq_getElem?_getD, List.getElem?_map]
  cases xs[i]? <;> rfl
section
variable {prog : Program} {w : World} {A : Around} {E : Value → Shared → Prop} {s : Shared}
theorem argMin {x : D} {xs : List D} : ((x :: xs).getD (argBest (fun i j => PySem.W.dataLt (((x :: xs).map D.py).getD i .none) (((x :: xs).map D.py).getD j .none)) xs.length) .non) = dminF x xs := by
  have e : (fun i j => PySem.W.dataLt (((x :: xs).map D.py).getD i .none) (((x :: xs).map D.py).getD j .none)) = fun i j => D.lt ((x :: xs).getD i .non) ((x :: xs).getD j .non) := by
    funext i j
    rw [getD_py, getD_py]
    rfl
  have h := (PySem.W.argBest_fold D.lt .non x xs xs.length (Nat.le_refl _)).2
  rw [List.take_length] at h
  rw [e]
  exact h
theorem argMax {x : D} {xs : List D} : ((x :: xs).getD (argBest (fun i j => PySem.W.dataLt (((x :: xs).map D.py).getD j .none) (((x :: xs).map D.py).getD i .none)) xs.length) .non) = dmaxF x xs := by
  have e : (fun i j => PySem.W.dataLt (((x :: xs).map D.py).getD j .none) (((x :: xs).map D.py).getD i .none)) = fun i j => (fun a b => D.lt b a) ((x :: xs).getD i .non) ((x :: xs).getD j .non) := by
    funext i j
    rw [getD_py, getD_py]
    rfl
  have h := (PySem.W.argBest_fold (fun a b => D.lt b a) .non x xs xs.length (Nat.le_refl _)).2
  rw [List.take_length] at h
  rw [e]
  exact h
theorem minL_at {l : Addr} {vs : Array Value} {x : D} {xs : List D} {as : List Addr} {Q : Value → Shared → Prop} (hh : A.handled = none) (hl : s.heap.IsList l vs) (hr : ReadsAll s.heap vs.toList ((x :: xs).map D.py) as) (ha : PySem.W.AlikeAll ((x :: xs).map D.py)) (hu : A.units + 1 + PyData.depthAll ((x :: xs).map D.py) < cLine)
    (h : ∀ (i : Nat) v h' tk, vs[i]? = some v → (x :: xs).getD i .non = dminF x xs → (∀ b o, s.heap.get? b = some o → h'.get? b = some o) → Q v { s with heap := h', toks := tk }) :
    wpAny (model prog w) A (call (.builtin "min") [.ref l]) Q E s := by
  have hn : vs.size = xs.length + 1 := by rw [PySem.W.readsAll_len hr, List.length_map]; rfl
  refine PySem.call_min_walkH (PySem.W.iter_listW (A := A.in1) hh hl fun s₂ e W st hfp hw hk => ?_)
  refine ⟨_, _, _, _, _, _, _, s.heap, _, rfl, W, st, hfp, by omega, hw, hk, PySem.W.cmpIn_lt (A := A.in1) hr ha (by show A.units + 1 + _ < _; exact hu), fun v s' hP m => ?_⟩
  obtain ⟨h', tk, rfl, hk'⟩ := PySem.W.moved_old e rfl m
  have e1 : vs.size - 1 = xs.length := by omega
  rw [e1] at hP
  exact h _ v h' tk hP argMin hk'
theorem minT_at {l : Addr} {vs : Array Value} {x : D} {xs : List D} {as : List Addr} {Q : Value → Shared → Prop} (hh : A.handled = none) (hl : s.heap.IsTuple l vs) (hr : ReadsAll s.heap vs.toList ((x :: xs).map D.py) as) (ha : PySem.W.AlikeAll ((x :: xs).map D.py)) (hu : A.units + 1 + PyData.depthAll ((x :: xs).map D.py) < cLine)
    (h : ∀ (i : Nat) v h' tk, vs[i]? = some v → (x :: xs).getD i .non = dminF x xs → (∀ b o, s.heap.get? b = some o → h'.get? b = some o) → Q v { s with heap := h', toks := tk }) :
    wpAny (model prog w) A (call (.builtin "min") [.ref l]) Q E s := by
  have hn : vs.size = xs.length + 1 := by rw [PySem.W.readsAll_len hr, List.length_map]; rfl
  refine PySem.call_min_walkH (PySem.W.iter_tupleW (A := A.in1) hh hl fun s₂ e W st hfp hw hk => ?_)
  refine ⟨_, _, _, _, _, _, _, s.heap, _, rfl, W, st, hfp, by omega, hw, hk, PySem.W.cmpIn_lt (A := A.in1) hr ha (by show A.units + 1 + _ < _; exact hu), fun v s' hP m => ?_⟩
  obtain ⟨h', tk, rfl, hk'⟩ := PySem.W.moved_old e rfl m
  have e1 : vs.size - 1 = xs.length := by omega
  rw [e1] at hP
  exact h _ v h' tk hP argMin hk'
theorem maxL_at {l : Addr} {vs : Array Value} {x : D} {xs : List D} {as : List Addr} {Q : Value → Shared → Prop} (hh : A.handled = none) (hl : s.heap.IsList l vs) (hr : ReadsAll s.heap vs.toList ((x :: xs).map D.py) as) (ha : PySem.W.AlikeAll ((x :: xs).map D.py)) (hu : A.units + 1 + PyData.depthAll ((x :: xs).map D.py) < cLine)
    (h : ∀ (i : Nat) v h' tk, vs[i]? = some v → (x :: xs).getD i .non = dmaxF x xs → (∀ b o, s.heap.get? b = some o → h'.get? b = some o) → Q v { s with heap := h', toks := tk }) :
    wpAny (model prog w) A (call (.builtin "max") [.ref l]) Q E s := by
  have hn : vs.size = xs.length + 1 := by rw [PySem.W.readsAll_len hr, List.length_map]; rfl
  refine PySem.call_max_walkH (PySem.W.iter_listW (A := A.in1) hh hl fun s₂ e W st hfp hw hk => ?_)
  refine ⟨_, _, _, _, _, _, _, s.heap, _, rfl, W, st, hfp, by omega, hw, hk, PySem.W.cmpIn_gt (A := A.in1) hr ha (by show A.units + 1 + _ < _; exact hu), fun v s' hP m => ?_⟩
  obtain ⟨h', tk, rfl, hk'⟩ := PySem.W.moved_old e rfl m
  have e1 : vs.size - 1 = xs.length := by omega
  rw [e1] at hP
  exact h _ v h' tk hP argMax hk'
theorem maxT_at {l : Addr} {vs : Array Value} {x : D} {xs : List D} {as : List Addr} {Q : Value → Shared → Prop} (hh : A.handled = none) (hl : s.heap.IsTuple l vs) (hr : ReadsAll s.heap vs.toList ((x :: xs).map D.py) as) (ha : PySem.W.AlikeAll ((x :: xs).map D.py)) (hu : A.units + 1 + PyData.depthAll ((x :: xs).map D.py) < cLine)
    (h : ∀ (i : Nat) v h' tk, vs[i]? = some v → (x :: xs).getD i .non = dmaxF x xs → (∀ b o, s.heap.get? b = some o → h'.get? b = some o) → Q v { s with heap := h', toks := tk }) :
    wpAny (model prog w) A (call (.builtin "max") [.ref l]) Q E s := by
  have hn : vs.size = xs.length + 1 := by rw [PySem.W.readsAll_len hr, List.length_map]; rfl
  refine PySem.call_max_walkH (PySem.W.iter_tupleW (A := A.in1) hh hl fun s₂ e W st hfp hw hk => ?_)
  refine ⟨_, _, _, _, _, _, _, s.heap, _, rfl, W, st, hfp, by omega, hw, hk, PySem.W.cmpIn_gt (A := A.in1) hr ha (by show A.units + 1 + _ < _; exact hu), fun v s' hP m => ?_⟩
  obtain ⟨h', tk, rfl, hk'⟩ := PySem.W.moved_old e rfl m
  have e1 : vs.size - 1 = xs.length := by omega
  rw [e1] at hP
  exact h _ v h' tk hP argMax hk'
end
section
variable {c : Ct} {X : Cx} {W : WX} {M M' : Own} {H H' : Hp} {a b e : Expr} {me ma mb : ME} {m : M2} {r : MA} {pos : Pos} {es : List Expr} {p : Pos}
def rBestD (K : PySem.W.Frag) (best : D → List D → D) : R1 := fun xs H Q => ∃ (a : Addr) (ws : List V) (d : D) (ds : List D), xs = [.ref a] ∧ (SqL K H a ws ∨ SqT K H a ws) ∧ DpAll K H ws ((d :: ds).map D.py) ∧ Alk (d :: ds) ∧
  ∀ (i : Nat) (v : V), ws[i]? = some v → (d :: ds).getD i .non = best d ds → Q v H
theorem vals_getV {vs : List V} {us : List Value} (h : Vals vs us) {i : Nat} {u : Value} (e : us[i]? = some u) : ∃ v, vs[i]? = some v ∧ RelV v u := by
  have hl := h.length
  have hi : i < us.length := (List.getElem?_eq_some_iff.mp e).1
  have hv : vs[i]? = some (vs[i]'(by omega)) := List.getElem?_eq_getElem (by omega)
  obtain ⟨u', hu, r⟩ := h.get hv
  rw [e] at hu
  cases hu
  exact ⟨_, hv, r⟩
theorem cr_minD (hc : X.calm = true) (hu : X.A.units + 66 < cLine) : CallR X (.builtin "min") (rBestD X.K dminF) := by
  intro pins s σ H xs us Q I r h
  obtain ⟨a, ws, d, ds, rfl, hs, hd, ak, q⟩ := h
  rw [Vals.ref1 r]
  have dep := depthAll_le ak.2.2
  rcases hs with hs | hs
  · obtain ⟨its, rv, hl, _⟩ := I.list hs
    obtain ⟨as, ra⟩ := Dp.readsAll I _ ws its hd rv
    refine minL_at (I.ok.hd hc) hl.isList (vs := its.toArray) ra ak.all (by omega) fun i v h' tk hv hb hk => ?_
    obtain ⟨w, hw, rw_⟩ := vals_getV rv (show its[i]? = some v by simpa using hv)
    exact ⟨w, H, I.kept hk, rw_, q i w hw hb⟩
  · obtain ⟨its, rv, hl, _⟩ := I.tuple hs
    obtain ⟨as, ra⟩ := Dp.readsAll I _ ws its hd rv
    refine minT_at (I.ok.hd hc) hl (vs := its.toArray) ra ak.all (by omega) fun i v h' tk hv hb hk => ?_
    obtain ⟨w, hw, rw_⟩ := vals_getV rv (show its[i]? = some v by simpa using hv)
    exact ⟨w, H, I.kept hk, rw_, q i w hw hb⟩
theorem cr_maxD (hc : X.calm = true) (hu : X.A.units + 66 < cLine) : CallR X (.builtin "max") (rBestD X.K dmaxF) := by
  intro pins s σ H xs us Q I r h
  obtain ⟨a, ws, d, ds, rfl, hs, hd, ak, q⟩ := h
  rw [Vals.ref1 r]
  have dep := depthAll_le ak.2.2
  rcases hs with hs | hs
  · obtain ⟨its, rv, hl, _⟩ := I.list hs
    obtain ⟨as, ra⟩ := Dp.readsAll I _ ws its hd rv
    refine maxL_at (I.ok.hd hc) hl.isList (vs := its.toArray) ra ak.all (by omega) fun i v h' tk hv hb hk => ?_
    obtain ⟨w, hw, rw_⟩ := vals_getV rv (show its[i]? = some v by simpa using hv)
    exact ⟨w, H, I.kept hk, rw_, q i w hw hb⟩
  · obtain ⟨its, rv, hl, _⟩ := I.tuple hs
    obtain ⟨as, ra⟩ := Dp.readsAll I _ ws its hd rv
    refine maxT_at (I.ok.hd hc) hl (vs := its.toArray) ra ak.all (by omega) fun i v h' tk hv hb hk => ?_
    obtain ⟨w, hw, rw_⟩ := vals_getV rv (show its[i]? = some v by simpa using hv)
    exact ⟨w, H, I.kept hk, rw_, q i w hw hb⟩
/-- what min, max, sorted ask of the items -/
theorem alk_ints (ns : List Int) : Alk (ns.map D.int) := by
  refine ⟨fun x hx y hy => ?_, fun x hx => ?_, fun x hx => ?_⟩
  · obtain ⟨i, _, rfl⟩ := List.mem_map.mp hx
    obtain ⟨j, _, rfl⟩ := List.mem_map.mp hy
    show PySem.W.alike (.int i) (.int j) = true
    simp [PySem.W.alike]
  · obtain ⟨i, _, rfl⟩ := List.mem_map.mp hx
    rfl
  · obtain ⟨i, _, rfl⟩ := List.mem_map.mp hx
    trivial
theorem dlt_int (i j : Int) : D.lt (.int i) (.int j) = decide (i < j) := PySem.W.dataLt_int i j
theorem dminF_ints : ∀ (ns : List Int) (n : Int), ∃ m, dminF (.int n) (ns.map D.int) = .int m ∧ m ∈ n :: ns ∧ ∀ y ∈ n :: ns, m ≤ y
  | [], n => ⟨n, rfl, List.mem_cons_self, fun y hy => by simp at hy; omega⟩
  | k :: ns, n => by
    show ∃ m, dminF (if D.lt (.int k) (.int n) = true then .int k else .int n) (ns.map D.int) = _ ∧ _
    rw [dlt_int]
    by_cases h : k < n
    · rw [if_pos (by simpa using h)]
      obtain ⟨m, e, h1, h2⟩ := dminF_ints ns k
      refine ⟨m, e, List.mem_cons_of_mem _ h1, fun y hy => ?_⟩
      rcases List.mem_cons.mp hy with rfl | hy
      · have := h2 k List.mem_cons_self
        omega
      · exact h2 y hy
    · rw [if_neg (by simpa using h)]
      obtain ⟨m, e, h1, h2⟩ := dminF_ints ns n
      refine ⟨m, e, ?_, fun y hy => ?_⟩
      · rcases List.mem_cons.mp h1 with h1 | h1
        · rw [h1]; exact List.mem_cons_self
        · exact List.mem_cons_of_mem _ (List.mem_cons_of_mem _ h1)
      · rcases List.mem_cons.mp hy with rfl | hy
        · exact h2 _ List.mem_cons_self
        · rcases List.mem_cons.mp hy with rfl | hy
          · have := h2 n List.mem_cons_self
            omega
          · exact h2 y (List.mem_cons_of_mem _ hy)
theorem dmaxF_ints : ∀ (ns : List Int) (n : Int), ∃ m, dmaxF (.int n) (ns.map D.int) = .int m ∧ m ∈ n :: ns ∧ ∀ y ∈ n :: ns, y ≤ m
  | [], n => ⟨n, rfl, List.mem_cons_self, fun y hy => by simp at hy; omega⟩
  | k :: ns, n => by
    show ∃ m, dmaxF (if D.lt (.int n) (.int k) = true then .int k else .int n) (ns.map D.int) = _ ∧ _
    rw [dlt_int]
    by_cases h : n < k
    · rw [if_pos (by simpa using h)]
      obtain ⟨m, e, h1, h2⟩ := dmaxF_ints ns k
      refine ⟨m, e, List.mem_cons_of_mem _ h1, fun y hy => ?_⟩
      rcases List.mem_cons.mp hy with rfl | hy
      · have := h2 k List.mem_cons_self
        omega
      · exact h2 y hy
    · rw [if_neg (by simpa using h)]
      obtain ⟨m, e, h1, h2⟩ := dmaxF_ints ns n
      refine ⟨m, e, ?_, fun y hy => ?_⟩
      · rcases List.mem_cons.mp h1 with h1 | h1
        · rw [h1]; exact List.mem_cons_self
        · exact List.mem_cons_of_mem _ (List.mem_cons_of_mem _ h1)
      · rcases List.mem_cons.mp hy with rfl | hy
        · exact h2 _ List.mem_cons_self
        · rcases List.mem_cons.mp hy with rfl | hy
          · have := h2 n List.mem_cons_self
            omega
          · exact h2 y (List.mem_cons_of_mem _ hy)
@[simp] def minSp (xs : List D) (Q : D → Prop) : Prop := match D.ints xs with
  | some ns => 0 < ns.length ∧ ∀ m, m ∈ ns → (∀ y ∈ ns, m ≤ y) → Q (.int m)
  | none => match xs with
    | [] => False
    | x :: r => Alk (x :: r) ∧ Q (dminF x r)
@[simp] def maxSp (xs : List D) (Q : D → Prop) : Prop := match D.ints xs with
  | some ns => 0 < ns.length ∧ ∀ m, m ∈ ns → (∀ y ∈ ns, y ≤ m) → Q (.int m)
  | none => match xs with
    | [] => False
    | x :: r => Alk (x :: r) ∧ Q (dmaxF x r)
@[simp] def dMin3 : FA
  | [.lst xs], Q => minSp xs Q
  | [.tup xs], Q => minSp xs Q
  | _, _ => False
@[simp] def dMax3 : FA
  | [.lst xs], Q => maxSp xs Q
  | [.tup xs], Q => maxSp xs Q
  | _, _ => False
theorem minSp_of {xs : List D} {Q : D → Prop} (h : minSp xs Q) : ∃ d ds, xs = d :: ds ∧ Alk (d :: ds) ∧ Q (dminF d ds) := by
  unfold minSp at h
  split at h
  · rename_i ns e
    have e := ints_eq e
    subst e
    cases ns with
    | nil => exact absurd h.1 (Nat.lt_irrefl 0)
    | cons n ns =>
      obtain ⟨m, e1, e2, e3⟩ := dminF_ints ns n
      exact ⟨.int n, ns.map D.int, rfl, alk_ints (n :: ns), by rw [e1]; exact h.2 m e2 e3⟩
  · split at h
    · exact h.elim
    · exact ⟨_, _, rfl, h.1, h.2⟩
theorem maxSp_of {xs : List D} {Q : D → Prop} (h : maxSp xs Q) : ∃ d ds, xs = d :: ds ∧ Alk (d :: ds) ∧ Q (dmaxF d ds) := by
  unfold maxSp at h
  split at h
  · rename_i ns e
    have e := ints_eq e
    subst e
    cases ns with
    | nil => exact absurd h.1 (Nat.lt_irrefl 0)
    | cons n ns =>
      obtain ⟨m, e1, e2, e3⟩ := dmaxF_ints ns n
      exact ⟨.int n, ns.map D.int, rfl, alk_ints (n :: ns), by rw [e1]; exact h.2 m e2 e3⟩
  · split at h
    · exact h.elim
    · exact ⟨_, _, rfl, h.1, h.2⟩
theorem RepL.dpAll : ∀ {ds : List D} {vs : List V}, (∀ x ∈ ds, Pl 60 x) → RepL c M H ds vs → DpAll c.K H vs (ds.map D.py)
  | [], _, _, h => by
    unfold RepL at h
    rw [h]
    exact .nil
  | d :: ds, _, hp, h => by
    unfold RepL at h
    obtain ⟨v, r, rfl, h1, h2⟩ := h
    exact .cons (Rep.dp (hp d List.mem_cons_self) h1) (RepL.dpAll (fun x hx => hp x (List.mem_cons_of_mem _ hx)) h2)
theorem seq_of (hf : Fit c X) {x : D} {xs : List D} {v : V} (hx : x = .lst xs ∨ x = .tup xs) (bb : BRep c M H x v) : ∃ a ws, v = .ref a ∧ (SqL X.K H a ws ∨ SqT X.K H a ws) ∧ RepL c M H xs ws := by
  rcases hx with rfl | rfl
  · obtain ⟨a, ws, rfl, s, r⟩ := bb.lst
    exact ⟨a, ws, rfl, .inl (hf.K ▸ s), r⟩
  · obtain ⟨a, ws, rfl, s, r⟩ := bb.tup
    exact ⟨a, ws, rfl, .inr (hf.K ▸ s), r⟩
theorem best_at {best : D → List D → D} {d : D} {ds : List D} {ws : List V} (r : RepL c M H (d :: ds) ws) {i : Nat} {w : V} (hw : ws[i]? = some w) (hb : (d :: ds).getD i .non = best d ds) : Rep c M H (best d ds) w := by
  obtain ⟨x, hx, rx⟩ := r.getV hw
  rw [List.getD_eq_getElem?_getD, hx] at hb
  have hb : x = best d ds := hb
  rw [← hb]
  exact rx
theorem sp_min3 (hf : Fit c X) : CallSp c (rBestD X.K dminF) dMin3 := fun M H ds vs Qd QV hh b h k => by
  have key : ∀ {x : D} {xs : List D}, (x = .lst xs ∨ x = .tup xs) → ds = [x] → minSp xs Qd → rBestD X.K dminF vs H QV := by
    intro x xs hx e q
    subst e
    obtain ⟨v, rfl, bb⟩ := b.one
    obtain ⟨a, ws, rfl, s, rr⟩ := seq_of hf hx bb
    obtain ⟨d, ds, rfl, ak, q⟩ := minSp_of q
    exact ⟨a, ws, d, ds, rfl, s, hf.K ▸ rr.dpAll ak.2.2, ak, fun i w hw hb => k _ M H w q .refl (best_at rr hw hb)⟩
  unfold dMin3 at h
  split at h
  · exact key (.inl rfl) rfl h
  · exact key (.inr rfl) rfl h
  · exact h.elim
theorem sp_max3 (hf : Fit c X) : CallSp c (rBestD X.K dmaxF) dMax3 := fun M H ds vs Qd QV hh b h k => by
  have key : ∀ {x : D} {xs : List D}, (x = .lst xs ∨ x = .tup xs) → ds = [x] → maxSp xs Qd → rBestD X.K dmaxF vs H QV := by
    intro x xs hx e q
    subst e
    obtain ⟨v, rfl, bb⟩ := b.one
    obtain ⟨a, ws, rfl, s, rr⟩ := seq_of hf hx bb
    obtain ⟨d, ds, rfl, ak, q⟩ := maxSp_of q
    exact ⟨a, ws, d, ds, rfl, s, hf.K ▸ rr.dpAll ak.2.2, ak, fun i w hw hb => k _ M H w q .refl (best_at rr hw hb)⟩
  unfold dMax3 at h
  split at h
  · exact key (.inl rfl) rfl h
  · exact key (.inr rfl) rfl h
  · exact h.elim
theorem ee_min3 (hf : Fit c X) {j : Nat} (rm : Rm j X.A) (hc : X.calm = true) (hm : X.mg "min" = none) (ha : AB c X W [e] r) (hg : Gl X "min" := by rfl) (he : starEach [e] X.env = (false, eval e X.env) :: starEach [] X.env := by rfl) (hpl : (backTo pos (starEach [] X.env)).any (·.1) = false := by rfl) : EE c X W (.Call (.Name "min" p) [e] [] pos) (mCB dMin3 r) :=
  ee_B (cr_minD hc rm.units') (sp_min3 hf) hm ha (by decide +kernel) hg (by decide) (by decide) he hpl
theorem ee_max3 (hf : Fit c X) {j : Nat} (rm : Rm j X.A) (hc : X.calm = true) (hm : X.mg "max" = none) (ha : AB c X W [e] r) (hg : Gl X "max" := by rfl) (he : starEach [e] X.env = (false, eval e X.env) :: starEach [] X.env := by rfl) (hpl : (backTo pos (starEach [] X.env)).any (·.1) = false := by rfl) : EE c X W (.Call (.Name "max" p) [e] [] pos) (mCB dMax3 r) :=
  ee_B (cr_maxD hc rm.units') (sp_max3 hf) hm ha (by decide +kernel) hg (by decide) (by decide) he hpl
end
end Lk

namespace Lk
open PySem PySem.Spec PyProof.Rows L2
/-! ## 21. sorted over data -/
section
variable {prog : Program} {w : World} {A : Around} {E : Value → Shared → Prop} {s : Shared}
theorem sortedTV {t : Addr} {vs : List Value} {κ : PyProof.Rows.KeyKind} {Q : Value → Shared → Prop} (ht : IsTup s.heap t vs.toArray) (hz : vs.length ≤ sizeLine)
    (S : PySem.W.SortsAt prog w A.in1.in1 { s with heap := PySem.W.sortingHeap (PySem.W.copyHeap s.heap vs) (s.heap.objs.size + 1) vs } κ vs)
    (h : Q (.ref (s.heap.objs.size + 1)) { s with heap := sortedAll s.heap vs (PySem.W.sortVals κ false vs vs).toArray }) : wpAny (model prog w) A (call (.builtin "sorted") [.ref t]) Q E s := by
  have sz : (colH s.heap vs).objs.size = s.heap.objs.size + 1 := by rw [Heap.size_update, size_push']
  refine Calls.call_function_entry kind_sorted plain_sorted entry_sorted (args_sorted1 _) ?_
  unfold Builtin.«sorted»
  refine wpAny_bind (m := checkCount "sorted" 1 1 _) (wpAny_pure (wpAny_bind (collectT ht hz (wpAny_bind (wpAny_newList ?_ hz)))))
  show wpAny (model prog w) _ _ _ _ { s with heap := PySem.W.copyHeap s.heap vs }
  rw [sz]
  exact wpAny_bind (wpAny_holding (wpAny_call_entry slot_list_sort ⟨_, PySem.W.copyHeap_at s.heap vs, rfl⟩ entry_list_sort (PySem.W.list_sort_vals (s := { s with heap := PySem.W.copyHeap s.heap vs }) (PySem.W.copyHeap_at s.heap vs) S hz ⟨_, rfl, wpAny_pure ⟨_, rfl, h⟩⟩) (args_list_sort _)))
theorem sorted_dataT {β : Type} {t : Addr} {vs : List Value} {bs : List β} {enc : β → PyData} {R : Value → β → Prop} {Q : Value → Shared → Prop} (hl : IsTup s.heap t vs.toArray) (e : PySem.W.EachIs R vs bs) (er : PySem.W.EachIs (fun v b => ∃ as, Reads s.heap v (enc b) as) vs bs) (hal : PySem.W.AllAlike (bs.map enc)) (hk : PySem.W.Sortable (bs.map enc)) (hL : bs.length ≤ sizeLine)
    (hu : ∀ b, b ∈ bs → A.units + 2 + (enc b).depth < cLine) (h : ∀ out, out.length = bs.length → PySem.W.EachIs R out (bs.mergeSort (PySem.W.dataLe false enc)) → Q (.ref (s.heap.objs.size + 1)) { s with heap := sortedAll s.heap vs (List.toArray out) }) :
    wpAny (model prog w) A (call (.builtin "sorted") [.ref t]) Q E s := by
  have er' : PySem.W.EachIs (fun v b => ∃ as, Reads (PySem.W.sortingHeap (PySem.W.copyHeap s.heap vs) (s.heap.objs.size + 1) vs) v (enc b) as) vs bs := er.mono fun _ _ ⟨as, r⟩ => ⟨as, PyProof.Rows.Reads.keeps (fun _ _ => PySem.W.sorting_copy_old) r⟩
  exact sortedTV hl (by rw [e.length]; exact hL) (PySem.W.SortsAt.data (s := { s with heap := PySem.W.sortingHeap (PySem.W.copyHeap s.heap vs) (s.heap.objs.size + 1) vs }) (PySem.W.each_map (R := fun v d => ∃ as, Reads (PySem.W.sortingHeap (PySem.W.copyHeap s.heap vs) (s.heap.objs.size + 1) vs) v d as) enc er') hal hk (PySem.W.bound_map hu))
    (h _ (by rw [PySem.W.sortVals_length false rfl]; exact e.length) (PySem.W.sortVals_data false e er' hal))
end
theorem each_vals : ∀ {ws : List V} {us : List Value}, Vals ws us → PySem.W.EachIs (fun u v => RelV v u) us ws
  | _, _, .nil => .nil
  | _, _, .cons h t => .cons h (each_vals t)
theorem each_zip {P : Value → V → Prop} {R : Value → D → Prop} : ∀ {us : List Value} {ws : List V} {ds : List D}, PySem.W.EachIs P us ws → PySem.W.EachIs R us ds → PySem.W.EachIs (fun u q => P u q.1 ∧ R u q.2) us (ws.zip ds)
  | _, _, _, .nil, .nil => .nil
  | _, _, _, .cons h1 t1, .cons h2 t2 => .cons ⟨h1, h2⟩ (each_zip t1 t2)
theorem vals_each {zs : List (V × D)} : ∀ {us : List Value}, PySem.W.EachIs (fun u q => RelV q.1 u) us zs → Vals (zs.map Prod.fst) us := by
  induction zs with
  | nil => intro us h; cases h; exact .nil
  | cons z zs ih => intro us h; cases h with | cons h1 t => exact .cons h1 (ih t)
/-- what sorted asks of the items -/
def Srtb (xs : List D) : Prop := (∀ x ∈ xs, ∃ y r, x = .tup (y :: r)) ∨ ∀ x ∈ xs, ∀ ys, x ≠ .tup ys
theorem Alk.allAlike {xs : List D} (h : Alk xs) : PySem.W.AllAlike (xs.map D.py) := h.all.1
theorem Srtb.sortable {xs : List D} (h : Srtb xs) (k : Alk xs) : PySem.W.Sortable (xs.map D.py) := by
  rcases h with h | h
  · refine .inl fun d hd => ?_
    obtain ⟨x, hx, rfl⟩ := List.mem_map.mp hd
    obtain ⟨y, r, rfl⟩ := h x hx
    exact ⟨_, _, rfl⟩
  · refine .inr fun d hd => ⟨k.all.2 d hd, fun ys e => ?_⟩
    obtain ⟨x, hx, rfl⟩ := List.mem_map.mp hd
    cases x with
    | tup zs => exact h _ hx zs rfl
    | _ => cases e
section
variable {c : Ct} {X : Cx} {W : WX} {M M' : Own} {H H' : Hp} {a b e : Expr} {me ma mb : ME} {m : M2} {r : MA} {pos : Pos} {es : List Expr} {p : Pos}
def rSortD (K : PySem.W.Frag) : R1 := fun xs H Q => ∃ (a : Addr) (ws : List V) (ds : List D), xs = [.ref a] ∧ (SqL K H a ws ∨ SqT K H a ws) ∧ DpAll K H ws (ds.map D.py) ∧ Alk ds ∧ Srtb ds ∧
  ∀ p, H p = none → Q (.ref p) (upd H p (.lst (((ws.zip ds).mergeSort fun a b => !D.lt b.2 a.2).map Prod.fst)))
theorem dpAll_len {K : PySem.W.Frag} : ∀ {ws : List V} {ds : List PyData}, DpAll K H ws ds → ws.length = ds.length
  | _, _, .nil => rfl
  | _, _, .cons _ t => congrArg (· + 1) (dpAll_len t)
theorem zip_snd {α β : Type} : ∀ {as : List α} {bs : List β}, as.length = bs.length → (as.zip bs).map Prod.snd = bs
  | [], [], _ => rfl
  | [], _ :: _, h => by simp at h
  | _ :: _, [], h => by simp at h
  | a :: as, b :: bs, h => by
    rw [List.zip_cons_cons, List.map_cons, zip_snd (by simpa using h)]
theorem cr_sortD (hu : X.A.units + 66 < cLine) : CallR X (.builtin "sorted") (rSortD X.K) := by
  intro pins s σ H xs us Q I r h
  obtain ⟨a, ws, ds, rfl, hs, hd, ak, sb, q⟩ := h
  rw [Vals.ref1 r]
  have hlen : ws.length = ds.length := by rw [dpAll_len hd, List.length_map]
  have em : (ws.zip ds).map (fun q => q.2.py) = ds.map D.py := by
    have : (ws.zip ds).map (fun q => q.2.py) = ((ws.zip ds).map Prod.snd).map D.py := by rw [List.map_map]; rfl
    rw [this, zip_snd hlen]
  have dep : ∀ b, b ∈ ws.zip ds → X.A.units + 2 + (b.2.py).depth < cLine := fun b hb => by
    have := (ak.2.2 b.2 (List.of_mem_zip hb).2).lay.2
    omega
  have key : ∀ its : List Value, Vals ws its → ws.length ≤ sizeLine → PySem.W.EachIs (fun u (q : V × D) => RelV q.1 u) its (ws.zip ds) ∧ PySem.W.EachIs (fun v (b : V × D) => ∃ as, Reads s.heap v (b.2.py) as) its (ws.zip ds) := fun its rv hz => by
    obtain ⟨as, ra⟩ := Dp.readsAll I _ ws its hd rv
    have e1 := each_vals rv
    have e2 : PySem.W.EachIs (fun v (d : D) => ∃ as, Reads s.heap v d.py as) its ds := PySem.W.readsAll_each D.py ra
    exact ⟨(each_zip e1 e2).mono fun _ _ z => z.1, (each_zip e1 e2).mono fun _ _ z => z.2⟩
  have fin : ∀ (its out : List Value), out.length = (ws.zip ds).length → PySem.W.EachIs (fun u (q : V × D) => RelV q.1 u) out ((ws.zip ds).mergeSort (PySem.W.dataLe false fun q : V × D => q.2.py)) → ws.length ≤ sizeLine →
      EP X pins σ Q (.ref (s.heap.objs.size + 1)) { s with heap := sortedAll s.heap its (List.toArray out) } := fun its out ho eo hz => by
    obtain ⟨ep, e⟩ := PyProof.Rows.sortedAll_at s.heap its out.toArray
    have vv := vals_each eo
    have le : (PySem.W.dataLe false fun q : V × D => q.2.py) = fun a b => !D.lt b.2 a.2 := PySem.W.dataLe_eq false _
    rw [le] at vv
    have hl : (((ws.zip ds).mergeSort fun a b => !D.lt b.2 a.2).map Prod.fst).length ≤ sizeLine := by
      rw [List.length_map, List.length_mergeSort, List.length_zip, hlen, Nat.min_self, ← hlen]
      exact hz
    exact ⟨.ref _, _, I.laid (t' := s.toks) (a := s.heap.objs.size + 1) (o := .lst (((ws.zip ds).mergeSort fun a b => !D.lt b.2 a.2).map Prod.fst)) (fun _ _ => PyProof.Rows.sortedAll_old) (Nat.le_succ _) ⟨hl, out, ep, vv, e⟩, rfl, q _ (I.hok.fresh (Nat.le_succ _))⟩
  rcases hs with hs | hs
  · obtain ⟨its, rv, hl, hz⟩ := I.list hs
    obtain ⟨k1, k2⟩ := key its rv hz
    exact PySem.W.sorted_data (enc := fun q : V × D => q.2.py) hl.isList k1 k2 (by rw [em]; exact ak.allAlike) (by rw [em]; exact sb.sortable ak) (by rw [List.length_zip, hlen, Nat.min_self, ← hlen]; exact hz) dep fun out ho eo => fin its out ho eo hz
  · obtain ⟨its, rv, hl, hz⟩ := I.tuple hs
    obtain ⟨k1, k2⟩ := key its rv hz
    exact sorted_dataT (enc := fun q : V × D => q.2.py) hl k1 k2 (by rw [em]; exact ak.allAlike) (by rw [em]; exact sb.sortable ak) (by rw [List.length_zip, hlen, Nat.min_self, ← hlen]; exact hz) dep fun out ho eo => fin its out ho eo hz
@[simp] def sortSp (xs : List D) (Q : D → Prop) : Prop := match D.ints xs with
  | some ns => Q (.lst ((isort ns).map .int))
  | none => Alk xs ∧ Srtb xs ∧ Q (.lst (dsort xs))
@[simp] def dSort3 : FA
  | [.lst xs], Q => sortSp xs Q
  | [.tup xs], Q => sortSp xs Q
  | _, _ => False
theorem RepL.zipped : ∀ {ds : List D} {vs : List V}, RepL c M H ds vs → ∀ q ∈ vs.zip ds, Rep c M H q.2 q.1
  | [], _, h, q, hq => by
    unfold RepL at h
    rw [h] at hq
    cases hq
  | d :: ds, _, h, q, hq => by
    unfold RepL at h
    obtain ⟨v, r, rfl, h1, h2⟩ := h
    rcases List.mem_cons.mp hq with rfl | hq
    · exact h1
    · exact RepL.zipped h2 q hq
theorem repL_pairs : ∀ {zs : List (V × D)}, (∀ q ∈ zs, Rep c M H q.2 q.1) → RepL c M H (zs.map Prod.snd) (zs.map Prod.fst)
  | [], _ => .nil
  | z :: zs, h => .cons (h z List.mem_cons_self) (repL_pairs fun q hq => h q (List.mem_cons_of_mem _ hq))
theorem spF_sort3 (hf : Fit c X) : CallSpF c (fun xs H Q => (rSortedI X.K xs H Q ∨ rSortTI X.K xs H Q) ∨ rSortD X.K xs H Q) dSort3 := fun M H ds vs Qd QV hh b h k => by
  have key : ∀ {x : D} {xs : List D}, (x = .lst xs ∨ x = .tup xs) → ds = [x] → sortSp xs Qd → (rSortedI X.K vs H QV ∨ rSortTI X.K vs H QV) ∨ rSortD X.K vs H QV := by
    intro x xs hx e q
    subst e
    obtain ⟨v, rfl, bb⟩ := b.one
    unfold sortSp at q
    split at q
    · rename_i ns e
      have e := ints_eq e
      subst e
      rcases hx with rfl | rfl
      · obtain ⟨a, ws, rfl, s, r⟩ := bb.lst
        have e := r.ints
        subst e
        refine .inl (.inl ⟨a, ns, rfl, hf.K ▸ s, fun ms p hp hs hn => ?_⟩)
        have e := isort_one hp hs
        subst e
        exact k _ p _ q hn fun M' fa => own_newL (RepL.ofInts _) fa
      · obtain ⟨a, ws, rfl, s, r⟩ := bb.tup
        have e := r.ints
        subst e
        refine .inl (.inr ⟨a, ns, rfl, hf.K ▸ s, fun ms p hp hs hn => ?_⟩)
        have e := isort_one hp hs
        subst e
        exact k _ p _ q hn fun M' fa => own_newL (RepL.ofInts _) fa
    · obtain ⟨ak, sb, q⟩ := q
      obtain ⟨a, ws, rfl, s, rr⟩ := seq_of hf hx bb
      refine .inr ⟨a, ws, xs, rfl, s, hf.K ▸ rr.dpAll ak.2.2, ak, sb, fun p hp => k _ p _ q hp fun M' fa => ?_⟩
      have e : dsort xs = ((ws.zip xs).mergeSort fun a b => !D.lt b.2 a.2).map Prod.snd := by
        unfold dsort
        rw [List.map_mergeSort (s := fun a b => !D.lt b a) (fun a _ b _ => rfl), zip_snd rr.length]
      rw [e]
      refine own_newL (repL_pairs fun q hq => ?_) fa
      exact rr.zipped q (List.mem_mergeSort.mp hq)
  unfold dSort3 at h
  split at h
  · exact key (.inl rfl) rfl h
  · exact key (.inr rfl) rfl h
  · exact h.elim
theorem ef_sort3 (hf : Fit c X) {j : Nat} (rm : Rm j X.A) (hm : X.mg "sorted" = none) (ha : AB c X W [e] r) (hg : Gl X "sorted" := by rfl) (he : starEach [e] X.env = (false, eval e X.env) :: starEach [] X.env := by rfl) (hpl : (backTo pos (starEach [] X.env)).any (·.1) = false := by rfl) : EF c X W (.Call (.Name "sorted" p) [e] [] pos) (mCB dSort3 r) :=
  ef_B ((cr_sortedI.or cr_sortTI).or (cr_sortD rm.units')) (spF_sort3 hf) hm ha (by decide +kernel) hg (by decide) (by decide) he hpl
/-- what is sorted stays -/
theorem dsort_sorted {xs : List D} (h : xs.Pairwise fun a b => D.lt b a = false) : dsort xs = xs := by
  unfold dsort
  exact List.mergeSort_of_pairwise (h.imp fun z => by simpa using z)
end
/-- a block in a block -/
theorem relook {env : Env} {x : Str} : ∀ {names : List (Str × NameKind)}, names.lookup x = some .cell ∨ names.lookup x = some .free →
    (names.map fun (n, k) => if (k == NameKind.free && env.scope.kind == .function && env.kindOf n == some .cell) then (n, NameKind.cell) else (n, k)).lookup x = some .cell ∨
    (names.map fun (n, k) => if (k == NameKind.free && env.scope.kind == .function && env.kindOf n == some .cell) then (n, NameKind.cell) else (n, k)).lookup x = some .free
  | [], h => by simp at h
  | (n, k) :: r, h => by
    rw [List.map_cons]
    dsimp only
    cases hx : x == n with
    | true =>
      rw [List.lookup_cons, hx] at h
      have h : k = .cell ∨ k = .free := by simpa using h
      by_cases z : (k == NameKind.free && env.scope.kind == .function && env.kindOf n == some .cell) = true
      · rw [if_pos z, List.lookup_cons, hx]
        exact .inl rfl
      · rw [if_neg z, List.lookup_cons, hx]
        rcases h with rfl | rfl
        · exact .inl rfl
        · exact .inr rfl
    | false =>
      rw [List.lookup_cons, hx] at h
      have ih := relook (env := env) (x := x) (names := r) h
      by_cases z : (k == NameKind.free && env.scope.kind == .function && env.kindOf n == some .cell) = true
      · rw [if_pos z, List.lookup_cons, hx]
        exact ih
      · rw [if_neg z, List.lookup_cons, hx]
        exact ih
theorem blkN {X : Cx} {sc scope : Scope} {b : Bk} {N : List Str} {own : List (Str × Nat)} (h : BlkOk N sc scope own) : BlkOk N (bk X sc b).env.scope scope own :=
  ⟨h.kind, h.uniq, h.ix, fun y a e => relook (h.free y a e), h.own⟩
end Lk

namespace Lk
open PySem PySem.Spec PyProof.Rows L2
/-! ## 22. a, b = a list -/
section
variable {c : Ct} {X : Cx} {W : WX}
@[simp] def nUnl (m : MGs) : MG := fun d ρ Q => match d with
  | .lst ds => m ds ρ Q
  | _ => False
theorem sg_unl {es : List Expr} {kk : Nat} {is : List Nat} {m : MGs} {pos : Pos} (hf : Fit c X) (hc : X.calm = true) (h : SGs c X is es m)
    (hst : (assignEach es X.env).findIdx? (·.1) = none := by rfl) (hn : (assignEach es X.env).length = es.length := by rfl) : SG c X is (.Tuple es kk pos) (nUnl m) := by
  obtain ⟨⟨g, p, r⟩, hm⟩ := h
  refine ⟨⟨_, pg_unl hc p hn hst, fun M H σ ρ d v Q QS gd rr q k => ?_⟩, fun d ρ Q q => ?_⟩
  · cases d with
    | lst ds =>
      obtain ⟨a, vs, rfl, s, rl⟩ := BRep.lst (.inl rr)
      exact ⟨a, vs, rfl, hf.K ▸ s, by rw [rl.length]; exact (hm _ _ _ q).1, r M H σ ρ ds vs _ _ gd rl q k⟩
    | _ => exact q.elim
  · cases d with
    | lst ds => exact (hm _ _ _ q).2
    | _ => exact q.elim
end
end Lk

namespace HT
open PySem PySem.Spec PyProof.Rows L2
section
variable {prog : Program} {w : World} {A : Around} {E : Value → Shared → Prop} {s : Shared}
theorem lk_adjustR (n : Nat) : Builtin.Slice.sliceAdjust none none (-1) (n : Int) = ((n : Int) - 1, -1) := by
  unfold Builtin.Slice.sliceAdjust
  rfl
theorem lk_placesR (n : Nat) : Builtin.Slice.slicePlaces ((n : Int) - 1) (-1) (-1) = n := by
  unfold Builtin.Slice.slicePlaces
  rw [if_neg (by decide)]
  by_cases h : (n : Int) - 1 > -1
  · rw [if_pos h, show (-(-1) : Int) = 1 by decide, Int.ediv_one]
    omega
  · rw [if_neg h]
    omega
theorem lk_appliedR {sl : Addr} {vs : Value} {n : Nat} {Q : Int × Int × Nat → Shared → Prop} (hs : s.heap.IsSliceOf sl .none .none vs) (ps : IsPart vs (some (-1)))
    (h : Q ((n : Int) - 1, -1, n) s) : wpAny (model prog w) A (Builtin.Slice.sliceApplied (.ref sl) (pure (n : Int))) Q E s := by
  obtain ⟨os, hos, hcs, hds⟩ := id hs
  unfold Builtin.Slice.sliceApplied Builtin.Slice.sliceFields
  refine wpAny_bind (wpAny_bind (wpAny_field hos hds (x := .none) rfl (wpAny_bind (wpAny_field hos hds (x := .none) rfl (wpAny_bind (wpAny_field hos hds (x := vs) rfl (wpAny_pure ?_)))))))
  refine wpAny_bind (slicePart_ ps ?_)
  show wpAny _ _ (if ((-1 : Int) == 0) = true then _ else _) _ _ s
  rw [if_neg (by decide)]
  refine wpAny_bind (slicePart_none (wpAny_bind (slicePart_none (wpAny_bind (wpAny_pure ?_)))))
  show wpAny _ _ (match Builtin.Slice.sliceAdjust none none (-1) (n : Int) with | (lo, hi) => pure (lo, (-1 : Int), Builtin.Slice.slicePlaces lo hi (-1))) _ _ s
  rw [lk_adjustR n]
  show wpAny _ _ (pure ((n : Int) - 1, (-1 : Int), Builtin.Slice.slicePlaces ((n : Int) - 1) (-1) (-1))) _ _ s
  rw [lk_placesR]
  exact wpAny_pure h
theorem lk_pickR (xs : Array Value) : ((List.range xs.size).filterMap fun (m : Nat) => xs[(((xs.size : Nat) : Int) - 1 + (m : Int) * (-1)).toNat]?).toArray = xs.toList.reverse.toArray := by
  have e : (List.range xs.size).filterMap (fun (m : Nat) => xs[(((xs.size : Nat) : Int) - 1 + (m : Int) * (-1)).toNat]?) = ((List.range xs.size).map fun k => xs.size - 1 - k).filterMap (xs[·]?) := by
    rw [List.filterMap_map]
    have key : ∀ l : List Nat, (∀ m ∈ l, m < xs.size) → l.filterMap (fun (m : Nat) => xs[(((xs.size : Nat) : Int) - 1 + (m : Int) * (-1)).toNat]?) = l.filterMap ((xs[·]?) ∘ fun k => xs.size - 1 - k) := by
      intro l
      induction l with
      | nil => intro _; rfl
      | cons m l ih =>
        intro h
        have hm := h m List.mem_cons_self
        have em : (((xs.size : Nat) : Int) - 1 + (m : Int) * (-1)).toNat = xs.size - 1 - m := by omega
        rw [List.filterMap_cons, List.filterMap_cons, ih fun k hk => h k (List.mem_cons_of_mem _ hk), em]
        rfl
    exact key _ fun m hm => List.mem_range.mp hm
  rw [e, PySem.W.krv_range, List.filterMap_reverse, PySem.W.krv_all]
theorem lk_tuple_rev {t sl : Addr} {items : Array Value} {vs : Value} {Q : Value → Shared → Prop} (ht : IsTup s.heap t items) (hs : s.heap.IsSliceOf sl .none .none vs) (ps : IsPart vs (some (-1)))
    (h : Q (.ref s.heap.objs.size) { s with heap := s.heap.push { cls := .type "tuple", data := .seq items.toList.reverse.toArray } })
    (hsz : items.size ≤ sizeLine) : wpAny (model prog w) A (getItem (.ref t) (.ref sl)) Q E s := by
  have htake : sizeOk (.seq items.toList.reverse.toArray) := by
    show items.toList.reverse.toArray.size ≤ sizeLine
    rw [List.size_toArray, List.length_reverse, Array.length_toList]
    exact hsz
  obtain ⟨os, hos, hcs, hds⟩ := id hs
  have hTs : s.TypeIs (.ref sl) "slice" := ⟨os, hos, hcs⟩
  unfold getItem
  try with_reducible refine wpAny_holding ?_
  first | refine wpAny_bind (wpAny_pure ?_) | skip
  refine wpAny_bind (wpAny_sequenceKey ht.typeIs (by decide) ?_)
  refine wpAny_bind (wpAny_callSpecial?_slot (name := Str.ofString "__getitem__") ht.typeIs PyProof.Rows.slot_tuple_getitem
    (wpAny_call_entry PyProof.Rows.slot_tuple_getitem ht.typeIs entry_tuple_getitem ?_ (args_tuple_getitem _ _)))
  show wpAny _ _ (Builtin.Tuple.tupleItemsOf (.ref t) >>= _) _ _ s
  refine wpAny_bind (tupleItemsOf_ ht ?_)
  refine wpAny_bind (wpAny_typeOf hTs ?_)
  rw [if_pos (by decide)]
  refine wpAny_bind (lk_appliedR hs ps ?_)
  have hno : ¬ ((((items.size : Nat) : Int) - 1 == 0 && (-1 : Int) == 1 && items.size == items.size) = true) := by
    intro q
    rw [Bool.and_eq_true, Bool.and_eq_true] at q
    exact absurd (eq_of_beq q.1.2) (by decide)
  show wpAny _ _ (if (((items.size : Nat) : Int) - 1 == 0 && (-1 : Int) == 1 && items.size == items.size) = true then _ else _) _ _ s
  rw [if_neg hno, lk_pickR]
  first
    | exact wpAny_bind (m := Builtin.Tuple.tupleExact _) (wpAny_newObj_type (wpAny_pure ⟨_, rfl, wpAny_pure h⟩) htake)
    | exact wpAny_bind (m := Builtin.Tuple.tupleExact _) (wpAny_newObj_type (wpAny_bind (wpAny_pure (wpAny_pure ⟨_, rfl, wpAny_pure h⟩))) htake)
    | exact wpAny_bind (wpAny_bind (m := Builtin.Tuple.tupleExact _) (wpAny_newObj_type (wpAny_pure (wpAny_pure ⟨_, rfl, wpAny_pure h⟩)) htake))
    | exact wpAny_bind (wpAny_bind (m := Builtin.Tuple.tupleExact _) (wpAny_newObj_type (wpAny_pure ⟨_, rfl, wpAny_pure h⟩) htake))
end
end HT
namespace Lk
open PySem PySem.Spec PyProof.Rows L2
/-! ## 23. a tuple turned: t[::-1] -/
section
variable {c : Ct} {X : Cx} {W : WX} {M M' : Own} {H H' : Hp} {e : Expr} {me : ME} {pos : Pos}
def tRevT (K : PySem.W.Frag) (te : TE) : TE := fun σ H Q => te σ H fun x H1 => ∃ a xs, x = .ref a ∧ SqT K H1 a xs ∧ ∀ p, H1 p = none → Q (.ref p) (upd H1 p (.tup xs.reverse))
theorem pe_revT {te : TE} {k : Nat} {p1 p2 p3 : Pos} (he : PE X e te) : PE X (.Subscript e (.Slice none none (some (.UnaryOp .USub (.Constant (.int 1) k p1) p2)) p3) pos) (tRevT X.K te) := by
  refine ⟨fun pins s σ H Q I h => ?_⟩
  refine Subscript_ (thn (he.run pins s σ H _ I h) fun v s1 ⟨x, H1, I1, r1, q1⟩ => ?_)
  obtain ⟨a, xs, ex, hx, q⟩ := q1
  subst ex
  cases r1
  have hst : PO X (some (.UnaryOp .USub (.Constant (.int 1) k p1) p2)) (tPart (tUn (rU fun i => .int (-i)) (tC (.int 1)))) := po_some (pe_un un_neg pe_int)
  refine wpAny_Slice (thn (po_none.run pins s1 σ H1 (fun o H2 => o = none ∧ H2 = H1) I1 ⟨rfl, rfl⟩) fun vl s2 ⟨l, H2, I2, pl, el, e2⟩ => ?_)
  subst el e2
  refine thn (po_none.run pins s2 σ H2 (fun o H3 => o = none ∧ H3 = H2) I2 ⟨rfl, rfl⟩) fun vu s3 ⟨u, H3, I3, pu, eu, e3⟩ => ?_
  subst eu e3
  refine thn (hst.run pins s3 σ H3 (fun o H4 => o = some (-1) ∧ H4 = H3) I3 ⟨1, rfl, -1, rfl, rfl, rfl⟩) fun vs s4 ⟨o, H4, I4, ps, eo, e4⟩ => ?_
  subst eo e4
  cases pl
  cases pu
  have I5 : Inv X pins σ H4 { s4 with heap := s4.heap.push { cls := .type "slice", data := .fields #[.none, .none, vs] } } := I4.kept (t' := s4.toks) fun b ob q => Heap.get?_push_of_some _ q
  obtain ⟨its, r, ht, hz⟩ := I5.tuple hx
  have hlen := r.length
  show wpAny (model X.prog X.w) X.A (subscriptTail e (.Slice none none (some (.UnaryOp .USub (.Constant (.int 1) k p1) p2)) p3) (.ref a) (.ref s4.heap.objs.size)) (EP X pins σ Q) X.xe { s4 with heap := s4.heap.push { cls := .type "slice", data := .fields #[.none, .none, vs] } }
  refine tail_any (ops := [.ref a, .ref s4.heap.objs.size]) ht.typeIs (PyProof.Rows.slot_tuple_getitem.lookup) ?_ (by with_unfolding_all rfl)
  refine HT.lk_tuple_rev ht (Heap.IsSliceOf.new _ .none .none vs) ps ?_ (by rw [List.size_toArray]; omega)
  refine ⟨.ref _, _, I5.laid (t' := s4.toks) (o := .tup xs.reverse) (fun b ob q => Heap.get?_push_of_some _ q) (Nat.le_refl _) ?_, rfl, q _ (I5.hok.fresh (Nat.le_refl _))⟩
  exact ⟨by rw [List.length_reverse]; exact hz, _, r.reverse, _, Heap.get?_push_size _ rfl, rfl, 0, rfl⟩
@[simp] def dRevT : D → (D → Prop) → Prop
  | .tup xs, Q => Q (.tup xs.reverse)
  | _, _ => False
theorem ee_revT {k : Nat} {p1 p2 p3 : Pos} (hf : Fit c X) (h : EB c X W e me) : EE c X W (.Subscript e (.Slice none none (some (.UnaryOp .USub (.Constant (.int 1) k p1) p2)) p3) pos) (mUn dRevT me) := by
  obtain ⟨t, pp, r⟩ := h
  refine ⟨_, pe_revT pp, fun M H σ ρ Q E QV g hm k x => r M H σ ρ _ E _ g hm (fun d ρ1 M1 H1 v q g1 f1 r1 => ?_) x⟩
  cases d with
  | tup xs =>
    obtain ⟨a, vs, rfl, s, rl⟩ := r1.tup
    refine ⟨a, vs, rfl, hf.K ▸ s, fun l hl => ?_⟩
    have fa : FrA M1 H1 (setM M1 l none) (upd H1 l (.tup vs.reverse)) := FrA.new hl
    exact k _ ρ1 _ _ _ q (g1.frA fa) (f1.trans fa.fr) (rep_newT hl (g1.nohd hl) rl.rev)
  | _ => exact q.elim
end
end Lk

namespace L2
open PySem PySem.Spec PyProof.Rows
theorem tup_mul_one (l : Addr) (items : Array Value) (n : Nat) (dd : Option Addr) (sl : Array (Option Value)) (u : Tok) :
    Meets (Builtin.«tuple.__mul__» ⟨[.ref l, .int 1 u], []⟩) (fun _ R s => s.heap.get? l = some { cls := .type "tuple", dict := dd, data := .seq items n, slots := sl } ∧
      R (.ok (.ret (Value.ref l))) s) :=
  .of_wp fun prog w A R s h => by
    obtain ⟨hp, g, d, tk, os⟩ := s
    obtain ⟨hl, h⟩ := h
    have f1 := AutoSeq1.idx_int
    have c0 : (decide ((1 : Int) < -(2 ^ 63)) || decide ((1 : Int) ≥ 2 ^ 63)) = false := by decide
    wp_walk using wpAny_loadPart' hl
    repeat (first
      | (refine wpAny_ite_false (decide_eq_false (by rw [c0]; exact Bool.false_ne_true)) ?_; wp_walk using wpAny_loadPart' hl)
      | (refine wpAny_ite_true (decide_eq_true (by simp)) ?_; wp_walk using wpAny_loadPart' hl))
    exact ⟨_, rfl, h⟩
theorem tup_mul_low (l : Addr) (items : Array Value) (n : Nat) (dd : Option Addr) (sl : Array (Option Value)) (x : Int) (u : Tok) (c0 : (decide (x < -(2 ^ 63)) || decide (x ≥ 2 ^ 63)) = false) (c1 : (items.isEmpty || x == 1) = false) (c2 : (decide (x ≤ 0) || items.isEmpty) = true) :
    Meets (Builtin.«tuple.__mul__» ⟨[.ref l, .int x u], []⟩) (fun _ R s => s.heap.get? l = some { cls := .type "tuple", dict := dd, data := .seq items n, slots := sl } ∧
      R (.ok (.ret (Value.ref s.heap.objs.size))) { s with heap := s.heap.push { cls := Value.type "tuple", data := Data.seq #[] }, toks := s.toks }) :=
  .of_wp fun prog w A R s h => by
    obtain ⟨hp, g, d, tk, os⟩ := s
    obtain ⟨hl, h⟩ := h
    have f1 := AutoSeq1.idx_int
    wp_walk using wpAny_loadPart' hl
    repeat (first
      | (refine wpAny_ite_false (decide_eq_false (by rw [c0]; exact Bool.false_ne_true)) ?_; wp_walk using wpAny_loadPart' hl)
      | (refine wpAny_ite_false (decide_eq_false (by rw [c1]; exact Bool.false_ne_true)) ?_; wp_walk using wpAny_loadPart' hl)
      | (refine wpAny_ite_true (decide_eq_true c2) ?_; wp_walk using wpAny_loadPart' hl))
    exact ⟨_, rfl, h⟩
def rRepT1 (K : PySem.W.Frag) : R2 := fun x y H Q => ∃ l k xs, x = .ref l ∧ y = .int k ∧ SqT K H l xs ∧ xs ≠ [] ∧ ((k = 1 ∧ Q x H) ∨ (-1000000 ≤ k ∧ k ≤ 0 ∧ ∀ p, H p = none → Q (.ref p) (upd H p (.tup []))))
section
variable {X : Cx}
theorem op_repT1 : OpR X (binaryOp .Mult) (rRepT1 X.K) := by
  intro pins s σ H x y v u Q I rx ry h
  obtain ⟨l, k, xs, rfl, rfl, hT, hne, hq⟩ := h
  cases rx
  obtain ⟨t, rfl⟩ := ry
  obtain ⟨its, r, ⟨⟨cls, dd, data, sl⟩, ho, hc, n, hd⟩, hs⟩ := I.tuple hT
  simp only at hc hd
  subst hc hd
  have hle : its.length = xs.length := r.length.symm
  have hn : its ≠ [] := fun e => hne (by
    rw [e] at hle
    exact List.eq_nil_of_length_eq_zero hle.symm)
  have hi : its.toArray.isEmpty = false := by
    cases its with
    | nil => exact absurd rfl hn
    | cons a b => rfl
  rcases hq with ⟨rfl, q⟩ | ⟨k0, k1, q⟩
  · refine wpAny_binaryOp_repeat_ref (T := "tuple") (U := "int") (by decide) ⟨_, ho, rfl⟩ (fun s' => typeIs_int s' 1 t) noFill_tuple_mul F.fills_int_mul F.slot_int_rmul repeat_tuple F.slot_int_index.lookup
      (call_meets F.slot_int_rmul (typeIs_int s 1 t) F.entry_int_rmul (F.args_int_rmul_2 _ _) (int_rmul_tuple 1 t l its.toArray n dd sl)
        ⟨ho, rfl, ⟨_, ho, rfl⟩, call_meets F.slot_tuple_mul ⟨_, ho, rfl⟩ F.entry_tuple_mul (F.args_tuple_mul_2 _ _) (tup_mul_one l its.toArray n dd sl t) ⟨ho, ?_⟩⟩)
    exact ⟨.ref l, H, I, rfl, q⟩
  · have c0 : (decide (k < -(2 ^ 63)) || decide (k ≥ 2 ^ 63)) = false := by
      rw [decide_eq_false (by omega), decide_eq_false (by omega)] <;> rfl
    have c1 : (its.toArray.isEmpty || k == 1) = false := by
      rw [hi, Bool.false_or]
      exact beq_eq_false_iff_ne.mpr (by omega)
    have c2 : (decide (k ≤ 0) || its.toArray.isEmpty) = true := by
      rw [decide_eq_true k1, Bool.true_or]
    refine wpAny_binaryOp_repeat_ref (T := "tuple") (U := "int") (by decide) ⟨_, ho, rfl⟩ (fun s' => typeIs_int s' k t) noFill_tuple_mul F.fills_int_mul F.slot_int_rmul repeat_tuple F.slot_int_index.lookup
      (call_meets F.slot_int_rmul (typeIs_int s k t) F.entry_int_rmul (F.args_int_rmul_2 _ _) (int_rmul_tuple k t l its.toArray n dd sl)
        ⟨ho, rfl, ⟨_, ho, rfl⟩, call_meets F.slot_tuple_mul ⟨_, ho, rfl⟩ F.entry_tuple_mul (F.args_tuple_mul_2 _ _) (tup_mul_low l its.toArray n dd sl k t c0 c1 c2) ⟨ho, ?_⟩⟩)
    refine ⟨.ref s.heap.objs.size, _, I.laid (t' := s.toks) (o := .tup []) (fun b ob q => Heap.get?_push_of_some _ q) (Nat.le_refl _) ?_, rfl, q _ (I.hok.fresh (Nat.le_refl _))⟩
    exact ⟨by rw [sizeLine_eq]; exact Nat.zero_le _, [], .nil, IsTup.new _ _⟩
end
end L2
namespace Lk
open PySem PySem.Spec PyProof.Rows L2
/-! ## 25. tuple * int, any number -/
section
variable {c : Ct} {X : Cx} {W : WX} {M M' : Own} {H H' : Hp} {a b e : Expr} {me ma mb : ME} {m : M2} {r : MA} {pos : Pos} {es : List Expr} {p : Pos}
@[simp] def dMulT2 : F2
  | .tup xs, .int k, Q => xs ≠ [] ∧ -1000000 ≤ k ∧ k ≤ 1000 ∧ xs.length ≤ 1000 ∧ Q (.tup (List.replicate k.toNat xs).flatten)
  | _, _, _ => False
theorem sp_mulT2 (hf : Fit c X) : OpSp c (fun x y H Q => rRepT X.K x y H Q ∨ rRepT1 X.K x y H Q) dMulT2 := fun M H x y vx vy Qd QV hh bx by_ h k => by
  unfold dMulT2 at h
  split at h
  · rename_i Q xs n
    obtain ⟨h1, h2, h3, h4, q⟩ := h
    by_cases z : 2 ≤ n
    · exact .inl (sp_mulT hf M H _ _ vx vy Qd QV hh bx by_ (show dMulT (.tup xs) (.int n) Qd from ⟨h1, z, h3, h4, q⟩) k)
    · obtain ⟨a, vs, rfl, s, r⟩ := bx.tup
      have l := r.length
      refine .inr ⟨a, n, vs, rfl, by_.int, hf.K ▸ s, fun z => h1 (by rw [z] at l; exact List.length_eq_zero_iff.mp l.symm), ?_⟩
      by_cases z1 : n = 1
      · subst z1
        refine .inl ⟨rfl, ?_⟩
        have e : (List.replicate (Int.toNat 1) xs).flatten = xs := by simp
        rw [e] at q
        exact k _ M H _ q .refl (SqT.sh (vs := vs) bx)
      · refine .inr ⟨h2, by omega, fun p hp => ?_⟩
        have e : n.toNat = 0 := by omega
        rw [e] at q
        exact k _ (setM M p none) _ _ q (FrA.new hp) (rep_newT hp (hd_new hh hp) .nil)
  · exact h.elim
theorem ee_mulT2 (hf : Fit c X) (h : E2 c X W a b m) : EE c X W (.BinOp a .Mult b pos) (mOp dMulT2 m) := ee_op (op_repT.or op_repT1) (sp_mulT2 hf) h
end
end Lk

namespace Lk
open PySem PySem.Spec PyProof.Rows L2
/-! ## 26. empty dicts within data, and what repr shows of them -/
/-! ### read in the model's heap -/
mutual
inductive RdE (hp : Heap) : Value → PyData → Prop
  | none : RdE hp .none .none
  | bool (b : Bool) : RdE hp (.bool b) (.bool b)
  | int (i : Int) (t : Tok) : RdE hp (.int i t) (.int i)
  | str (x : Str) (t : Tok) : RdE hp (.str x t) (.str x)
  | list {p : Addr} {ob : Obj} {us : Array Value} {m : Nat} {ds : List PyData} : hp.get? p = some ob → ob.cls = .type "list" → ob.data = .seq us m → RdEL hp us.toList ds → RdE hp (.ref p) (.list ds)
  | tup {p : Addr} {ob : Obj} {us : Array Value} {m : Nat} {ds : List PyData} : hp.get? p = some ob → ob.cls = .type "tuple" → ob.data = .seq us m → RdEL hp us.toList ds → RdE hp (.ref p) (.tuple ds)
  | dct0 {p : Addr} {ob : Obj} {m : Nat} : hp.get? p = some ob → ob.cls = .type "dict" → ob.data = .dict #[] m → (p == sysModules) = false → RdE hp (.ref p) (.dict [])
inductive RdEL (hp : Heap) : List Value → List PyData → Prop
  | nil : RdEL hp [] []
  | cons {u : Value} {us : List Value} {d : PyData} {ds : List PyData} : RdE hp u d → RdEL hp us ds → RdEL hp (u :: us) (d :: ds)
end
section
variable {hp : Heap} {prog : Program} {w : World}
mutual
theorem RdE.rd : ∀ {u : Value} {d : PyData}, RdE hp u d → ∃ qs, Reads hp u d qs
  | _, _, .none => ⟨_, .none⟩
  | _, _, .bool b => ⟨_, .bool b⟩
  | _, _, .int i t => ⟨_, .int i t⟩
  | _, _, .str x t => ⟨_, .str x t⟩
  | _, _, .list e1 e2 e3 r => let ⟨_, q⟩ := RdEL.rd r; ⟨_, .list e1 e2 e3 q⟩
  | _, _, .tup e1 e2 e3 r => let ⟨_, q⟩ := RdEL.rd r; ⟨_, .tuple e1 e2 e3 q⟩
  | _, _, .dct0 e1 e2 e3 _ => ⟨_, .dict (kvs := []) e1 e2 e3 .nil .nil⟩
theorem RdEL.rd : ∀ {us : List Value} {ds : List PyData}, RdEL hp us ds → ∃ qs, ReadsAll hp us ds qs
  | _, _, .nil => ⟨_, .nil⟩
  | _, _, .cons r rs => let ⟨_, q1⟩ := RdE.rd r; let ⟨_, q2⟩ := RdEL.rd rs; ⟨_, .cons q1 q2⟩
end
/-- what stands below a list, a tuple -/
def RpL (prog : Program) (w : World) (hp : Heap) (us : List Value) (ds : List PyData) : Prop := ∃ qs, ReadAtMost hp (PyData.depthAll ds) qs ∧ ReprAllK prog w qs hp (PyData.depthAll ds) us (PyData.shownAll ds)
theorem dictText0 : dictText (PyData.shownKv []) = dictText [] := by rw [PyData.shownKv]
theorem depKv0 : PyData.depthKv [] = 0 := by rw [PyData.depthKv]
mutual
theorem RdE.rp : ∀ {u : Value} {d : PyData}, RdE hp u d → d.showable = true → d.shown.length ≤ sizeLine → ∃ qs, ReadAtMost hp d.depth qs ∧ ReprK prog w qs hp d.depth u d.shown
  | _, _, .none, _, _ => ⟨[], (fun _ z => nomatch z), by rw [PyData.shown]; exact ReprK.of_is ReprIs.none _ _ _⟩
  | _, _, .bool b, _, _ => ⟨[], (fun _ z => nomatch z), by rw [PyData.shown]; exact ReprK.of_is (ReprIs.bool b) _ _ _⟩
  | _, _, .int i t, sh, _ => ⟨[], (fun _ z => nomatch z), by rw [PyData.shown]; exact ReprK.of_is (ReprIs.int t (of_decide_eq_true (by rw [PyData.showable] at sh; exact sh))) _ _ _⟩
  | _, _, .str x t, _, z => ⟨[], (fun _ z => nomatch z), by rw [PyData.shown] at z ⊢; exact ReprK.of_is (ReprIs.str x t z) _ _ _⟩
  | _, _, .list (p := p) (us := us) (ds := ds) e1 e2 e3 r, sh, z => by
    rw [PyData.shown] at z
    rw [PyData.showable] at sh
    obtain ⟨qs, q1, q2⟩ := RdEL.rp r sh fun t ht => Nat.le_trans (listText_mem_le ht) z
    obtain ⟨as, rr⟩ := RdE.rd (RdE.list e1 e2 e3 r)
    have dep : PyData.depth (.list ds) = PyData.depthAll ds + 1 := by rw [PyData.depth]
    refine ⟨p :: qs, ReadAtMost.cons rr (by omega) q1, ?_⟩
    rw [dep, PyData.shown]
    obtain ⟨l⟩ := us
    cases l with
    | nil =>
      cases r
      rw [PyData.shownAll, listText_nil]
      exact ReprK.listEmpty e1 e2 e3
    | cons y l => exact ReprK.list e1 e2 e3 (not_mem_of_deeper rr (by omega) q1) (by simpa using q2.length_eq) fun i y e => q2.item i y (by simpa using e)
  | _, _, .tup (p := p) (ds := ds) e1 e2 e3 r, sh, z => by
    rw [PyData.shown] at z
    rw [PyData.showable] at sh
    obtain ⟨qs, q1, q2⟩ := RdEL.rp r sh fun t ht => Nat.le_trans (tupleText_mem_le ht) z
    obtain ⟨as, rr⟩ := RdE.rd (RdE.tup e1 e2 e3 r)
    have dep : PyData.depth (.tuple ds) = PyData.depthAll ds + 1 := by rw [PyData.depth]
    refine ⟨p :: qs, ReadAtMost.cons rr (by omega) q1, ?_⟩
    rw [dep, PyData.shown]
    exact ReprK.tuple e1 e2 e3 (not_mem_of_deeper rr (by omega) q1) q2
  | _, _, .dct0 (p := p) e1 e2 e3 e4, _, _ => by
    obtain ⟨as, rr⟩ := RdE.rd (RdE.dct0 e1 e2 e3 e4)
    have dep : PyData.depth (.dict []) = 0 + 1 := by rw [PyData.depth, depKv0]
    refine ⟨[p], ReadAtMost.cons (n := 0) rr (by omega) (fun _ z => nomatch z), ?_⟩
    rw [dep, PyData.shown, dictText0]
    exact ReprK.dict e1 e2 e3 e4 (fun z => nomatch z) .nil
theorem RdEL.rp : ∀ {us : List Value} {ds : List PyData}, RdEL hp us ds → PyData.showableAll ds = true → (∀ t ∈ PyData.shownAll ds, t.length ≤ sizeLine) → RpL prog w hp us ds
  | _, _, .nil, _, _ => ⟨[], (fun _ z => nomatch z), by rw [PyData.shownAll]; exact .nil⟩
  | _, _, .cons (d := d) (ds := ds) r rs, sh, z => by
    rw [PyData.showableAll, Bool.and_eq_true] at sh
    rw [PyData.shownAll] at z
    obtain ⟨b1, a1, k1⟩ := RdE.rp r sh.1 (z _ List.mem_cons_self)
    obtain ⟨b2, a2, k2⟩ := RdEL.rp rs sh.2 fun t ht => z t (List.mem_cons_of_mem _ ht)
    have dep : PyData.depthAll (d :: ds) = max d.depth (PyData.depthAll ds) := by rw [PyData.depthAll]
    refine ⟨b1 ++ b2, ?_, ?_⟩
    · rw [dep]
      exact (a1.mono (Nat.le_max_left _ _)).append (a2.mono (Nat.le_max_right _ _))
    · rw [dep, PyData.shownAll]
      exact .cons ((k1.more fun b hb => List.mem_append_left _ hb).level_le (Nat.le_max_left _ _)) (k2.more_le (fun b hb => List.mem_append_right _ hb) (Nat.le_max_right _ _))
end
theorem RdE.call {A : Around} {E : Value → Shared → Prop} {s : Shared} {Q : Value → Shared → Prop} {u : Value} {d : PyData} (r : RdE s.heap u d) (sh : d.showable = true) (z : d.shown.length ≤ sizeLine) (hg : A.guards = some []) (hu : A.units + (d.depth + 1) < cLine)
    (hQ : ∀ (h' : Heap) (t tk : Tok), (∀ b o, s.heap.get? b = some o → h'.get? b = some o) → Q (.str d.shown t) { s with heap := h', toks := tk }) : wpAny (model prog w) A (call (.builtin "repr") [u]) Q E s := by
  have same : ∀ b o, s.heap.get? b = some o → s.heap.get? b = some o := fun _ _ e => e
  have r0 := r
  cases r with
  | none => exact PySem.P.repr_of_none (hQ s.heap _ _ same)
  | bool k => exact PySem.P.repr_of_bool (hQ s.heap _ _ same)
  | int i t => exact PySem.P.repr_of_int (of_decide_eq_true sh) (hQ s.heap _ _ same)
  | str y t => exact PySem.P.repr_of_str (hQ s.heap _ _ same) z
  | @list p ob us m ds e1 e2 e3 r =>
    obtain ⟨as, rr⟩ := RdE.rd r0
    have dep : PyData.depth (.list ds) = PyData.depthAll ds + 1 := by rw [PyData.depth]
    have tx : PyData.shown (.list ds) = listText (PyData.shownAll ds) := by rw [PyData.shown]
    rw [tx] at z hQ
    rw [PyData.showable] at sh
    obtain ⟨qs, q1, q2⟩ := RdEL.rp (prog := prog) (w := w) r sh fun t ht => Nat.le_trans (listText_mem_le ht) z
    refine call_repr_slot (by omega) ⟨ob, e1, e2⟩ F.slot_list_repr.toG ?_
    obtain ⟨l⟩ := us
    cases l with
    | nil =>
      cases r
      rw [PyData.shownAll, listText_nil] at hQ
      exact call_list_repr_empty ⟨ob, e1, e2⟩ e1 e3 ⟨_, _, rfl, hQ s.heap _ _ same⟩
    | cons y l => exact call_list_reprK e1 e2 e3 (not_mem_of_deeper rr (by omega) q1) (by simpa using q2.length_eq) (fun i y e => q2.item i y (by simpa using e)) hg (fun b _ => Clear.nil b) (by show A.units + 1 + _ < cLine; omega) same (fun h' u tk hk => ⟨_, _, rfl, hQ h' u tk hk⟩) z
  | @tup p ob us m ds e1 e2 e3 r =>
    obtain ⟨as, rr⟩ := RdE.rd r0
    have dep : PyData.depth (.tuple ds) = PyData.depthAll ds + 1 := by rw [PyData.depth]
    have tx : PyData.shown (.tuple ds) = tupleText (PyData.shownAll ds) := by rw [PyData.shown]
    rw [tx] at z hQ
    rw [PyData.showable] at sh
    obtain ⟨qs, q1, q2⟩ := RdEL.rp (prog := prog) (w := w) r sh fun t ht => Nat.le_trans (tupleText_mem_le ht) z
    refine call_repr_slot (by omega) ⟨ob, e1, e2⟩ F.slot_tuple_repr ?_
    exact call_tuple_reprK e1 e2 e3 (not_mem_of_deeper rr (by omega) q1) q2 hg (fun b _ => Clear.nil b) (by show A.units + 1 + _ < cLine; omega) same (fun h' u tk hk => ⟨_, _, rfl, hQ h' u tk hk⟩) z
  | @dct0 p ob m e1 e2 e3 e4 =>
    have dep : PyData.depth (.dict []) = 0 + 1 := by rw [PyData.depth, depKv0]
    have tx : PyData.shown (.dict []) = dictText [] := by rw [PyData.shown, dictText0]
    rw [tx] at z hQ
    refine call_repr_slot (by omega) ⟨ob, e1, e2⟩ F.slot_dict_repr ?_
    exact call_dict_reprK (as := []) (d := 0) e1 e2 e3 e4 (fun z => nomatch z) .nil hg (fun b _ => Clear.nil b) (by show A.units + 1 + _ < cLine; omega) same (fun h' u tk hk => ⟨_, _, rfl, hQ h' u tk hk⟩) z
end
/-! ### read in the abstract heap -/
mutual
inductive DpE (K : PySem.W.Frag) (H : Hp) : V → PyData → Prop
  | non : DpE K H .non .none
  | bl (b : Bool) : DpE K H (.bl b) (.bool b)
  | int (i : Int) : DpE K H (.int i) (.int i)
  | str (x : Str) : DpE K H (.str x) (.str x)
  | lst {p : Addr} {vs : List V} {ds : List PyData} : SqL K H p vs → DpEL K H vs ds → DpE K H (.ref p) (.list ds)
  | tup {p : Addr} {vs : List V} {ds : List PyData} : SqT K H p vs → DpEL K H vs ds → DpE K H (.ref p) (.tuple ds)
  | dct0 {p : Addr} : H p = some (.dK []) → DpE K H (.ref p) (.dict [])
inductive DpEL (K : PySem.W.Frag) (H : Hp) : List V → List PyData → Prop
  | nil : DpEL K H [] []
  | cons {v : V} {vs : List V} {d : PyData} {ds : List PyData} : DpE K H v d → DpEL K H vs ds → DpEL K H (v :: vs) (d :: ds)
end
section
variable {c : Ct} {X : Cx} {W : WX} {M M' : Own} {H H' : Hp} {a b e : Expr} {me ma mb : ME} {m : M2} {r : MA} {pos : Pos} {es : List Expr} {p : Pos} {pins : List (Addr × Obj)} {σ : L2.St} {s : Shared}
mutual
theorem DpE.rd (I : Inv X pins σ H s) : ∀ {d : PyData} {v : V} {u : Value}, DpE X.K H v d → RelV v u → RdE s.heap u d
  | _, _, _, .non, z => by cases z; exact .none
  | _, _, _, .bl b, z => by cases z; exact .bool b
  | _, _, _, .int i, z => by obtain ⟨t, rfl⟩ := z; exact .int i t
  | _, _, _, .str x, z => by obtain ⟨t, rfl⟩ := z; exact .str x t
  | _, _, _, .lst e r, z => by
    cases z
    obtain ⟨its, rv, ⟨o, n, h1, h2, _, h3⟩, _⟩ := I.list e
    exact .list h1 h2 h3 (DpEL.rd I r rv)
  | _, _, _, .tup e r, z => by
    cases z
    obtain ⟨its, rv, ⟨o, h1, h2, n, h3⟩, _⟩ := I.tuple e
    exact .tup h1 h2 h3 (DpEL.rd I r rv)
  | _, _, _, .dct0 e, z => by
    cases z
    obtain ⟨_, h4, vs, kv, o, es, ep, h1, h2, h3, _, pr, _⟩ := dk_of I.hok e
    have : vs = [] := by cases kv; rfl
    subst this
    obtain ⟨l⟩ := es
    have : l = [] := by cases pr; rfl
    subst this
    exact .dct0 h1 h2.1 h3 h4
theorem DpEL.rd (I : Inv X pins σ H s) : ∀ {ds : List PyData} {vs : List V} {us : List Value}, DpEL X.K H vs ds → Vals vs us → RdEL s.heap us ds
  | _, _, _, .nil, z => by cases z; exact .nil
  | _, _, _, .cons r rs, z => by
    cases z with
    | cons z1 z2 => exact .cons (DpE.rd I r z1) (DpEL.rd I rs z2)
end
/-! ### as trees -/
def D.pyE : D → PyData
  | .non => .none
  | .bl b => .bool b
  | .int i => .int i
  | .str x => .str x
  | .tup xs => .tuple (pyEL xs)
  | .lst xs => .list (pyEL xs)
  | .dct _ _ => .dict []
  | _ => .none
where pyEL : List D → List PyData
  | [] => []
  | d :: ds => d.pyE :: pyEL ds
/-- plain data with empty dicts within, at most n deep -/
def PlE : Nat → D → Prop
  | _, .non => True
  | _, .bl _ => True
  | _, .int _ => True
  | _, .str x => PyData.strOk x = true
  | n + 1, .tup xs => ∀ x ∈ xs, PlE n x
  | n + 1, .lst xs => ∀ x ∈ xs, PlE n x
  | _ + 1, .dct ks ds => ks = [] ∧ ds = []
  | _, _ => False
theorem Rep.dpE : ∀ {n : Nat} {d : D} {v : V}, PlE n d → Rep c M H d v → DpE c.K H v d.pyE := by
  intro n
  have all : ∀ {n : Nat} (ih : ∀ {d : D} {v : V}, PlE n d → Rep c M H d v → DpE c.K H v d.pyE) {ds : List D} {vs : List V}, (∀ x ∈ ds, PlE n x) → RepL c M H ds vs → DpEL c.K H vs (D.pyE.pyEL ds) := by
    intro n ih ds
    induction ds with
    | nil =>
      intro vs _ h
      unfold RepL at h
      rw [h]
      exact .nil
    | cons d ds ihd =>
      intro vs hp h
      unfold RepL at h
      obtain ⟨v, r, rfl, h1, h2⟩ := h
      exact .cons (ih (hp d List.mem_cons_self) h1) (ihd (fun x hx => hp x (List.mem_cons_of_mem _ hx)) h2)
  induction n with
  | zero =>
    intro d v p h
    cases d with
    | non => cases (show v = .non from h); exact .non
    | bl b => cases (show v = .bl b from h); exact .bl b
    | int i => cases (show v = .int i from h); exact .int i
    | str x => cases (show v = .str x from h); exact .str x
    | _ => exact p.elim
  | succ n ih =>
    intro d v p h
    cases d with
    | non => cases (show v = .non from h); exact .non
    | bl b => cases (show v = .bl b from h); exact .bl b
    | int i => cases (show v = .int i from h); exact .int i
    | str x => cases (show v = .str x from h); exact .str x
    | tup xs =>
      unfold Rep at h
      obtain ⟨a, vs, rfl, s, r⟩ := h
      rw [D.pyE]
      exact .tup s.seq (all ih p r)
    | lst xs =>
      unfold Rep at h
      obtain ⟨a, vs, rfl, s, r⟩ := h
      rw [D.pyE]
      exact .lst s.seq (all ih p r)
    | dct ks ds =>
      unfold Rep at h
      obtain ⟨a, vs, rfl, s, l, r⟩ := h
      obtain ⟨rfl, rfl⟩ := p
      rw [D.pyE]
      exact .dct0 s.2.2
    | _ => exact p.elim
theorem BRep.dpE {n : Nat} {d : D} {v : V} (p : PlE n d) (h : BRep c M H d v) : DpE c.K H v d.pyE := by
  rcases h with h | ⟨t, a, rfl, m, nh, o⟩
  · exact Rep.dpE p h
  · cases d with
    | lst xs =>
      obtain ⟨vs, e, r⟩ := o
      cases n with
      | zero => exact p.elim
      | succ n =>
        have hp : ∀ x ∈ xs, PlE n x := p
        rw [D.pyE]
        refine .lst (.of e) ?_
        have all : ∀ {ds : List D} {vs : List V}, (∀ x ∈ ds, PlE n x) → RepL c M H ds vs → DpEL c.K H vs (D.pyE.pyEL ds) := by
          intro ds
          induction ds with
          | nil =>
            intro vs _ h
            unfold RepL at h
            rw [h]
            exact .nil
          | cons d ds ihd =>
            intro vs hp h
            unfold RepL at h
            obtain ⟨v, r, rfl, h1, h2⟩ := h
            exact .cons (Rep.dpE (hp d List.mem_cons_self) h1) (ihd (fun x hx => hp x (List.mem_cons_of_mem _ hx)) h2)
        exact all hp r
    | dct ks ds =>
      obtain ⟨vs, e, l, r⟩ := o
      cases n with
      | zero => exact p.elim
      | succ n =>
        obtain ⟨rfl, rfl⟩ := p
        rw [D.pyE]
        exact .dct0 e
    | _ => exact o.elim
theorem depAll_le {n : Nat} : ∀ {xs : List D}, (∀ x ∈ xs, x.pyE.depth ≤ n) → PyData.depthAll (D.pyE.pyEL xs) ≤ n
  | [], _ => by rw [D.pyE.pyEL, PyData.depthAll]; exact Nat.zero_le _
  | x :: xs, h => by
    rw [D.pyE.pyEL, PyData.depthAll]
    exact Nat.max_le.mpr ⟨h x List.mem_cons_self, depAll_le fun y hy => h y (List.mem_cons_of_mem _ hy)⟩
theorem PlE.dep : ∀ {n : Nat} {d : D}, PlE n d → d.pyE.depth ≤ n := by
  intro n
  induction n with
  | zero =>
    intro d h
    cases d <;> first | exact h.elim | (simp [D.pyE, PyData.depth])
  | succ n ih =>
    intro d h
    cases d with
    | tup xs =>
      rw [D.pyE, PyData.depth]
      exact Nat.succ_le_succ (depAll_le fun x hx => ih (h x hx))
    | lst xs =>
      rw [D.pyE, PyData.depth]
      exact Nat.succ_le_succ (depAll_le fun x hx => ih (h x hx))
    | dct ks ds =>
      rw [D.pyE, PyData.depth, depKv0]
      omega
    | _ => first | exact h.elim | simp [D.pyE, PyData.depth]
def rReprE (K : PySem.W.Frag) : R1 := fun xs H Q => ∃ x d, xs = [x] ∧ DpE K H x d ∧ d.showable = true ∧ d.depth ≤ 60 ∧ d.shown.length ≤ sizeLine ∧ Q (.str d.shown) H
theorem call_reprE (hg : X.A.guards = some []) (hu : X.A.units + 66 < cLine) : CallR X (.builtin "repr") (rReprE X.K) := by
  intro pins s σ H xs us Q I r h
  obtain ⟨x, d, rfl, hd, hs, hz, hn, q⟩ := h
  obtain ⟨u, rfl, ru⟩ := r.one
  exact (hd.rd I ru).call hs hn hg (by omega) fun h' t tk hk => ⟨.str _, H, I.kept hk, ⟨_, rfl⟩, q⟩
def D.shownE (d : D) : Str := d.pyE.shown
def ShowE (d : D) : Prop := PlE 60 d ∧ d.pyE.showable = true ∧ d.pyE.shown.length ≤ sizeLine
@[simp] def dReprE : FA
  | [d], Q => ShowE d ∧ Q (.str d.shownE)
  | _, _ => False
theorem sp_reprE (hf : Fit c X) : CallSp c (rReprE X.K) dReprE := fun M H ds vs Qd QV hh b h k => by
  unfold dReprE at h
  split at h
  · obtain ⟨⟨pl, hs, hn⟩, q⟩ := h
    obtain ⟨v, rfl, bb⟩ := b.one
    exact ⟨v, _, rfl, hf.K ▸ bb.dpE pl, hs, pl.dep, hn, k _ M H _ q .refl rfl⟩
  · exact h.elim
theorem ee_reprE (hf : Fit c X) {j : Nat} (rm : Rm j X.A) (hm : X.mg "repr" = none) (ha : AB c X W [e] r) (hg : Gl X "repr" := by rfl) (he : starEach [e] X.env = (false, eval e X.env) :: starEach [] X.env := by rfl) (hpl : (backTo pos (starEach [] X.env)).any (·.1) = false := by rfl) : EE c X W (.Call (.Name "repr" p) [e] [] pos) (mCB dReprE r) :=
  ee_B (call_reprE rm.gd rm.units') (sp_reprE hf) hm ha (by decide +kernel) hg (by decide) (by decide) he hpl
/-- {} -/
@[simp] def mDct0 : ME := fun ρ Q _ => Q (.dct [] []) ρ
theorem ee_dct0 : EE c X W (.Dict [] [] pos) mDct0 :=
  ⟨_, pe_dnewK, fun M H σ ρ Q E QV g hm k x l hl => by
    have fa : FrA M H (setM M l none) (upd H l (.dK [])) := FrA.new hl
    refine k _ ρ _ _ _ hm (g.frA fa) fa.fr ?_
    unfold Rep
    refine ⟨l, [], rfl, ⟨setM_same, g.nohd hl, upd_same⟩, rfl, ?_⟩
    unfold RepL
    rfl⟩
end
/-! ### what is short enough to be shown -/
theorem shownE_cost {B : Nat} (hB : 0 < B) : ∀ {n : Nat} {d : D}, PlE n d → IntsB B n d → d.pyE.shown.length ≤ D.cost B d := by
  intro n
  have all : ∀ {n : Nat} (ih : ∀ {d : D}, PlE n d → IntsB B n d → d.pyE.shown.length ≤ D.cost B d) {xs : List D}, (∀ x ∈ xs, PlE n x) → (∀ x ∈ xs, IntsB B n x) →
      ((PyData.shownAll (D.pyE.pyEL xs)).map (·.length)).sum + 2 * (PyData.shownAll (D.pyE.pyEL xs)).length ≤ D.costL B xs := by
    intro n ih xs
    induction xs with
    | nil => intro _ _; simp [D.pyE.pyEL, PyData.shownAll, D.costL]
    | cons x xs ihx =>
      intro h1 h2
      have a := ih (h1 x List.mem_cons_self) (h2 x List.mem_cons_self)
      have b := ihx (fun y hy => h1 y (List.mem_cons_of_mem _ hy)) (fun y hy => h2 y (List.mem_cons_of_mem _ hy))
      show ((PyData.shownAll (x.pyE :: D.pyE.pyEL xs)).map (·.length)).sum + 2 * (PyData.shownAll (x.pyE :: D.pyE.pyEL xs)).length ≤ _
      rw [PyData.shownAll, D.costL, List.map_cons, List.sum_cons, List.length_cons]
      omega
  have flat : ∀ {n : Nat} {d : D}, (∀ xs, d ≠ .tup xs) → (∀ xs, d ≠ .lst xs) → PlE n d → IntsB B n d → d.pyE.shown.length ≤ D.cost B d := by
    intro n d h1 h2 hp hi
    cases d with
    | non =>
      have e : D.cost B .non = 5 := by simp [D.cost]
      rw [e]
      show (PyData.shown .none).length ≤ _
      decide +kernel
    | bl b =>
      have e : D.cost B (.bl b) = 5 := by simp [D.cost]
      rw [e]
      cases b
      · show (PyData.shown (.bool false)).length ≤ _
        decide +kernel
      · show (PyData.shown (.bool true)).length ≤ _
        decide +kernel
    | dct ks ds =>
      have e : D.cost B (.dct ks ds) = 5 := by simp [D.cost]
      rw [e]
      show (PyData.shown (.dict [])).length ≤ _
      decide +kernel
    | int i =>
      rw [D.cost]
      exact shown_int hB (by cases n <;> exact hi)
    | str s =>
      rw [D.cost]
      exact shown_str (by cases n <;> exact hp)
    | tup xs => exact absurd rfl (h1 xs)
    | lst xs => exact absurd rfl (h2 xs)
    | _ => cases n <;> exact hp.elim
  induction n with
  | zero =>
    intro d hp hi
    cases d with
    | tup xs => exact hp.elim
    | lst xs => exact hp.elim
    | _ => exact flat (fun _ => nofun) (fun _ => nofun) hp hi
  | succ n ih =>
    intro d hp hi
    cases d with
    | tup xs =>
      have a := all ih hp hi
      have b := tupleText_len_le (PyData.shownAll (D.pyE.pyEL xs))
      show (PyData.shown (.tuple (D.pyE.pyEL xs))).length ≤ _
      rw [PyData.shown, D.cost]
      omega
    | lst xs =>
      have a := all ih hp hi
      have b := listText_len_le (PyData.shownAll (D.pyE.pyEL xs))
      show (PyData.shown (.list (D.pyE.pyEL xs))).length ≤ _
      rw [PyData.shown, D.cost]
      omega
    | _ => exact flat (fun _ => nofun) (fun _ => nofun) hp hi
theorem showableE_of {B : Nat} (hB : B ≤ 500) : ∀ {n : Nat} {d : D}, PlE n d → IntsB B n d → d.pyE.showable = true := by
  intro n
  have all : ∀ {n : Nat} (ih : ∀ {d : D}, PlE n d → IntsB B n d → d.pyE.showable = true) {xs : List D}, (∀ x ∈ xs, PlE n x) → (∀ x ∈ xs, IntsB B n x) → PyData.showableAll (D.pyE.pyEL xs) = true := by
    intro n ih xs
    induction xs with
    | nil => intro _ _; rfl
    | cons x xs ihx =>
      intro h1 h2
      show PyData.showableAll (x.pyE :: D.pyE.pyEL xs) = true
      rw [PyData.showableAll, ih (h1 x List.mem_cons_self) (h2 x List.mem_cons_self), ihx (fun y hy => h1 y (List.mem_cons_of_mem _ hy)) (fun y hy => h2 y (List.mem_cons_of_mem _ hy))]
      rfl
  have int_ : ∀ {i : Int}, i.natAbs < 10 ^ B → PyData.showable (.int i) = true := fun {i} h => showable_of (n := 0) (d := .int i) hB trivial h
  induction n with
  | zero =>
    intro d hp hi
    cases d with
    | int i => exact int_ hi
    | non => rfl
    | bl _ => rfl
    | str _ => rfl
    | _ => exact hp.elim
  | succ n ih =>
    intro d hp hi
    cases d with
    | int i => exact int_ hi
    | non => rfl
    | bl _ => rfl
    | str _ => rfl
    | dct _ _ => rfl
    | tup xs => exact all ih hp hi
    | lst xs => exact all ih hp hi
    | _ => exact hp.elim
theorem showE {B : Nat} {d : D} (h0 : 0 < B) (h1 : B ≤ 500) (hp : PlE 60 d) (hi : IntsB B 60 d) (hc : D.cost B d ≤ 16777216) : ShowE d :=
  ⟨hp, showableE_of h1 hp hi, Nat.le_trans (shownE_cost h0 hp hi) (by rw [sizeLine_val]; exact hc)⟩
theorem PlE.of : ∀ {n : Nat} {d : D}, Pl n d → PlE n d := by
  intro n
  induction n with
  | zero => intro d h; cases d <;> first | exact h | exact h.elim
  | succ n ih =>
    intro d h
    cases d with
    | tup xs => exact fun x hx => ih (h x hx)
    | lst xs => exact fun x hx => ih (h x hx)
    | _ => first | exact h | exact h.elim
theorem Pl.pyE : ∀ {n : Nat} {d : D}, Pl n d → d.pyE = d.py := by
  intro n
  induction n with
  | zero => intro d h; cases d <;> first | rfl | exact h.elim
  | succ n ih =>
    have all : ∀ xs : List D, (∀ x ∈ xs, Pl n x) → D.pyE.pyEL xs = D.py.pyL xs := by
      intro xs
      induction xs with
      | nil => intro _; rfl
      | cons x xs ihx => intro h; rw [D.pyE.pyEL, D.py.pyL, ih (h x List.mem_cons_self), ihx fun y hy => h y (List.mem_cons_of_mem _ hy)]
    intro d h
    cases d with
    | tup xs => rw [D.pyE, D.py, all xs h]
    | lst xs => rw [D.pyE, D.py, all xs h]
    | _ => first | rfl | exact h.elim
theorem ShowOk.e {d : D} (h : ShowOk d) : ShowE d := ⟨.of h.1, by rw [h.1.pyE]; exact h.2.1, by rw [h.1.pyE]; exact h.2.2⟩
theorem ShowOk.shE {d : D} (h : ShowOk d) : d.shownE = d.shown := by
  unfold D.shownE D.shown
  rw [h.1.pyE]
end Lk

namespace Lk
open PySem PySem.Spec PyProof.Rows L2
/-! ## 27. range with a step; x[i] op= e -/
section
variable {c : Ct} {X : Cx} {W : WX} {M M' : Own} {H H' : Hp} {a b e : Expr} {me ma mb : ME} {m : M2} {r : MA} {pos : Pos} {es : List Expr} {p : Pos}
/-- lo, lo + k, .. -/
def rangeC (lo k : Int) (n : Nat) : List D := (List.range n).map fun i : Nat => D.int (lo + (i : Int) * k)
theorem rangeC_length (lo k : Int) (n : Nat) : (rangeC lo k n).length = n := by unfold rangeC; rw [List.length_map, List.length_range]
theorem itr_rangeC {lo k : Int} {n : Nat} : ItR c M H (Itc lo k n) (rangeC lo k n) := fun M' H' f _ => by
  refine ⟨fun i d hd => ?_, Nat.le_of_eq (rangeC_length lo k n).symm⟩
  unfold rangeC at hd
  rw [List.getElem?_map] at hd
  have hi : i < n := by
    by_cases z : i < n
    · exact z
    · rw [List.getElem?_eq_none (by rw [List.length_range]; omega)] at hd
      cases hd
  rw [List.getElem?_eq_getElem (by rw [List.length_range]; exact hi), List.getElem_range] at hd
  cases hd
  refine ⟨hi, fun x Hy y => ?_⟩
  obtain ⟨rfl, rfl⟩ := y
  exact ⟨M', .refl, rfl⟩
@[simp] def asI3 (Q : Int → Int → Int → Prop) : List D → Prop
  | [.int i, .int j, .int k] => Q i j k
  | _ => False
@[simp] def iR3 (m : MA) : MI := fun ρ Q E => m ρ (fun ds ρ' => asI3 (fun i j k => ∃ n, RgC i j k n ∧ Q (rangeC i k n) ρ') ds) E
theorem si_r3 {tg x y z : Expr} {m : MA} {p pos : Pos} (hm0 : X.mg "range" = none) (h : AS c X W [x, y, z] m) (hg : Gl X "range" := by rfl)
    (hs : starEach [x, y, z] X.env = (false, eval x X.env) :: starEach [y, z] X.env := by rfl) (hpl : (backTo pos (starEach [y, z] X.env)).any (·.1) = false := by rfl) :
    SI c X W tg (.Call (.Name "range" p) [x, y, z] [] pos) (iR3 m) := by
  obtain ⟨t, pp, r⟩ := h
  refine ⟨_, pi_range3 hg hm0 pp hs hpl, fun M H σ ρ Q E R g hm k x => r M H σ ρ _ E _ g hm (fun ds ρ' M' H' vs q g' f rr => ?_) x⟩
  unfold asI3 at q
  split at q
  · obtain ⟨n, hr, q⟩ := q
    unfold RepL at rr
    obtain ⟨v1, r1, rfl, e1, rr⟩ := rr
    unfold RepL at rr
    obtain ⟨v2, r2, rfl, e2, rr⟩ := rr
    unfold RepL at rr
    obtain ⟨v3, r3, rfl, e3, rr⟩ := rr
    unfold RepL at rr
    subst rr
    have e1 := BRep.int (.inl e1)
    have e2 := BRep.int (.inl e2)
    have e3 := BRep.int (.inl e3)
    subst e1 e2 e3
    exact ⟨_, _, _, n, rfl, hr, k _ ρ' M' H' _ q g' f itr_rangeC⟩
  · exact q.elim
def rIxL0 (K : PySem.W.Frag) : R2 := fun x y H Q => ∃ p xs i v, x = .ref p ∧ y = .int i ∧ SqL K H p xs ∧ 0 ≤ i ∧ atI xs i = some v ∧ Q v H
theorem get_list0 : PGet X (rIxL0 X.K) := by
  intro pins s σ H o i ov iv Q I ro ri h
  obtain ⟨p, xs, k, z, rfl, rfl, hq, h0, he, q⟩ := h
  cases ro
  obtain ⟨t, rfl⟩ := ri
  obtain ⟨its, r, pl, hz⟩ := I.list hq
  obtain ⟨j, g1, g2, g3, g4, g5⟩ := atI_get he
  obtain ⟨w, ew, rw'⟩ := r.get g2
  have fit := line63
  have hl := r.length
  have hj : k.toNat = j := by
    rw [seqIndex_of h0 g5] at g1
    exact Option.some.inj g1
  exact wpAny_getItem_list pl.isList h0 (by omega) (by rw [hj]; simpa using ew) ⟨z, H, I, rw', q⟩
/-- x[i] op= e -/
@[simp] def sAugIx (i : Nat) (f : Int → Int → Int) (mi me : ME) : MS := fun ρ P => atOw i ρ fun _ => mi ρ (fun kd ρ1 => asI (fun k => atOw i ρ1 fun xs => 0 ≤ k ∧ withO (atI xs k) fun old => asI (fun z => me ρ1 (fun d ρ2 => asI (fun y => atOw i ρ2 fun ys =>
  withO (ixN ys.length k) fun j => P.nx (ρ2.put i (some (.lst (ys.set j (.int (f z y))), .ow)))) d) P.ex) old) kd) P.ex
theorem ss_augix (i : Nat) {x : Str} {op : Operator} {f : Int → Int → Int} {ie : Expr} {mi : ME} {px ps : Pos} (ho : PIp X op (ipI f)) (h2 : EE c X W ie mi) (h : EE c X W e me) (hN : X.N[i]? = some x := by rfl) (hv : Vis X.env.scope x := by first | exact Or.inl rfl | exact Or.inr (Or.inl rfl) | exact Or.inr (Or.inr rfl)) (hd : (x == ("__debug__" : Str)) = false := by decide)
    (hcd : (x == ("__classdict__" : Str)) = false := by decide)
    (ha : ∀ ov iv new, augStore ie ov iv new = (do holding [new, ov, iv] (setItem ov iv new); release [new, ov, iv] []; pure .next) := by intros; rfl) : SS c X W (.AugAssign (.Subscript (.Name x px) ie ps) op e pos) (sAugIx i f mi me) := by
  obtain ⟨t, p, r⟩ := h
  obtain ⟨t2, p2, r2⟩ := h2
  refine ⟨_, ps_augS (pe_var hN hv hd hcd) p2 get_list0 p ho set_list ha, fun M H σ ρ P D g hm k => ?_⟩
  unfold sAugIx at hm
  obtain ⟨xs0, e0, hm⟩ := atOw_of hm
  obtain ⟨a, vs0, hσ, hH0, _⟩ := g.ownL e0
  refine ⟨.ref a, hσ, ?_⟩
  refine r2 M H σ ρ _ _ _ g hm (fun kd ρ1 M1 H1 w q1 g1 f1 r1 => ?_) k.xok
  cases kd with
  | int kk =>
    have r1 : w = .int kk := r1
    subst r1
    obtain ⟨xs, e1, q1⟩ := atOw_of q1
    obtain ⟨k0, q1⟩ := q1
    obtain ⟨old, eo, q1⟩ := withO_of q1
    obtain ⟨b, vs, hb, hH, rl, m, n⟩ := g1.ownL e1
    rw [hσ] at hb
    cases hb
    obtain ⟨vo, ev, ro⟩ := rl.atI eo
    refine ⟨a, vs, kk, vo, rfl, rfl, .of hH, k0, ev, ?_⟩
    cases old with
    | int z =>
      have ro : vo = .int z := ro
      subst ro
      refine r M1 H1 σ ρ1 _ _ _ g1 q1 (fun d ρ2 M2 H2 y q2 g2 f2 r2' => ?_) (k.xok.fr f1)
      cases d with
      | int y0 =>
        have r2' : y = .int y0 := r2'
        subst r2'
        obtain ⟨ys, e2, q2⟩ := atOw_of q2
        obtain ⟨j, ej, q2⟩ := withO_of q2
        obtain ⟨b2, vs2, hb2, hH2, rl2, m2, n2⟩ := g2.ownL e2
        rw [hσ] at hb2
        cases hb2
        refine ⟨z, y0, rfl, rfl, a, vs2, kk, j, rfl, rfl, hH2, by rw [rl2.length]; exact ej, ?_⟩
        have ri : Rep c M2 H2 (.int (f z y0)) (.int (f z y0)) := rfl
        obtain ⟨g3, f3⟩ := g2.write (d := .lst (ys.set j (.int (f z y0)))) (o := .lst (vs2.set j (.int (f z y0)))) e2 hσ ⟨vs2.set j (.int (f z y0)), upd_same, (rl2.set ri j).updO m2⟩
        exact k.nx _ M2 _ _ q2 g3 ((f1.trans f2).trans f3)
      | _ => exact q2.elim
    | _ => exact q1.elim
  | _ => exact q1.elim
end
end Lk

namespace Lk
open PySem PySem.Spec PyProof.Rows L2
/-! ## 28. flags as integers -/
section
variable {c : Ct} {X : Cx} {W : WX} {M M' : Own} {H H' : Hp} {a b e : Expr} {me ma mb : ME} {m : M2} {r : MA} {pos : Pos} {es : List Expr} {p : Pos}
def bI (b : Bool) : Int := if b = true then 1 else 0
@[simp] theorem bI_t : bI true = 1 := rfl
@[simp] theorem bI_f : bI false = 0 := rfl
def rBI (f : Int → Int → Int) : R2 := fun x y H Q => ∃ b j, x = .bl b ∧ y = .int j ∧ Q (.int (f (bI b) j)) H
theorem op_addB : OpR X (binaryOp .Add) (rBI fun i j => i + j) := by
  intro pins s σ H x y v u Q I rx ry h
  obtain ⟨b, j, rfl, rfl, q⟩ := h
  cases rx
  obtain ⟨t, rfl⟩ := ry
  exact PySem.IntBool.add_bool_int ⟨.int _, H, I.tok _, ⟨_, rfl⟩, q⟩
theorem op_subB : OpR X (binaryOp .Sub) (rBI fun i j => i - j) := by
  intro pins s σ H x y v u Q I rx ry h
  obtain ⟨b, j, rfl, rfl, q⟩ := h
  cases rx
  obtain ⟨t, rfl⟩ := ry
  exact PySem.IntBool.sub_bool_int ⟨.int _, H, I.tok _, ⟨_, rfl⟩, q⟩
@[simp] def dBI (f : Int → Int → Int) : F2
  | .int i, .int j, Q => Q (.int (f i j))
  | .bl b, .int j, Q => Q (.int (f (bI b) j))
  | _, _, _ => False
theorem sp_BI (f : Int → Int → Int) : OpSp c (fun x y H Q => rI0 (fun i j => .int (f i j)) x y H Q ∨ rBI f x y H Q) (dBI f) := fun M H x y vx vy Qd QV hh bx by_ h k => by
  unfold dBI at h
  split at h
  · exact .inl ⟨_, _, bx.int, by_.int, k _ M H _ h .refl rfl⟩
  · exact .inr ⟨_, _, bx.bl, by_.int, k _ M H _ h .refl rfl⟩
  · exact h.elim
theorem ee_addB (h : E2 c X W a b m) : EE c X W (.BinOp a .Add b pos) (mOp (dBI fun i j => i + j) m) := ee_op (op_add.or op_addB) (sp_BI fun i j => i + j) h
theorem ee_subB (h : E2 c X W a b m) : EE c X W (.BinOp a .Sub b pos) (mOp (dBI fun i j => i - j) m) := ee_op (op_sub.or op_subB) (sp_BI fun i j => i - j) h
@[simp] theorem eqv_bI {b : Bool} {i : Int} : D.eqv (.bl b) (.int i) = decide (bI b = i) := by
  unfold D.eqv D.py
  cases b <;> simp [PyData.eqv, bI] <;> rw [Bool.eq_iff_iff] <;> simp
end
end Lk

namespace Lk
open PySem PySem.Spec PyProof.Rows L2
/-! ## 29. enumerate of a tuple -/
theorem meets_enumerate_new1 {v : Value} {o : Obj} {H : Heap → Prop} (B : Begins v o H) :
    Meets (Builtin.«enumerate.__new__» ⟨[.type "enumerate", v], []⟩) (fun _ R s => H s.heap ∧
      R (.ok (.ret (.ref (s.heap.push o).objs.size))) { s with heap := (s.heap.push o).push { cls := .type "enumerate", data := .fields #[.none, .bool false, .ref s.heap.objs.size, rawInt 0, .none, .none] } }) :=
  .of_wp fun prog w A R s h => by
    obtain ⟨hp, g, d, tk, os⟩ := s; obtain ⟨h1, h⟩ := h
    have hsub := sub_enumerate
    have q1 : ∀ {A' : Around} {E : Value → Shared → Prop} {Q : Value → Shared → Prop}, Q (.ref hp.objs.size) ⟨hp.push o, g, d, tk, os⟩ → wpAny (model prog w) A' (pyIter v) Q E ⟨hp, g, d, tk, os⟩ :=
      fun q => B.iter prog w _ _ ⟨hp, g, d, tk, os⟩ _ h1 q
    wp_walk using q1
    refine wpAny_stack_any fun st => wpAny_pure ?_
    split
    · rename_i c _ _ _ _ _
      cases (c == Value.type "enumerate")
      · wp_walk using q1
        exact ⟨_, rfl, h⟩
      · wp_walk using q1
        exact ⟨_, rfl, h⟩
    · wp_walk using q1
      exact ⟨_, rfl, h⟩
theorem call_enumerate_tuple {prog : Program} {w : World} {A : Around} {E : Value → Shared → Prop} {s : Shared} {l : Addr} {items : Array Value} {Q : Value → Shared → Prop} (hL : s.heap.IsTuple l items)
    (h : ∀ h', IsEnum h' (s.heap.objs.size + 1) s.heap.objs.size 0 .none → h'.IsTupleIter s.heap.objs.size l 0 → h'.objs.size = s.heap.objs.size + 2 →
      (∀ b o, s.heap.get? b = some o → h'.get? b = some o) → Q (.ref (s.heap.objs.size + 1)) { s with heap := h' }) :
    wpAny (model prog w) A (call (.type "enumerate") [.ref l]) Q E s := by
  refine callType_new F.called_enumerate (by decide) (F.typeCall_enumerate_1 _) (F.newCall_enumerate_1 _) (fun obj => F.args_object_init_2 obj _) F.entry_enumerate_new
    (meets_enumerate_new1 (begins_tuple l items)) ⟨hL, ?_⟩
  have hz : (s.heap.push { cls := .type "tuple_iterator", data := .fields #[.ref l, .int 0 0] }).objs.size = s.heap.objs.size + 1 := Heap.size_push ..
  show _ ∧ _
  rw [hz]
  have he : IsEnum ((s.heap.push { cls := .type "tuple_iterator", data := .fields #[.ref l, .int 0 0] }).push
      { cls := .type "enumerate", data := .fields #[.none, .bool false, .ref s.heap.objs.size, rawInt 0, .none, .none] }) (s.heap.objs.size + 1) s.heap.objs.size 0 .none := by
    have := Heap.get?_push_size (s.heap.push { cls := .type "tuple_iterator", data := .fields #[.ref l, .int 0 0] })
      (o := { cls := .type "enumerate", data := .fields #[.none, .bool false, .ref s.heap.objs.size, rawInt 0, .none, .none] }) rfl
    rw [hz] at this; exact this
  refine ⟨⟨_, he, rfl⟩, h _ he ⟨_, Heap.get?_push_of_some _ (Heap.get?_push_size _ rfl), rfl, rfl⟩ (by rw [Heap.size_push, hz]) fun b o x => Heap.get?_push_of_some _ (Heap.get?_push_of_some _ x)⟩
/-- the tuple at a, each item in a new pair -/
def IteT (K : PySem.W.Frag) (a : Addr) : It :=
  ⟨fun i H => ∃ (xs : List V) (x : V), SqT K H a xs ∧ xs[i]? = some x, fun i H v H' => ∃ T x, v = .ref T ∧ H T = none ∧ H' = upd H T (.tup [.int (i : Nat), x]) ∧ ∀ xs, SqT K H a xs → xs[i]? = some x, fun i H => ∃ xs : List V, SqT K H a xs ∧ xs.length = i⟩
theorem turn_enumT {P : Program} {w : World} {K : PySem.W.Frag} {elts : List Expr} {kk : Nat} {tpos : Pos} (a e it : Addr) (ha : a ≠ it) (hea : e ≠ a) :
    Turn P w K (.Tuple elts kk tpos) (IteT K a) [e, it] e (fun i h => (∃ old, IsEnum h e it ((i : Nat) : Int) old) ∧ h.IsTupleIter it a i ∧ e ≠ it) where
  mem := by simp
  obj := fun i h st b hb => by
    obtain ⟨⟨old, he⟩, ⟨o, ho, hc, hd⟩, _⟩ := st
    have e' : b = e ∨ b = it := by simpa using hb
    rcases e' with z | z
    · rw [z]; exact ⟨_, he, fun v q => nomatch q⟩
    · rw [z]; exact ⟨o, ho, fun v q => by rw [hd] at q; cases q⟩
  keep := fun i h h' st k => let ⟨⟨old, he⟩, hi, hne⟩ := st; ⟨⟨old, k e (by simp) _ he⟩, hi.at fun o q => k it (by simp) o q, hne⟩
  item := by
    intro X hP hw hK hc i pins s σ H E I hf st hg
    subst hP hw hK
    obtain ⟨⟨old, he⟩, hit, hne⟩ := st
    obtain ⟨xs, x, hq, hx⟩ := hg
    obtain ⟨its, rv, p, hz⟩ := I.tuple hq
    obtain ⟨u, hu, ru⟩ := rv.get hx
    have hel : e < s.heap.objs.size := Heap.lt_size he
    have hil : it < s.heap.objs.size := by obtain ⟨_, q, _⟩ := hit; exact Heap.lt_size q
    have hl : i < its.toArray.size := by
      have := List.getElem?_eq_some_iff.mp hu
      obtain ⟨z, _⟩ := this
      simpa using z
    refine wpAny_pyNext_enum_itemD (Draws.tuple (A := X.A.in1) (I.ok.hd hc) it a ha its.toArray) he ⟨hit, p⟩ hl hne (by simp [hne, hea]) fun u' h' tk hu' ho hit' hT hsz hk => ?_
    obtain rfl : u' = u := by
      simp at hu'
      rw [hu] at hu'
      exact (Option.some.inj hu').symm
    refine ⟨_, rfl, wpAny_letOwnedTupleGo_enum (s := { s with heap := h', toks := tk + 1 }) ho fun h'' he' sb => ?_⟩
    have hT2 : h''.get? s.heap.objs.size = some { cls := .type "tuple", data := .seq #[.int i tk, u'] } := (sb.2 _ (Nat.ne_of_gt hel)).trans hT
    have new : ObjOk X.prog X.w (upd H s.heap.objs.size (.tup [.int (i : Nat), x])) h'' s.heap.objs.size (.tup [.int (i : Nat), x]) :=
      ⟨by show 2 ≤ sizeLine; decide, [.int i tk, u'], .cons ⟨_, rfl⟩ (.cons ru .nil), ⟨_, hT2, rfl, _, rfl⟩⟩
    have I1 : Inv X pins σ (upd H s.heap.objs.size (.tup [.int (i : Nat), x])) { s with heap := h'', toks := tk + 1 } :=
      I.turnedNew (ch := [e, it]) (fun b ob hb q => (sb.2 b (fun z => hb (by simp [z]))).trans (hk b ob (fun z => hb (by simp [z])) (fun z => hb (by simp [z])) q)) hf (Nat.le_refl _) new
    refine ⟨.ref s.heap.objs.size, _, I1, rfl, ⟨_, x, rfl, I.hok.fresh (Nat.le_refl _), rfl, fun ys hy => by rw [I.tuple_inj hy hq]; exact hx⟩, ⟨⟨u', ?_⟩, hit'.1.at fun o q => (sb.2 it (Ne.symm hne)).trans q, hne⟩, fun b hb => ?_⟩
    · have e1 : ((i + 1 : Nat) : Int) = (i : Int) + 1 := by omega
      rw [e1]; exact he'
    · have hb' : b < s.heap.objs.size := by
        have e' : b = e ∨ b = it := by simpa using hb
        rcases e' with z | z
        · rw [z]; exact hel
        · rw [z]; exact hil
      rw [upd_ne (Nat.ne_of_lt hb')]
      exact (hf b hb).1
  done := by
    intro X hP hw hK hc i pins s σ H E I hf st hg
    subst hP hw hK
    obtain ⟨⟨old, he⟩, hit, hne⟩ := st
    obtain ⟨xs, hq, hx⟩ := hg
    obtain ⟨its, rv, p, hz⟩ := I.tuple hq
    obtain ⟨f0, f1, f2, f3, f4, f5⟩ := hf it (by simp)
    have hl : i = its.toArray.size := by
      have := rv.length
      simp
      omega
    subst hl
    exact wpAny_pyNext_enum_endD (Draws.tuple (A := X.A.in1) (I.ok.hd hc) it a ha its.toArray) he ⟨hit, p⟩ fun h' eb => ⟨rfl, I.turned (t' := s.toks) (fun b o hb q => eb b o hb q) f0 f1 f3 f4 f5⟩
  self := fun A i s Q E st h => let ⟨⟨_, he⟩, _⟩ := st; wpAny_pyIter_enum he h
def iEnumT (K : PySem.W.Frag) (ta : TA) : TI := fun σ H R => ta σ H fun vs H1 => ∃ a xs, vs = [.ref a] ∧ SqT K H1 a xs ∧ R (IteT K a) H1
theorem pi_enumT {X : Cx} {e : Expr} {ta : TA} {p pos tpos : Pos} {elts : List Expr} {kk : Nat} (hg : Gl X "enumerate") (hm : X.mg "enumerate" = none) (ha : PA X [e] ta) (hs : starEach [e] X.env = [(false, eval e X.env)] := by rfl) :
    PI X (.Tuple elts kk tpos) (.Call (.Name "enumerate" p) [e] [] pos) (iEnumT X.K ta) := by
  refine ⟨fun pins s σ H R I h => ?_⟩
  refine Call_ (ld_blt I hg hm boot_enumerate (PyProof.Rows.callWith_type1 (thn (ha.run pos pins s σ H _ I h) fun us s1 ⟨vs, H1, I1, r1, q1⟩ => ?_) hs rfl))
  obtain ⟨a, xs, ex, hq, q⟩ := q1
  subst ex
  cases r1 with
  | cons r rr =>
    cases rr
    cases r
    obtain ⟨its, rv, p', hz⟩ := I1.tuple hq
    have hal : a < s1.heap.objs.size := by
      obtain ⟨o, q, _⟩ := p'
      exact Heap.lt_size q
    refine call_enumerate_tuple p' fun h' he hit hsz hk => wpAny_pyIter_enum he ?_
    have I2 : Inv X pins σ H1 { s1 with heap := h' } := I1.kept (t' := s1.toks) hk
    refine ⟨s1.heap.objs.size + 1, [s1.heap.objs.size + 1, s1.heap.objs.size], _, _, H1, rfl, I2, turn_enumT a (s1.heap.objs.size + 1) s1.heap.objs.size (Nat.ne_of_lt hal) (Nat.ne_of_gt (Nat.lt_succ_of_lt hal)), ⟨⟨.none, he⟩, hit, Nat.succ_ne_self _⟩, fun b hb => ?_, q⟩
    have e' : b = s1.heap.objs.size + 1 ∨ b = s1.heap.objs.size := by simpa using hb
    have hle : s1.heap.objs.size ≤ b := by
      rcases e' with z | z
      · rw [z]; exact Nat.le_add_right _ _
      · rw [z]; exact Nat.le_refl _
    exact I1.fpOk hle (I1.hok.fresh hle)
section
variable {c : Ct} {X : Cx} {W : WX} {M M' : Own} {H H' : Hp} {a b e : Expr} {me ma mb : ME} {m : M2} {r : MA} {pos : Pos} {es : List Expr} {p : Pos}
theorem itr_enumT {K : PySem.W.Frag} {a : Addr} {vs : List V} {xs : List D} (hK : c.K = K) (s0 : ShT c M H a vs) (r : RepL c M H xs vs) : ItR c M H (IteT K a) (enumD 0 xs) := fun M' H' f hd => by
  have s : SqT K H' a vs := hK ▸ (s0.fr f).seq
  have r' := r.fr f
  refine ⟨fun i d hi => ?_, ⟨vs, s, by rw [enumD_length]; exact r.length⟩⟩
  obtain ⟨x, hx, rfl⟩ := enumD_get hi
  obtain ⟨v, hv, rv⟩ := r'.get hx
  refine ⟨⟨vs, v, s, hv⟩, fun z Hy q => ?_⟩
  obtain ⟨T, w, rfl, hT, rfl, q1⟩ := q
  have z1 := q1 vs s
  rw [hv] at z1
  cases z1
  refine ⟨setM M' T none, FrA.new hT, rep_newT hT (hd_new hd hT) (.cons ?_ (.cons rv .nil))⟩
  show V.int (i : Int) = V.int ((0 + i : Nat) : Int)
  rw [Nat.zero_add]
@[simp] def iEnT (m : MA) : MI := fun ρ Q E => m ρ (fun ds ρ' => match ds with
  | [.tup xs] => Q (enumD 0 xs) ρ'
  | _ => False) E
theorem si_enumT {elts : List Expr} {kk : Nat} {tpos : Pos} (hf : Fit c X) (hm0 : X.mg "enumerate" = none) (h : AS c X W [e] r) (hg : Gl X "enumerate" := by rfl) (hs : starEach [e] X.env = [(false, eval e X.env)] := by rfl) : SI c X W (.Tuple elts kk tpos) (.Call (.Name "enumerate" p) [e] [] pos) (iEnT r) := by
  obtain ⟨t, pp, r⟩ := h
  refine ⟨_, pi_enumT hg hm0 pp hs, fun M H σ ρ Q E R g hm k x => r M H σ ρ _ E _ g hm (fun ds ρ' M' H' vs q g' f rr => ?_) x⟩
  split at q
  · unfold RepL at rr
    obtain ⟨v, w, rfl, h1, rr⟩ := rr
    unfold RepL at rr
    subst rr
    unfold Rep at h1
    obtain ⟨a, vs, rfl, s1, r1⟩ := h1
    exact ⟨a, vs, rfl, hf.K ▸ s1.seq, k _ ρ' M' H' _ q g' f (itr_enumT hf.K s1 r1)⟩
  · exact q.elim
end
end Lk

namespace Lk
open PySem PySem.Spec PyProof.Rows L2
/-! ## 30. for .. in enumerate(a name's own list): y = e; the list is the name's own again -/
section
variable {c : Ct} {X : Cx} {W : WX} {M M' : Own} {H H' : Hp} {σ : L2.St} {ρ : Ev} {a : Addr} {me : ME}
theorem Good.put_none {i : Nat} (g : Good c M H σ ρ) : Good c M H σ (ρ.put i none) := by
  refine ⟨g.hand, by rw [Ev.put_length]; exact g.ev.len, fun j => ?_⟩
  rcases put_none_get (ρ := ρ) (i := i) (j := j) with z | ⟨_, z⟩
  · rw [z]
    cases σ.getD j none <;> trivial
  · rw [z]
    exact g.ev.at_ j
theorem Good.relabG {l : Lab} (hm : M a = some l) (t : Option Lab) (h1 : ∀ j d, ρ.get j = some (d, .ow) → Lab.sl j ≠ l) (h2 : Lab.tm ≠ l) (g : Good c M H σ ρ) : Good c (setM M a t) H σ ρ := by
  refine ⟨g.hand.rel hm t, g.ev.len, fun j => ?_⟩
  have q := g.ev.at_ j
  have h1 := h1 j
  generalize ρ.get j = s at q h1 ⊢
  generalize σ.getD j none = o at q ⊢
  cases s with
  | none => cases o <;> trivial
  | some p =>
    obtain ⟨d', fl⟩ := p
    cases o with
    | none => cases fl <;> exact q
    | some w =>
      cases fl with
      | sh => exact Rep.rel hm t q
      | ow => exact ⟨OwRep.rel hm (h1 d' rfl) t q.1, q.2⟩
      | fz => exact OwRep.rel hm h2 t q
theorem set_self {i : Nat} {o : Option V} (h : σ[i]? = some o) : σ.set i o = σ := by
  refine List.ext_getElem? fun j => ?_
  by_cases e : i = j
  · subst e
    have l : i < σ.length := by
      by_cases z : i < σ.length
      · exact z
      · rw [List.getElem?_eq_none (by omega)] at h
        cases h
    rw [List.getElem?_set_self l, h]
  · rw [List.getElem?_set_ne e]
abbrev setMi (M : Own) (a : Addr) (i : Nat) : Own := setM M a (some (.sl i))
@[simp] def sForEn (i j : Nat) (bd : MG) (me : ME) : MS := fun ρ P => atOw i ρ fun xs => forL bd (sAsg me (nSet j)) (enumD 0 xs) (ρ.put i none) { P with nx := fun ρ' => P.nx (ρ'.put i (some (.lst xs, .ow))), bk := P.bk, ct := P.ct }
theorem ss_forEn (i j : Nat) {x y : Str} {px pc pe py ps pos tpos : Pos} {e : Expr} {elts : List Expr} {kk : Nat} {is : List Nat} {bd : MG} (np : c.pin = none) (hp : PassesOwn (model X.prog X.w) X.A X.env X.xe) (hc : X.calm = true) (hf : Fit c X) (hm0 : X.mg "enumerate" = none) (hN : X.N.Nodup)
    (hg : SG c X is (.Tuple elts kk tpos) bd) (he : EE c X W e me) (hij : i ≠ j) (his : i ∉ is) (hNi : X.N[i]? = some x := by rfl) (hv : Vis X.env.scope x := by first | exact Or.inl rfl | exact Or.inr (Or.inl rfl) | exact Or.inr (Or.inr rfl)) (hd : (x == ("__debug__" : Str)) = false := by decide)
    (hcd : (x == ("__classdict__" : Str)) = false := by decide) (hNj : X.N[j]? = some y := by rfl) (hxj : Loc X.env.scope y := by first | exact Or.inl rfl | exact Or.inr rfl) (hsw : swapsWith e (some (.Name y py)) ps.line X.env = pure false := by rfl)
    (hfj : X.fn y = true ∨ X.env.scope.names.lookup y = some .local := by first | exact .inl rfl | exact .inr rfl) (hge : Gl X "enumerate" := by rfl) (hst : starEach [.Name x px] X.env = (false, eval (.Name x px) X.env) :: starEach [] X.env := by rfl)
    (hs : ∀ z, foldedSetIterable (.Call (.Name "enumerate" pc) [.Name x px] [] pe) X.env z = pure z := by intro _; rfl) : SS c X W (.For (.Tuple elts kk tpos) (.Call (.Name "enumerate" pc) [.Name x px] [] pe) [.Assign [.Name y py] e ps] [] pos) (sForEn i j bd me) := by
  obtain ⟨⟨g, pg, rg⟩, _⟩ := hg
  obtain ⟨t, p, r⟩ := he
  refine ⟨_, ps_for hp hc (pi_enum hge hm0 (pa_cons (pe_var hNi hv hd hcd) pa_nil hst) hst) pg (pss_one (ps_set hN hNj hxj p hsw hfj)) hs, fun M H σ ρ P D gd hm k => ?_⟩
  obtain ⟨xs, e0, hm⟩ := atOw_of hm
  obtain ⟨a, vs, hσ, hH, rl, m0, n0⟩ := gd.ownL e0
  refine ⟨.ref a, hσ, a, vs, rfl, .of hH, ?_⟩
  let M1 := setM M a (some (.pd 7))
  have g1 : Good c M1 H σ (ρ.put i none) := gd.put_none.relabG m0 _ (fun j' d' q z => by
    have : j' = i := by cases z; rfl
    subst this
    rcases put_none_get (ρ := ρ) (i := j') (j := j') with w | ⟨w, _⟩
    · rw [w] at q
      cases q
    · exact w rfl) (fun z => nomatch z)
  have f1 : Fr c M H M1 H := ⟨fun b o hb hl _ => ⟨hb, setM_ne fun z => hl i (by rw [z]; exact m0)⟩⟩
  have m1 : M1 a = some (.pd 7) := setM_same
  have ns : ∀ i, M1 a ≠ some (.sl i) := fun i z => by rw [m1] at z; cases z
  have it : ItR c M1 H (Ite X.K a) (enumD 0 xs) := itr_enum hf.K hH ns n0 (rl.rel m0 _)
  have unf : ∀ {M' : Own} {H' : Hp}, Fr c M1 H M' H' → Fr c M H M' H' := fun f => ⟨fun b o hb hl hh => by
    obtain ⟨h1, m2⟩ := f.keep b o hb (by
      by_cases z : b = a
      · rw [z]; exact ns
      · intro i q
        rw [show M1 b = M b from setM_ne z] at q
        exact hl i q) hh
    exact ⟨h1, m2.trans (setM_ne fun z => hl i (by rw [z]; exact m0))⟩⟩
  let P2 : Po := { P with nx := fun ρ' => P.nx (ρ'.put i (some (.lst xs, .ow))), bk := P.bk, ct := P.ct }
  let At : Nat → L2.St → Hp → Prop := fun n σ' H' => ∃ (Mi : Own) (ρi : Ev), Fr c M1 H Mi H' ∧ Good c Mi H' σ' ρi ∧ σ'[i]? = some (some (.ref a)) ∧ forL bd (sAsg me (nSet j)) ((enumD 0 xs).drop n) ρi P2
  refine ⟨fun n m σ' H' => m = (enumD 0 xs).length - n ∧ n ≤ (enumD 0 xs).length ∧ At n σ' H', ⟨(enumD 0 xs).length, by rw [Nat.sub_zero], Nat.zero_le _, M1, _, .refl, g1, hσ, hm⟩, ?_⟩
  rintro n m σ2 H2 ⟨rfl, hi2, Mi, ρi, f, gi, hσ2, go⟩
  obtain ⟨itm, stp⟩ := it Mi H2 f gi.hand
  by_cases hlt : n < (enumD 0 xs).length
  · have hx : (enumD 0 xs)[n]? = some (enumD 0 xs)[n] := List.getElem?_eq_getElem hlt
    obtain ⟨jg, jy⟩ := itm n _ hx
    rw [drop_at hx] at go
    refine .inr ⟨jg, At (n + 1), fun σ' H' a => ⟨(enumD 0 xs).length - (n + 1), by omega, rfl, hlt, a⟩, fun y H3 yl => ?_⟩
    obtain ⟨My, fa, ry⟩ := jy y H3 yl
    refine rg My H3 _ _ _ y _ _ (gi.frA fa) ry go fun ρ2 σ3 q2 g2 kb => ?_
    refine r My H3 σ3 ρ2 _ _ _ g2 q2 (fun d ρ' M' H' v q' g' f' rr => ?_) fun x ρ' cls dd M' H' q' g' f' r' => k.ex x ρ' cls dd M' H' _ q' g' (unf ((f.trans fa.fr).trans f')) r'
    refine ⟨M', _, (f.trans fa.fr).trans f', g'.put rr, ?_, q'⟩
    rw [List.getElem?_set_ne (Ne.symm hij), kb.2 i his]
    exact hσ2
  · have e : n = (enumD 0 xs).length := by omega
    subst e
    rw [List.drop_length] at go
    have go : P.nx (ρi.put i (some (.lst xs, .ow))) := go
    obtain ⟨hH2, mi⟩ := f.keep a _ hH ns n0
    have mi : Mi a = some (.pd 7) := mi.trans m1
    have rl2 : RepL c Mi H2 xs vs := (rl.rel m0 _).fr f
    have g3 : Good c (setMi Mi a i) H2 σ2 ρi := gi.relabG mi _ (fun j' d' q z => by cases z) (fun z => nomatch z)
    have g4 := g3.put_ow (i := i) (d := .lst xs) np n0 ⟨vs, hH2, rl2.rel mi _⟩
    rw [set_self hσ2] at g4
    refine .inl ⟨stp, k.nx _ _ H2 σ2 go g4 ⟨fun b o hb hl hh => ?_⟩⟩
    have ne : b ≠ a := fun z => hl i (by rw [z]; exact m0)
    obtain ⟨h1, m2⟩ := (unf f).keep b o hb hl hh
    exact ⟨h1, (setM_ne ne).trans m2⟩
end
end Lk

namespace Lk
open PySem PySem.Spec PyProof.Rows L2
/-! ## 31. x.pop(i), x.remove(e) of a list of integers -/
section
variable {c : Ct} {X : Cx} {W : WX} {M M' : Own} {H H' : Hp} {σ : L2.St} {ρ : Ev} {a : Addr} {e : Expr} {me : ME}
theorem RepL.eraseIx {ds : List D} {vs : List V} (h : RepL c M H ds vs) (k : Nat) : RepL c M H (ds.eraseIdx k) (vs.eraseIdx k) := by
  rw [List.eraseIdx_eq_take_drop_succ, List.eraseIdx_eq_take_drop_succ]
  exact (h.take k).append (h.drop (k + 1))
theorem seqIx_nat {k : Int} {n : Nat} (h0 : 0 ≤ k) (h1 : k < n) : seqIndex? k n = some k.toNat := by
  unfold seqIndex?
  simp only
  rw [if_neg (show ¬ k < 0 by omega), if_pos (by simp; omega)]
@[simp] def mPopAt (i : Nat) (m : ME) : ME := fun ρ Q E => atOw i ρ fun _ => m ρ (fun d ρ' => asI (fun k => atOw i ρ' fun xs => 0 ≤ k ∧ k < 2 ^ 62 ∧ withO xs[k.toNat]? fun y => Q y (ρ'.put i (some (.lst (xs.eraseIdx k.toNat), .ow)))) d) E
theorem ee_popAt (i : Nat) {x : Str} {px pa pc : Pos} (h : EE c X W e me) (hN : X.N[i]? = some x := by rfl) (hv : Vis X.env.scope x := by first | exact Or.inl rfl | exact Or.inr (Or.inl rfl) | exact Or.inr (Or.inr rfl)) (hd : (x == ("__debug__" : Str)) = false := by decide)
    (hcd : (x == ("__classdict__" : Str)) = false := by decide) (hbase : attributeBase (.Name x px) "pop" X.env (eval (.Name x px) X.env) = eval (.Name x px) X.env := by rfl)
    (hfew : ((backTo pc (starEach [e] X.env)).all (fun x => !x.1) && (backToKw pc (keywordEach [] X.env)).all (fun x => x.1.isSome)
      && decide ([e].length + ([] : List Keyword).length + (if ([] : List Keyword).isEmpty then 0 else 1) < 30)) = true := by rfl)
    (hline : (pa.endLine == pc.line) = true := by rfl) (hs : starEach [e] X.env = (false, eval e X.env) :: starEach [] X.env := by rfl) :
    EE c X W (.Call (.Attribute (.Name x px) "pop" pa) [e] [] pc) (mPopAt i me) := by
  obtain ⟨t, p, r⟩ := h
  refine ⟨_, pe_bm PySem.F.plainAttrs_list PySem.F.slot_list_pop PySem.F.type_list_pop mt_popAt (pe_var hN hv hd hcd) (pa_cons p pa_nil hs) hbase hfew hline hs, fun M H σ ρ Q E QV g hm k xx => ?_⟩
  obtain ⟨xs0, e0, hm⟩ := atOw_of hm
  obtain ⟨a, vs0, hσ, hH0, _⟩ := g.ownL e0
  refine ⟨.ref a, hσ, .inl ⟨rfl, _, SqL.of hH0⟩, ?_⟩
  refine r M H σ ρ _ E _ g hm (fun d ρ' M' H' v q g' f' r' => ?_) xx
  cases d with
  | int k0 =>
    obtain ⟨xs, e1, h0, h1, q⟩ := atOw_of (show atOw i ρ' _ from q)
    obtain ⟨y, ey, q⟩ := withO_of q
    obtain ⟨b, vs, hb, hH, rl, m, n⟩ := g'.ownL e1
    rw [hσ] at hb
    cases hb
    obtain ⟨w, hw, rw_⟩ := rl.get ey
    have r' : v = .int k0 := r'
    have lt : k0.toNat < xs.length := by
      by_cases z : k0.toNat < xs.length
      · exact z
      · rw [List.getElem?_eq_none (by omega)] at ey
        cases ey
    refine ⟨a, vs, k0, k0.toNat, w, rfl, by rw [r'], hH, by omega, by omega, seqIx_nat h0 (by rw [rl.length]; omega), hw, ?_⟩
    obtain ⟨g2, f2⟩ := g'.write (d := .lst (xs.eraseIdx k0.toNat)) (o := .lst (vs.eraseIdx k0.toNat)) e1 hσ ⟨vs.eraseIdx k0.toNat, upd_same, (rl.eraseIx _).updO m⟩
    exact k y _ M' _ w q g2 (f'.trans f2) (rw_.updO m)
  | _ => exact q.elim
@[simp] def mRem (i : Nat) (m : ME) : ME := fun ρ Q E => atOw i ρ fun _ => m ρ (fun d ρ' => asI (fun k => atOw i ρ' fun xs => withO (D.ints xs) fun ns => ∃ j : Nat, ns[j]? = some k ∧ (∀ m : Nat, m < j → ns[m]? ≠ some k) ∧ Q .non (ρ'.put i (some (.lst ((ns.eraseIdx j).map D.int), .ow)))) d) E
theorem ee_remove (i : Nat) {x : Str} {px pa pc : Pos} (h : EE c X W e me) (hN : X.N[i]? = some x := by rfl) (hv : Vis X.env.scope x := by first | exact Or.inl rfl | exact Or.inr (Or.inl rfl) | exact Or.inr (Or.inr rfl)) (hd : (x == ("__debug__" : Str)) = false := by decide)
    (hcd : (x == ("__classdict__" : Str)) = false := by decide) (hbase : attributeBase (.Name x px) "remove" X.env (eval (.Name x px) X.env) = eval (.Name x px) X.env := by rfl)
    (hfew : ((backTo pc (starEach [e] X.env)).all (fun x => !x.1) && (backToKw pc (keywordEach [] X.env)).all (fun x => x.1.isSome)
      && decide ([e].length + ([] : List Keyword).length + (if ([] : List Keyword).isEmpty then 0 else 1) < 30)) = true := by rfl)
    (hline : (pa.endLine == pc.line) = true := by rfl) (hs : starEach [e] X.env = (false, eval e X.env) :: starEach [] X.env := by rfl) :
    EE c X W (.Call (.Attribute (.Name x px) "remove" pa) [e] [] pc) (mRem i me) := by
  obtain ⟨t, p, r⟩ := h
  refine ⟨_, pe_bm PySem.F.plainAttrs_list PySem.F.slot_list_remove PySem.F.type_list_remove mt_remove (pe_var hN hv hd hcd) (pa_cons p pa_nil hs) hbase hfew hline hs, fun M H σ ρ Q E QV g hm k xx => ?_⟩
  obtain ⟨xs0, e0, hm⟩ := atOw_of hm
  obtain ⟨a, vs0, hσ, hH0, _⟩ := g.ownL e0
  refine ⟨.ref a, hσ, .inl ⟨rfl, _, SqL.of hH0⟩, ?_⟩
  refine r M H σ ρ _ E _ g hm (fun d ρ' M' H' v q g' f' r' => ?_) xx
  cases d with
  | int k0 =>
    obtain ⟨xs, e1, q⟩ := atOw_of (show atOw i ρ' _ from q)
    obtain ⟨ns, en, j, h1, h2, q3⟩ := withO_of q
    obtain ⟨b, vs, hb, hH, rl, m, n⟩ := g'.ownL e1
    rw [hσ] at hb
    cases hb
    have r' : v = .int k0 := r'
    obtain rfl := ints_eq en
    obtain rfl := rl.ints
    refine ⟨a, ns, k0, j, rfl, by rw [r'], hH, h1, h2, ?_⟩
    obtain ⟨g2, f2⟩ := g'.write (d := .lst ((ns.eraseIdx j).map D.int)) (o := .lst ((ns.eraseIdx j).map V.int)) e1 hσ ⟨_, upd_same, .ofInts _⟩
    exact k .non _ M' _ .non q3 g2 (f'.trans f2) rfl
  | _ => exact q.elim
end
end Lk

namespace Lk
open PySem PySem.Spec PyProof.Rows L2
/-! ## 32. for g, s in ((n, t), (w, [..])): s is written in the body; t a name's own list -/
section
variable {c : Ct} {X : Cx} {W : WX} {M M' : Own} {H H' : Hp} {σ : L2.St} {ρ : Ev} {a : Addr}
@[simp] def asSh (s : Slot) (Q : D → Prop) : Prop := match s with
  | some (d, .sh) => Q d
  | _ => False
theorem asSh_of {s : Slot} {Q : D → Prop} (h : asSh s Q) : ∃ d, s = some (d, .sh) ∧ Q d := by
  unfold asSh at h
  split at h
  · exact ⟨_, rfl, h⟩
  · exact h.elim
@[simp] def twoB (gi si : Nat) (d2 l : D) (body : MS) (P : Po) : Ev → Prop := fun ρ' => body ((ρ'.put gi (some (d2, .sh))).put si (some (l, .ow))) { P with nx := P.nx, ct := P.nx, bk := P.nx }
@[simp] def sTwo (gi si ni ti wi : Nat) (mf : ME) (body : MS) : MS := fun ρ P => asSh (ρ.get ni) fun d1 => asSh (ρ.get wi) fun d2 => atOw ti ρ fun xs => mf (ρ.put ti none) (fun l ρ3 =>
  body ((ρ3.put gi (some (d1, .sh))).put si (some (.lst xs, .ow))) { P with nx := twoB gi si d2 l body P, ct := twoB gi si d2 l body P, bk := P.nx }) P.ex
theorem Fr.of_rel {l : Lab} {i : Nat} (m : M a = some (.sl i)) (f : Fr c (setM M a (some l)) H M' H') (hl : ∀ i, l ≠ .sl i) : Fr c M H M' H' := ⟨fun b o hb hs hh => by
  have ne : b ≠ a := fun z => hs i (by rw [z]; exact m)
  obtain ⟨h1, m2⟩ := f.keep b o hb (by rw [setM_ne ne]; exact hs) hh
  exact ⟨h1, m2.trans (setM_ne ne)⟩⟩
theorem ss_two (gi si ni ti wi : Nat) {xg xs_ xn xt xw : Str} {pg ps_ pn pt pw p1 p2 p3 pos tpos : Pos} {k1 k2 k3 kt : Nat} {le : Expr} {mf : ME} {body : List Stmt} {mb : MS} (np : c.pin = none) (hp : PassesOwn (model X.prog X.w) X.A X.env X.xe) (hc : X.calm = true) (hf : Fit c X) (hN : X.N.Nodup)
    (hF : EF c X W le mf) (hb : SB c X W body mb) (hgs : gi ≠ si)
    (hNg : X.N[gi]? = some xg := by rfl) (hNs : X.N[si]? = some xs_ := by rfl) (hNn : X.N[ni]? = some xn := by rfl) (hNt : X.N[ti]? = some xt := by rfl) (hNw : X.N[wi]? = some xw := by rfl)
    (hvn : Vis X.env.scope xn := by first | exact Or.inl rfl | exact Or.inr (Or.inl rfl) | exact Or.inr (Or.inr rfl)) (hvt : Vis X.env.scope xt := by first | exact Or.inl rfl | exact Or.inr (Or.inl rfl) | exact Or.inr (Or.inr rfl)) (hvw : Vis X.env.scope xw := by first | exact Or.inl rfl | exact Or.inr (Or.inl rfl) | exact Or.inr (Or.inr rfl)) (hdn : (xn == ("__debug__" : Str)) = false := by decide) (hdt : (xt == ("__debug__" : Str)) = false := by decide) (hdw : (xw == ("__debug__" : Str)) = false := by decide)
    (hcn : (xn == ("__classdict__" : Str)) = false := by decide) (hct : (xt == ("__classdict__" : Str)) = false := by decide) (hcw : (xw == ("__classdict__" : Str)) = false := by decide)
    (hxg : Loc X.env.scope xg := by first | exact Or.inl rfl | exact Or.inr rfl) (hxs : Loc X.env.scope xs_ := by first | exact Or.inl rfl | exact Or.inr rfl) (hfg : X.fn xg = true ∨ X.env.scope.names.lookup xg = some .local := by first | exact .inl rfl | exact .inr rfl) (hfs : X.fn xs_ = true ∨ X.env.scope.names.lookup xs_ = some .local := by first | exact .inl rfl | exact .inr rfl)
    (s1 : starEach [.Name xt pt] X.env = (false, eval (.Name xt pt) X.env) :: starEach [] X.env := by rfl) (s2 : starEach [.Name xn pn, .Name xt pt] X.env = (false, eval (.Name xn pn) X.env) :: starEach [.Name xt pt] X.env := by rfl)
    (s3 : starEach [le] X.env = (false, eval le X.env) :: starEach [] X.env := by rfl) (s4 : starEach [.Name xw pw, le] X.env = (false, eval (.Name xw pw) X.env) :: starEach [le] X.env := by rfl)
    (s5 : starEach [.Tuple [.Name xw pw, le] k2 p2] X.env = (false, eval (.Tuple [.Name xw pw, le] k2 p2) X.env) :: starEach [] X.env := by rfl)
    (s6 : starEach [.Tuple [.Name xn pn, .Name xt pt] k1 p1, .Tuple [.Name xw pw, le] k2 p2] X.env = (false, eval (.Tuple [.Name xn pn, .Name xt pt] k1 p1) X.env) :: starEach [.Tuple [.Name xw pw, le] k2 p2] X.env := by rfl)
    (t1 : (assignEach [.Name xs_ ps_] X.env).map (·.2) = assign (.Name xs_ ps_) X.env :: (assignEach [] X.env).map (·.2) := by rfl)
    (t2 : (assignEach [.Name xg pg, .Name xs_ ps_] X.env).map (·.2) = assign (.Name xg pg) X.env :: (assignEach [.Name xs_ ps_] X.env).map (·.2) := by rfl)
    (t3 : (assignEach [.Name xg pg, .Name xs_ ps_] X.env).length = 2 := by rfl) (t4 : (assignEach [.Name xg pg, .Name xs_ ps_] X.env).findIdx? (·.1) = none := by rfl)
    (hs : ∀ z, foldedSetIterable (.Tuple [.Tuple [.Name xn pn, .Name xt pt] k1 p1, .Tuple [.Name xw pw, le] k2 p2] k3 p3) X.env z = pure z := by intro _; rfl) :
    SS c X W (.For (.Tuple [.Name xg pg, .Name xs_ ps_] kt tpos) (.Tuple [.Tuple [.Name xn pn, .Name xt pt] k1 p1, .Tuple [.Name xw pw, le] k2 p2] k3 p3) body [] pos) (sTwo gi si ni ti wi mf mb) := by
  obtain ⟨tf, pf, rf⟩ := hF
  obtain ⟨tb, pb, rb⟩ := hb
  refine ⟨_, ps_for hp hc (pi_tup (pe_tup (pa_cons (pe_tup (pa_cons (pe_var hNn hvn hdn hcn) (pa_cons (pe_var hNt hvt hdt hct) pa_nil s1) s2)) (pa_cons (pe_tup (pa_cons (pe_var hNw hvw hdw hcw) (pa_cons pf pa_nil s3) s4)) pa_nil s5) s6)))
    (pg_tup hc (pgs_cons (pg_name hN hNg hxg hfg) (pgs_cons (pg_name hN hNs hxs hfs) pgs_nil t1) t2) t3 t4) pb hs, fun M H σ ρ P Dn gd hm k => ?_⟩
  obtain ⟨d1, e1, hm⟩ := asSh_of hm
  obtain ⟨d2, e2, hm⟩ := asSh_of hm
  obtain ⟨xs, e0, hm⟩ := atOw_of hm
  obtain ⟨v1, hv1, _, r1⟩ := gd.look e1
  obtain ⟨v2, hv2, _, r2⟩ := gd.look e2
  have r1 := r1 rfl
  have r2 := r2 rfl
  obtain ⟨a, vs, hσ, hH, rl, m0, n0⟩ := gd.ownL e0
  have g1 : Good c (setM M a (some (.pd 7))) H σ (ρ.put ti none) := gd.put_none.relabG m0 _ (fun j' d' q z => by
    have : j' = ti := by cases z; rfl
    subst this
    rcases put_none_get (ρ := ρ) (i := j') (j := j') with w | ⟨w, _⟩
    · rw [w] at q
      cases q
    · exact w rfl) (fun z => nomatch z)
  refine ⟨v1, hv1, .ref a, hσ, ?_⟩
  have lw2 : ∀ x y : V, [x, y].length ≤ sizeLine := fun x y => by
    show 2 ≤ sizeLine
    decide
  refine ⟨lw2 _ _, fun T1 hT1 => ⟨v2, hv2, ?_⟩⟩
  have fa1 : FrA (setM M a (some (.pd 7))) H (setM (setM M a (some (.pd 7))) T1 none) (upd H T1 (.tup [v1, .ref a])) := FrA.new hT1
  have f1 : Fr c M H (setM (setM M a (some (.pd 7))) T1 none) (upd H T1 (.tup [v1, .ref a])) := fa1.fr.of_rel m0 (fun i z => nomatch z)
  have g2 := g1.frA fa1
  have hd1 := g1.nohd hT1
  have aT1 : a ≠ T1 := ne_of_none hH hT1
  refine rf _ _ σ (ρ.put ti none) _ P.ex _ g2 hm (fun l ρ3 M3 H3 b q nb z => ?_) fun x ρ' cls dd M' H' q' g' f' r' => k.ex x ρ' cls dd M' H' _ q' g' (f1.trans f') r'
  obtain ⟨_, f30, _⟩ := z none
  obtain ⟨g3, f3, ow3⟩ := z (some (.pd 8))
  have fresh : ∀ o, H b = some o → (∀ i, M b ≠ some (.sl i)) → False := fun o ho hs => by
    have bT1 : b ≠ T1 := ne_of_none ho hT1
    have ba : b ≠ a := fun w => hs ti (by rw [w]; exact m0)
    have e1 : upd H T1 (.tup [v1, .ref a]) b = some o := (upd_ne bT1).trans ho
    have e2 : setM (setM M a (some (.pd 7))) T1 none b = M b := (setM_ne bT1).trans (setM_ne ba)
    have k1 := (f30.keep b o e1 (by rw [e2]; exact hs) nb).2
    have k2 := (f3.keep b o e1 (by rw [e2]; exact hs) nb).2
    rw [setM_same] at k1 k2
    rw [← k1] at k2
    cases k2
  obtain ⟨Mc, hMc⟩ : ∃ Mc, Mc = setM M3 b (some (.pd 8)) := ⟨_, rfl⟩
  have mb3 : Mc b = some (.pd 8) := by rw [hMc]; exact setM_same
  rw [← hMc] at g3 f3 ow3
  refine ⟨lw2 _ _, fun T2 hT2 => ⟨lw2 _ _, fun T hT => ⟨T, rfl, ⟨_, .inl (.inl upd_same)⟩, ?_⟩⟩⟩
  have fa2 : FrA Mc H3 (setM Mc T2 none) (upd H3 T2 (.tup [v2, .ref b])) := FrA.new hT2
  have g4 := g3.frA fa2
  have hd2 := g3.nohd hT2
  have fa3 : FrA (setM Mc T2 none) (upd H3 T2 (.tup [v2, .ref b])) (setM (setM Mc T2 none) T none) (upd (upd H3 T2 (.tup [v2, .ref b])) T (.tup [.ref T1, .ref T2])) := FrA.new hT
  have hd3 := g4.nohd hT
  have gE := g4.frA fa3
  obtain ⟨He, hHe⟩ : ∃ He, He = upd (upd H3 T2 (.tup [v2, .ref b])) T (.tup [.ref T1, .ref T2]) := ⟨_, rfl⟩
  obtain ⟨Me, hMe⟩ : ∃ Me, Me = setM (setM Mc T2 none) T none := ⟨_, rfl⟩
  have kT : He T = some (.tup [.ref T1, .ref T2]) ∧ Me T = none := by
    rw [hHe, hMe]
    exact ⟨upd_same, setM_same⟩
  have kT2 : He T2 = some (.tup [v2, .ref b]) ∧ Me T2 = none := by
    have q := fa3.keep T2 _ upd_same
    rw [setM_same] at q
    rw [hHe, hMe]
    exact q
  have F : Fr c (setM (setM M a (some (.pd 7))) T1 none) (upd H T1 (.tup [v1, .ref a])) Me He := by
    rw [hHe, hMe]
    exact f3.trans (fa2.fr.trans fa3.fr)
  rw [← hHe, ← hMe] at gE fa3
  rw [← hHe]
  have kT1 : He T1 = some (.tup [v1, .ref a]) ∧ Me T1 = none := by
    have q := F.keep T1 _ upd_same (nslot_of_none setM_same) hd1
    rw [setM_same] at q
    exact q
  have kb1 := fa1.keep a _ hH
  rw [setM_same] at kb1
  have ka : He a = some (.lst vs) ∧ Me a = some (.pd 7) := by
    have q := F.keep a _ kb1.1 (fun i w => by rw [kb1.2] at w; cases w) n0
    rw [kb1.2] at q
    exact q
  have up : ∀ {d : D} {v : V}, Rep c M H d v → Rep c Me He d v := fun r => ((r.rel m0 _).fr fa1.fr).fr F
  have r1E := up r1
  have r2E := up r2
  have rlE : RepL c Me He xs vs := ((rl.rel m0 _).fr fa1.fr).fr F
  obtain ⟨u, hu⟩ := ow3.there
  have kb : He b = some u ∧ Me b = some (.pd 8) := by
    have q2 := fa2.keep b u hu
    have q3 := fa3.keep b u q2.1
    exact ⟨q3.1, q3.2.trans (q2.2.trans mb3)⟩
  have owE : OwAt c Me He b l := (ow3.frL fa2.fr fun o ho => (fa2.keep b o ho).1).frL fa3.fr fun o ho => (fa3.keep b o ho).1
  have ba : b ≠ a := fun w => by
    rw [w, ka.2] at kb
    cases kb.2
  have fT : Fr c M H Me He := f1.trans F
  let Mf := setM Me a (some (.sl si))
  have fn : Fr c M H Mf He := ⟨fun b' o hb' hs' hh => by
    have ne : b' ≠ a := fun w => hs' ti (by rw [w]; exact m0)
    obtain ⟨h1, m2⟩ := fT.keep b' o hb' hs' hh
    exact ⟨h1, (setM_ne ne).trans m2⟩⟩
  have g5 : Good c Mf He σ ρ3 := gE.relabG ka.2 _ (fun j d q w => by cases w) (fun w => nomatch w)
  have g6 := g5.put (i := gi) (r1E.rel ka.2 _)
  have g7 := Good.put_ow (M := Me) (i := si) (d := .lst xs) (a := a) np g6 n0 ⟨vs, ka.1, rlE.rel ka.2 _⟩
  have Tne : ∀ w, Me w = none → w ≠ a ∧ w ≠ b := fun w hw => ⟨fun e => (by rw [e, ka.2] at hw; cases hw), fun e => (by rw [e, kb.2] at hw; cases hw)⟩
  let S1 : L2.St → Hp → Prop := fun σ' H' => ∃ M' ρ', Fr c Mf He M' H' ∧ Good c M' H' σ' ρ' ∧ twoB gi si d2 l mb P ρ'
  let S2 : L2.St → Hp → Prop := fun σ' H' => ∃ M' ρ', H' T = some (.tup [.ref T1, .ref T2]) ∧ Fr c M H M' H' ∧ Good c M' H' σ' ρ' ∧ P.nx ρ'
  refine ⟨fun n m σ' H' => (n = 0 ∧ m = 2 ∧ σ' = σ ∧ H' = He) ∨ (n = 1 ∧ m = 1 ∧ S1 σ' H') ∨ (n = 2 ∧ m = 0 ∧ S2 σ' H'), ⟨2, .inl ⟨rfl, rfl, rfl, rfl⟩⟩, ?_⟩
  rintro n m σ' H' (⟨rfl, rfl, z1, z2⟩ | ⟨rfl, rfl, M', ρ', fm, gm, qm⟩ | ⟨rfl, rfl, M', ρ', tm, fm, gm, qm⟩)
  · have z1 := z1.symm
    have z2 := z2.symm
    subst z1
    subst z2
    have sq : SqT X.K He T [.ref T1, .ref T2] := .inl (.inl kT.1)
    refine .inr ⟨⟨_, _, sq, rfl⟩, S1, fun σ' H' w => ⟨1, by omega, .inr (.inl ⟨rfl, rfl, w⟩)⟩, fun x H' y => ?_⟩
    obtain ⟨rfl, y⟩ := y
    have y := Option.some.inj (y _ sq)
    subst y
    refine ⟨T1, [v1, .ref a], rfl, .inl (.inl kT1.1), rfl, v1, [.ref a], rfl, .ref a, [], rfl, rfl, ?_⟩
    exact rb Mf H' _ _ _ _ g7 q ⟨fun ρ' M' H' σ' p g f => ⟨M', ρ', f, g, p⟩, fun ρ' M' H' σ' p g f => k.nx ρ' M' H' σ' p g (fn.trans f), fun ρ' M' H' σ' p g f => ⟨M', ρ', f, g, p⟩,
      fun d ρ' M' H' σ' v p g f r => k.rt d ρ' M' H' σ' v p g (fn.trans f) r, fun x ρ' cls dd M' H' σ' p g f r => k.ex x ρ' cls dd M' H' σ' p g (fn.trans f) r⟩
  · have keepT : ∀ w o, He w = some o → Me w = none → c.hd ≠ some w → H' w = some o ∧ M' w = none := fun w o h1 h2 h3 => by
      have e : Mf w = none := (setM_ne (Tne w h2).1).trans h2
      obtain ⟨x1, x2⟩ := fm.keep w o h1 (nslot_of_none e) h3
      exact ⟨x1, x2.trans e⟩
    obtain ⟨tT, mT⟩ := keepT T _ kT.1 kT.2 hd3
    obtain ⟨tT2, mT2⟩ := keepT T2 _ kT2.1 kT2.2 hd2
    have eb : Mf b = some (.pd 8) := (setM_ne ba).trans kb.2
    have kbm : ∀ o, He b = some o → H' b = some o ∧ M' b = some (.pd 8) := fun o ho => by
      obtain ⟨x1, x2⟩ := fm.keep b o ho (fun i w => by rw [eb] at w; cases w) nb
      exact ⟨x1, x2.trans eb⟩
    have mb : M' b = some (.pd 8) := (kbm u kb.1).2
    have owM : OwAt c M' H' b l := (owE.rel ka.2 (some (.sl si))).frL fm fun o ho => (kbm o ho).1
    have r2M : Rep c M' H' d2 v2 := (r2E.rel ka.2 _).fr fm
    have h1 : Good c (setM M' b (some (.sl si))) H' σ' ρ' := gm.relabG mb _ (fun j d q w => by cases w) (fun w => nomatch w)
    have h2 := h1.put (i := gi) (r2M.rel mb _)
    have h3 := Good.put_ow (M := M') (i := si) (d := l) (a := b) np h2 nb (owM.rel mb _)
    have fb : Fr c M H (setM M' b (some (.sl si))) H' := ⟨fun b' o hb' hs' hh => by
      have ne : b' ≠ b := fun w => fresh o (by rw [← w]; exact hb') (by rw [← w]; exact hs')
      obtain ⟨x1, x2⟩ := (fn.trans fm).keep b' o hb' hs' hh
      exact ⟨x1, (setM_ne ne).trans x2⟩⟩
    have Tb : T ≠ b := fun w => by rw [w, mb] at mT; cases mT
    have sq : SqT X.K H' T [.ref T1, .ref T2] := .inl (.inl tT)
    refine .inr ⟨⟨_, _, sq, rfl⟩, S2, fun σ' H' w => ⟨0, by omega, .inr (.inr ⟨rfl, rfl, w⟩)⟩, fun x H2 y => ?_⟩
    obtain ⟨rfl, y⟩ := y
    have y := Option.some.inj (y _ sq)
    subst y
    refine ⟨T2, [v2, .ref b], rfl, .inl (.inl tT2), rfl, v2, [.ref b], rfl, .ref b, [], rfl, rfl, ?_⟩
    have kp : ∀ {M'' : Own} {H'' : Hp}, Fr c (setM M' b (some (.sl si))) H2 M'' H'' → H'' T = some (.tup [.ref T1, .ref T2]) := fun f => (f.keep T _ tT (nslot_of_none ((setM_ne Tb).trans mT)) hd3).1
    exact rb _ H2 _ _ _ _ h3 qm ⟨fun ρ' M' H' σ' p g f => ⟨M', ρ', kp f, fb.trans f, g, p⟩, fun ρ' M' H' σ' p g f => k.nx ρ' M' H' σ' p g (fb.trans f), fun ρ' M' H' σ' p g f => ⟨M', ρ', kp f, fb.trans f, g, p⟩,
      fun d ρ' M' H' σ' v p g f r => k.rt d ρ' M' H' σ' v p g (fb.trans f) r, fun x ρ' cls dd M' H' σ' p g f r => k.ex x ρ' cls dd M' H' σ' p g (fb.trans f) r⟩
  · exact .inl ⟨⟨_, .inl (.inl tm), Nat.le_refl _⟩, k.nx ρ' M' H' σ' qm gm fm⟩
end
end Lk

namespace Lk
open PySem PySem.Spec PyProof.Rows L2
/-! ## 33. x.count(e) of a list of integers -/
section
variable {c : Ct} {X : Cx} {W : WX} {M M' : Own} {H H' : Hp} {σ : L2.St} {ρ : Ev} {a : Addr} {e : Expr} {me : ME}
@[simp] def mCnt (i : Nat) (m : ME) : ME := fun ρ Q E => match ρ.get i with
  | some (.lst xs, .sh) => m ρ (fun d ρ' => asI (fun k => withO (D.ints xs) fun ns => Q (.int (ns.count k : Nat)) ρ') d) E
  | _ => False
theorem ee_count (hf : Fit c X) (i : Nat) {x : Str} {px pa pc : Pos} (h : EE c X W e me) (hN : X.N[i]? = some x := by rfl) (hv : Vis X.env.scope x := by first | exact Or.inl rfl | exact Or.inr (Or.inl rfl) | exact Or.inr (Or.inr rfl)) (hd : (x == ("__debug__" : Str)) = false := by decide)
    (hcd : (x == ("__classdict__" : Str)) = false := by decide) (hbase : attributeBase (.Name x px) "count" X.env (eval (.Name x px) X.env) = eval (.Name x px) X.env := by rfl)
    (hfew : ((backTo pc (starEach [e] X.env)).all (fun x => !x.1) && (backToKw pc (keywordEach [] X.env)).all (fun x => x.1.isSome)
      && decide ([e].length + ([] : List Keyword).length + (if ([] : List Keyword).isEmpty then 0 else 1) < 30)) = true := by rfl)
    (hline : (pa.endLine == pc.line) = true := by rfl) (hs : starEach [e] X.env = (false, eval e X.env) :: starEach [] X.env := by rfl) :
    EE c X W (.Call (.Attribute (.Name x px) "count" pa) [e] [] pc) (mCnt i me) := by
  obtain ⟨t, p, r⟩ := h
  refine ⟨_, pe_bm PySem.F.plainAttrs_list PySem.F.slot_list_count PySem.F.type_list_count mt_lcount (pe_var hN hv hd hcd) (pa_cons p pa_nil hs) hbase hfew hline hs, fun M H σ ρ Q E QV g hm k xx => ?_⟩
  unfold mCnt at hm
  split at hm
  · rename_i xs e0
    obtain ⟨v, e1, _, r0⟩ := g.look e0
    have rp := r0 rfl
    obtain ⟨a, vs, ev, s, rl⟩ := BRep.lst (.inl rp)
    subst ev
    refine ⟨.ref a, e1, .inl ⟨rfl, vs, hf.K ▸ s⟩, ?_⟩
    refine r M H σ ρ _ E _ g hm (fun d ρ' M' H' v q g' f' r' => ?_) xx
    cases d with
    | int k0 =>
      obtain ⟨ns, en, q3⟩ := withO_of (show withO (D.ints xs) _ from q)
      obtain ⟨b, ws, eb, s2, rl2⟩ := BRep.lst (.inl (rp.fr f'))
      cases eb
      have r' : v = .int k0 := r'
      obtain rfl := ints_eq en
      obtain rfl := rl2.ints
      refine ⟨a, ns, k0, rfl, by rw [r'], hf.K ▸ s2, ?_⟩
      exact k _ _ M' H' _ q3 g' f' rfl
    | _ => exact q.elim
  · exact hm.elim
end
end Lk

namespace Lk
open PySem PySem.Spec PyProof.Rows L2
/-! ## 34. zip of a list and a tuple -/
/-- a list and a tuple, side by side -/
def ItM (K : PySem.W.Frag) (a b : Addr) : It :=
  ⟨fun i H => ∃ (xs ys : List V) (x y : V), SqL K H a xs ∧ SqT K H b ys ∧ xs[i]? = some x ∧ ys[i]? = some y,
    fun i H v H' => ∃ T x y, v = .ref T ∧ H T = none ∧ H' = upd H T (.tup [x, y]) ∧ (∀ xs, SqL K H a xs → xs[i]? = some x) ∧ ∀ ys, SqT K H b ys → ys[i]? = some y,
    fun i H => ∃ xs ys : List V, SqL K H a xs ∧ SqT K H b ys ∧ i ≤ xs.length ∧ i ≤ ys.length ∧ (i = xs.length ∨ i = ys.length)⟩
structure MSep (z TI TO i1 i2 a b : Addr) : Prop where
  s : ZipSep2 z TI TO i1 i2 [i1, a] [i2, b]
  n1 : a ≠ i1
  n2 : b ≠ i2
  TIi1 : TI ≠ i1
  TIi2 : TI ≠ i2
theorem nin2 {x p q : Addr} (h1 : x ≠ p) (h2 : x ≠ q) : x ∉ [p, q] := fun e => by
  rcases List.mem_cons.mp e with e | e
  · exact h1 e
  · exact h2 (List.mem_singleton.mp e)
theorem msep (n a b : Nat) (ha : a < n) (hb : b < n) : MSep (n + 4) (n + 2) (n + 3) n (n + 1) a b :=
  have ne : ∀ {x y : Nat}, x ≠ y → (show Addr from x) ≠ (show Addr from y) := fun h => h
  ⟨⟨ne (by omega), ne (by omega), ne (by omega), ne (by omega), List.mem_cons_self, nin2 (ne (by omega)) (ne (by omega)), nin2 (ne (by omega)) (ne (by omega)), ne (by omega), List.mem_cons_self, nin2 (ne (by omega)) (ne (by omega)), nin2 (ne (by omega)) (ne (by omega)), nin2 (ne (by omega)) (ne (by omega)), nin2 (ne (by omega)) (ne (by omega))⟩, ne (by omega), ne (by omega), ne (by omega), ne (by omega)⟩
theorem turn_zipM {P : Program} {w : World} {K : PySem.W.Frag} {elts : List Expr} {kk : Nat} {tpos : Pos} {a b z TI TO i1 i2 : Addr} (D : MSep z TI TO i1 i2 a b) :
    Turn P w K (.Tuple elts kk tpos) (ItM K a b) [z, TI, TO, i1, i2] z (fun i h => IsZip h z TI TO .none ∧ IsTupOf2 h TI (.ref i1) (.ref i2) ∧ (∃ x y, IsTupOf2 h TO x y) ∧ h.IsListIter i1 a i ∧ h.IsTupleIter i2 b i) where
  mem := by simp
  obj := fun i h st c hc => by
    obtain ⟨hz, hTI, ⟨x, y, hTO⟩, ⟨o1, e1, _, d1⟩, ⟨o2, e2, _, d2⟩⟩ := st
    have e' : c = z ∨ c = TI ∨ c = TO ∨ c = i1 ∨ c = i2 := by simpa using hc
    rcases e' with q | q | q | q | q
    · rw [q]; exact ⟨_, hz, fun v q => nomatch q⟩
    · rw [q]; exact ⟨_, hTI, fun v q => nomatch q⟩
    · rw [q]; exact ⟨_, hTO, fun v q => nomatch q⟩
    · rw [q]; exact ⟨o1, e1, fun v q => by rw [d1] at q; cases q⟩
    · rw [q]; exact ⟨o2, e2, fun v q => by rw [d2] at q; cases q⟩
  keep := fun i h h' st k => by
    obtain ⟨hz, hTI, ⟨x, y, hTO⟩, h1, h2⟩ := st
    exact ⟨k z (by simp) _ hz, k TI (by simp) _ hTI, ⟨x, y, k TO (by simp) _ hTO⟩, h1.at fun o q => k i1 (by simp) o q, h2.at fun o q => k i2 (by simp) o q⟩
  item := by
    intro X hP hw hK hc i pins s σ H E I hf st hg
    subst hP hw hK
    obtain ⟨hz, hTI, ⟨x0, y0, hTO⟩, h1, h2⟩ := st
    obtain ⟨xs, ys, x, y, hqx, hqy, hx, hy⟩ := hg
    obtain ⟨its, rv, p, _⟩ := I.list hqx
    obtain ⟨its2, rv2, p2, _⟩ := I.tuple hqy
    obtain ⟨u, hu, ru⟩ := rv.get hx
    obtain ⟨u2, hu2, ru2⟩ := rv2.get hy
    have hzl : z < s.heap.objs.size := Heap.lt_size hz
    have lt1 : i < its.toArray.size := by simpa using (List.getElem?_eq_some_iff.mp hu).1
    have lt2 : i < its2.toArray.size := by simpa using (List.getElem?_eq_some_iff.mp hu2).1
    refine wpAny_pyNext_zipD2_item D.s (Draws.list (A := X.A.in1) (I.ok.hd hc) i1 a D.n1 its.toArray) (Draws.tuple (A := X.A.in1) (I.ok.hd hc) i2 b D.n2 its2.toArray) hz hTI hTO ⟨h1, p.isList⟩ ⟨h2, p2⟩ lt1 lt2 fun v1 v2 h' tk hv1 hv2 z' TO' st1 st2 hT hsz hk => ?_
    obtain rfl : v1 = u := by
      simp at hv1
      rw [hu] at hv1
      exact (Option.some.inj hv1).symm
    obtain rfl : v2 = u2 := by
      simp at hv2
      rw [hu2] at hv2
      exact (Option.some.inj hv2).symm
    refine ⟨_, rfl, wpAny_letOwnedTupleGo_zip (s := { s with heap := h', toks := tk }) z' fun h'' z'' sb => ?_⟩
    have hT2 : h''.get? s.heap.objs.size = some { cls := .type "tuple", data := .seq #[v1, v2] } := (sb.2 _ (Nat.ne_of_gt hzl)).trans hT
    have new : ObjOk X.prog X.w (upd H s.heap.objs.size (.tup [x, y])) h'' s.heap.objs.size (.tup [x, y]) :=
      ⟨by show 2 ≤ sizeLine; decide, [v1, v2], .cons ru (.cons ru2 .nil), ⟨_, hT2, rfl, _, rfl⟩⟩
    have I1 : Inv X pins σ (upd H s.heap.objs.size (.tup [x, y])) { s with heap := h'', toks := tk } :=
      I.turnedNew (ch := [z, TI, TO, i1, i2]) (fun c o hb q => (sb.2 c (fun q' => hb (by simp [q']))).trans (hk c o (fun q' => hb (by simp [q'])) (fun q' => hb (by simp [q'])) (fun q' => hb (by simp [q'])) (fun q' => hb (by simp [q'])) q)) hf (Nat.le_refl _) new
    refine ⟨.ref s.heap.objs.size, _, I1, rfl, ⟨_, x, y, rfl, I.hok.fresh (Nat.le_refl _), rfl, fun l hl => by rw [I.list_inj hl hqx]; exact hx, fun l hl => by rw [I.tuple_inj hl hqy]; exact hy⟩, ⟨z'', ?_, ⟨v1, v2, ?_⟩, ?_, ?_⟩, fun c hcm => ?_⟩
    · exact (sb.2 _ D.s.TIz).trans (hk _ _ D.s.TIz D.s.TITO D.TIi1 D.TIi2 hTI)
    · exact (sb.2 _ D.s.TOz).trans TO'
    · exact st1.1.at fun o q => (sb.2 _ D.s.zi1.symm).trans q
    · exact st2.1.at fun o q => (sb.2 _ D.s.zi2.symm).trans q
    · have hlt : c < s.heap.objs.size := by
        have e' : c = z ∨ c = TI ∨ c = TO ∨ c = i1 ∨ c = i2 := by simpa using hcm
        rcases e' with q | q | q | q | q
        · rw [q]; exact hzl
        · rw [q]; exact Heap.lt_size hTI
        · rw [q]; exact Heap.lt_size hTO
        · rw [q]; obtain ⟨_, e1, _⟩ := h1; exact Heap.lt_size e1
        · rw [q]; obtain ⟨_, e2, _⟩ := h2; exact Heap.lt_size e2
      rw [upd_ne (Nat.ne_of_lt hlt)]
      exact (hf c hcm).1
  done := by
    intro X hP hw hK hc i pins s σ H E I hf st hg
    subst hP hw hK
    obtain ⟨hz, hTI, ⟨x0, y0, hTO⟩, h1, h2⟩ := st
    obtain ⟨xs, ys, hqx, hqy, le1, le2, hend⟩ := hg
    obtain ⟨its, rv, p, _⟩ := I.list hqx
    obtain ⟨its2, rv2, p2, _⟩ := I.tuple hqy
    have l1 := rv.length
    have l2 := rv2.length
    exact wpAny_pyNext_zipD2_end D.s (Draws.list (A := X.A.in1) (I.ok.hd hc) i1 a D.n1 its.toArray) (Draws.tuple (A := X.A.in1) (I.ok.hd hc) i2 b D.n2 its2.toArray) hz hTI hTO ⟨h1, p.isList⟩ ⟨h2, p2⟩ (by simp; omega) (by simp; omega) (by simp; omega) fun h' tk hk => ⟨rfl, I.turnedL (t' := tk) (ch := [z, TI, TO, i1, i2]) (fun c o hb q =>
      hk c o (fun q' => hb (by simp [q'])) (fun q' => hb (by simp [q'])) (fun q' => hb (by simp [q'])) (fun q' => hb (by simp [q'])) q) hf⟩
  self := fun A i s Q E st h => wpAny_pyIter_zip st.1 h
def iZipM (K : PySem.W.Frag) (ta : TA) : TI := fun σ H R => ta σ H fun vs H1 => ∃ a b xs ys, vs = [.ref a, .ref b] ∧ SqL K H1 a xs ∧ SqT K H1 b ys ∧ R (ItM K a b) H1
theorem pi_zipM {X : Cx} {e e2 : Expr} {ta : TA} {p pos tpos : Pos} {elts : List Expr} {kk : Nat} (hg : Gl X "zip") (hm : X.mg "zip" = none) (ha : PA X [e, e2] ta)
    (hs : starEach [e, e2] X.env = (false, eval e X.env) :: starEach [e2] X.env := by rfl) (hpl : (backTo pos (starEach [e2] X.env)).any (·.1) = false := by rfl) :
    PI X (.Tuple elts kk tpos) (.Call (.Name "zip" p) [e, e2] [] pos) (iZipM X.K ta) := by
  refine ⟨fun pins s σ H R I h => ?_⟩
  refine Call_ (ld_blt I hg hm PyProof.Rows.boot_zip (PyProof.Rows.callWith_type1 (thn (ha.run pos pins s σ H _ I h) fun us s1 ⟨vs, H1, I1, r1, q1⟩ => ?_) hs hpl))
  obtain ⟨a, b, xs, ys, ex, hqx, hqy, q⟩ := q1
  subst ex
  cases r1 with
  | cons r rr =>
    cases rr with
    | cons r' rr =>
      cases rr
      cases r
      cases r'
      obtain ⟨its, rv, p1, _⟩ := I1.list hqx
      obtain ⟨its2, rv2, p2, _⟩ := I1.tuple hqy
      have a1 := p1.lt
      obtain ⟨o2, ho2, _⟩ := id p2
      refine zip_begins2 (begins_list a its.toArray) (begins_tuple b its2.toArray) p1.isList p2 fun h' hz hTI hTO h1 h2 hsz hk => wpAny_pyIter_zip hz ?_
      have I2 : Inv X pins σ H1 { s1 with heap := h' } := I1.kept (t' := s1.toks) hk
      refine ⟨s1.heap.objs.size + 4, [s1.heap.objs.size + 4, s1.heap.objs.size + 2, s1.heap.objs.size + 3, s1.heap.objs.size, s1.heap.objs.size + 1], _, _, H1, rfl, I2, turn_zipM (msep s1.heap.objs.size a b a1 (Heap.lt_size ho2)), ⟨hz, hTI, ⟨_, _, hTO⟩, ⟨_, h1, rfl, rfl⟩, ⟨_, h2, rfl, rfl⟩⟩, fun c hcm => ?_, q⟩
      have e' : c = s1.heap.objs.size + 4 ∨ c = s1.heap.objs.size + 2 ∨ c = s1.heap.objs.size + 3 ∨ c = s1.heap.objs.size ∨ c = s1.heap.objs.size + 1 := by simpa using hcm
      have hle : s1.heap.objs.size ≤ c := by
        rcases e' with z | z | z | z | z
        · rw [z]; exact Nat.le_add_right _ _
        · rw [z]; exact Nat.le_add_right _ _
        · rw [z]; exact Nat.le_add_right _ _
        · rw [z]; exact Nat.le_refl _
        · rw [z]; exact Nat.le_add_right _ _
      exact I1.fpOk hle (I1.hok.fresh hle)
section
variable {c : Ct} {X : Cx} {W : WX} {M M' : Own} {H H' : Hp}
theorem itr_zipM {K : PySem.W.Frag} {a b : Addr} {vs ws : List V} {xs ys : List D} (hK : c.K = K) (e1 : H a = some (.lst vs)) (h1 : ∀ i, M a ≠ some (.sl i)) (n1 : c.hd ≠ some a) (t2 : ShT c M H b ws)
    (r1 : RepL c M H xs vs) (r2 : RepL c M H ys ws) : ItR c M H (ItM K a b) (zipD xs ys) := fun M' H' f hd => by
  have s1 : SqL K H' a vs := .of (f.keep a _ e1 h1 n1).1
  have s2 : SqT K H' b ws := hK ▸ (t2.fr f).seq
  have r1' := r1.fr f
  have r2' := r2.fr f
  refine ⟨fun i d hi => ?_, ⟨vs, ws, s1, s2, ?_⟩⟩
  · obtain ⟨x, y, hx, hy, rfl⟩ := zipD_get hi
    obtain ⟨v, hv, rv⟩ := r1'.get hx
    obtain ⟨w, hw, rw_⟩ := r2'.get hy
    refine ⟨⟨vs, ws, v, w, s1, s2, hv, hw⟩, fun z Hy q => ?_⟩
    obtain ⟨T, v', w', rfl, hT, rfl, q1, q2⟩ := q
    have z1 := q1 vs s1
    have z2 := q2 ws s2
    rw [hv] at z1
    rw [hw] at z2
    cases z1
    cases z2
    exact zip_yield (hd_new hd hT) hT rv rw_
  · unfold zipD
    rw [List.length_zipWith, r1.length, r2.length]
    omega
@[simp] def iZpM (m : MA) : MI := fun ρ Q E => m ρ (fun ds ρ' => match ds with
  | [.lst xs, .tup ys] => Q (zipD xs ys) ρ'
  | _ => False) E
theorem si_zipM {a b : Expr} {elts : List Expr} {kk : Nat} {tpos : Pos} {m : MA} {p pos : Pos} (hf : Fit c X) (hm0 : X.mg "zip" = none) (h : AS c X W [a, b] m) (hg : Gl X "zip" := by rfl) (hs : starEach [a, b] X.env = (false, eval a X.env) :: starEach [b] X.env := by rfl) (hpl : (backTo pos (starEach [b] X.env)).any (·.1) = false := by rfl) :
    SI c X W (.Tuple elts kk tpos) (.Call (.Name "zip" p) [a, b] [] pos) (iZpM m) := by
  obtain ⟨t, p, r⟩ := h
  refine ⟨_, pi_zipM hg hm0 p hs hpl, fun M H σ ρ Q E R g hm k x => r M H σ ρ _ E _ g hm (fun ds ρ' M' H' vs q g' f rr => ?_) x⟩
  split at q
  · unfold RepL at rr
    obtain ⟨v, w, rfl, h1, rr⟩ := rr
    unfold RepL at rr
    obtain ⟨w, z, rfl, h2, rr⟩ := rr
    unfold RepL at rr
    subst rr
    unfold Rep at h1 h2
    obtain ⟨a, vs, rfl, s1, r1⟩ := h1
    obtain ⟨b, ws, rfl, s2, r2⟩ := h2
    exact ⟨a, b, vs, ws, rfl, .of s1.2.2, hf.K ▸ s2.seq, k _ ρ' M' H' _ q g' f (itr_zipM hf.K s1.2.2 (nslot_of_none s1.1) s1.2.1 s2 r1 r2)⟩
  · exact q.elim
end
end Lk

namespace Lk
open PySem PySem.Spec PyProof.Rows L2
/-! ## 35. a, b = e, [] where a name is kept in a cell: a tuple is built and taken apart -/
section
variable {c : Ct} {X : Cx} {W : WX} {M M' : Own} {H H' : Hp}
theorem ss_parA (i j : Nat) {x y : Str} {a b : Expr} {m : MX} {px py pt pos : Pos} {kt k2 : Nat} {pt2 : Pos} (np : c.pin = none) (hc : X.calm = true) (hN : X.N.Nodup) (h : AX c X W [a, b] 2 m) (hij : i ≠ j := by decide) (hi : X.N[i]? = some x := by rfl) (hj : X.N[j]? = some y := by rfl)
    (hx : Loc X.env.scope x := by first | exact Or.inl rfl | exact Or.inr rfl) (hy : Loc X.env.scope y := by first | exact Or.inl rfl | exact Or.inr rfl)
    (hfx : X.fn x = true ∨ X.env.scope.names.lookup x = some .local := by first | exact .inl rfl | exact .inr rfl) (hfy : X.fn y = true ∨ X.env.scope.names.lookup y = some .local := by first | exact .inl rfl | exact .inr rfl)
    (t1 : (assignEach [.Name y py] X.env).map (·.2) = assign (.Name y py) X.env :: (assignEach [] X.env).map (·.2) := by rfl)
    (t2 : (assignEach [.Name x px, .Name y py] X.env).map (·.2) = assign (.Name x px) X.env :: (assignEach [.Name y py] X.env).map (·.2) := by rfl)
    (t3 : (assignEach [.Name x px, .Name y py] X.env).length = 2 := by rfl) (t4 : (assignEach [.Name x px, .Name y py] X.env).findIdx? (·.1) = none := by rfl)
    (hw : swappedStores [.Tuple [.Name x px, .Name y py] kt pt] (.Tuple [a, b] k2 pt2) X.env = pure none := by rfl)
    (hs : swapsWithSole [.Tuple [.Name x px, .Name y py] kt pt] (.Tuple [a, b] k2 pt2) pos.line X.env = pure false := by rfl)
    (h1 : (assignEach [.Tuple [.Name x px, .Name y py] kt pt] X.env).map (·.2) = [assign (.Tuple [.Name x px, .Name y py] kt pt) X.env] := by rfl) :
    SS c X W (.Assign [.Tuple [.Name x px, .Name y py] kt pt] (.Tuple [a, b] k2 pt2) pos) (sPar [i, j] m) := by
  obtain ⟨t, p, r⟩ := h
  refine ⟨_, ps_asg (pe_tup p) (pg_tup hc (pgs_cons (pg_name hN hi hx hfx) (pgs_cons (pg_name hN hj hy hfy) pgs_nil t1) t2) t3 t4) hs hw h1, fun M H σ ρ P D g hm k => r M H σ ρ _ _ _ g hm (fun ps ρ' M' H' vs q l g' f mx => ?_) k.xok⟩
  have lv := mx.length
  rw [l] at lv
  obtain ⟨v, w, rfl⟩ : ∃ v w, vs = [v, w] := by
    match vs, lv with
    | [v, w], _ => exact ⟨v, w, rfl⟩
  refine ⟨by show 2 ≤ sizeLine; decide, fun T hT => ?_⟩
  have fa : FrA M' H' (setM M' T none) (upd H' T (.tup [v, w])) := FrA.new hT
  have g2 := g'.frA fa
  obtain ⟨M2, k2, g3⟩ := g2.putAll np (is := [i, j]) (mx.fr fa.fr)
  refine ⟨T, [v, w], rfl, .inl (.inl upd_same), rfl, v, [w], rfl, w, [], rfl, rfl, ?_⟩
  exact k.nx _ M2 _ _ q g3 ((f.trans fa.fr).re k2)
end
end Lk

namespace Lk
open PySem PySem.Spec PyProof.Rows L2
/-! ## plain: what several defs share -/
def D.inR (lo hi : Int) : D → Bool
  | .int i => decide (lo ≤ i) && decide (i ≤ hi)
  | _ => false
def D.isI : D → Bool
  | .int _ => true
  | _ => false
abbrev xn (x : Str) : Xn := { name := x }
theorem inR_of {d : D} {lo hi : Int} (h : d.inR lo hi = true) : ∃ i, d = .int i ∧ lo ≤ i ∧ i ≤ hi := by
  cases d <;> simp_all [D.inR]
theorem mem_cutG {α : Type} {xs : List α} {lo hi : Option Int} {x : α} (h : x ∈ cutG xs lo hi) : x ∈ xs := List.mem_of_mem_drop (List.mem_of_mem_take h)
theorem cutG_len {α : Type} {xs : List α} {lo hi : Option Int} : (cutG xs lo hi).length ≤ xs.length := by
  unfold cutG
  rw [List.length_take, List.length_drop]
  omega
theorem cutG_map {α β : Type} {f : α → β} {xs : List α} {lo hi : Option Int} : cutG (xs.map f) lo hi = (cutG xs lo hi).map f := by
  unfold cutG
  rw [List.length_map, List.map_take, List.map_drop]
def absI (i : Int) : Int := if i < 0 then -i else i
theorem absI_nn (i : Int) : 0 ≤ absI i := by unfold absI; split <;> omega
@[simp] theorem inR_int {lo hi i : Int} : D.inR lo hi (.int i) = (decide (lo ≤ i) && decide (i ≤ hi)) := rfl
/-- any plain thing, at most n deep, or a dict -/
def Th : Nat → D → Prop
  | _, .non => True
  | _, .bl _ => True
  | _, .int _ => True
  | _, .str x => PyData.strOk x = true
  | n + 1, .tup xs => xs.length ≤ 16777216 ∧ ∀ x ∈ xs, Th n x
  | n + 1, .lst xs => xs.length ≤ 16777216 ∧ ∀ x ∈ xs, Th n x
  | _, .dct _ _ => True
  | _, _ => False
theorem Th.ty {n : Nat} {d : D} (h : Th n d) : d.tyN ≠ none := by
  cases d <;> cases n <;> first | exact h.elim | exact fun z => nomatch z
@[simp] theorem Th_int {n : Nat} {i : Int} : Th n (.int i) := by cases n <;> trivial
theorem Th.mem {n : Nat} {xs : List D} (h : Th (n + 1) (.tup xs)) : ∀ x ∈ xs, x.tyN ≠ none := fun x hx => (h.2 x hx).ty
theorem Th.ints {n : Nat} {ns : List Int} (h : ns.length ≤ 16777216) : Th (n + 1) (.tup (ns.map D.int)) := ⟨by rw [List.length_map]; exact h, fun x hx => by
  obtain ⟨i, _, rfl⟩ := List.mem_map.mp hx
  simp⟩
@[simp] def D.ints1 : D → List Int
  | .tup xs => (D.ints xs).getD []
  | .lst xs => (D.ints xs).getD []
  | _ => []
theorem ints_of_all {p : D → Bool} {xs : List D} (h : xs.all p = true) (hp : ∀ d, p d = true → ∃ i, d = .int i) : ∃ ns : List Int, xs = ns.map D.int := by
  induction xs with
  | nil => exact ⟨[], rfl⟩
  | cons x xs ih =>
    rw [List.all_cons, Bool.and_eq_true] at h
    obtain ⟨i, rfl⟩ := hp x h.1
    obtain ⟨ns, rfl⟩ := ih h.2
    exact ⟨i :: ns, rfl⟩
theorem eqv_ints {as bs : List Int} : D.eqv (.lst (as.map D.int)) (.lst (bs.map D.int)) = decide (as = bs) := by
  have key : ∀ as bs : List Int, PyData.eqvAll (D.py.pyL (as.map D.int)) (D.py.pyL (bs.map D.int)) = decide (as = bs) := by
    intro as
    induction as with
    | nil => intro bs; cases bs <;> simp [D.py.pyL, PyData.eqvAll]
    | cons a as ih =>
      intro bs
      cases bs with
      | nil => simp [D.py.pyL, PyData.eqvAll]
      | cons b bs =>
        show PyData.eqvAll ((D.int a).py :: D.py.pyL (as.map D.int)) ((D.int b).py :: D.py.pyL (bs.map D.int)) = _
        rw [PyData.eqvAll, ih]
        simp [D.py, PyData.eqv]
        by_cases z : a = b <;> simp [z]
  show PyData.eqv (.list _) (.list _) = _
  rw [PyData.eqv]
  exact key as bs
theorem Pl_ints {n : Nat} {ns : List Int} : Pl (n + 1) (.lst (ns.map D.int)) := fun x hx => by
  obtain ⟨i, _, rfl⟩ := List.mem_map.mp hx
  simp
theorem Pl_tints {n : Nat} {ns : List Int} : Pl (n + 1) (.tup (ns.map D.int)) := fun x hx => by
  obtain ⟨i, _, rfl⟩ := List.mem_map.mp hx
  simp
@[simp] theorem bls_mapp {α : Type} {xs : List α} {p : α → Bool} : D.bls (xs.map fun x => .bl (p x)) = some (xs.map p) := by
  have := bls_map (xs.map p)
  rwa [List.map_map] at this
theorem Th.len {n : Nat} {xs : List D} (h : Th (n + 1) (.tup xs)) : xs.length ≤ sizeLine := by rw [sizeLine_val]; exact h.1
theorem pow_nat {n : Int} {a : Nat} (h : n.natAbs < 2 ^ a) (i : Nat) : (n ^ i).natAbs < 2 ^ (a * i + 1) := by
  rw [Int.natAbs_pow, Nat.pow_succ, Nat.pow_mul]
  have h1 : n.natAbs ^ i ≤ (2 ^ a) ^ i := Nat.pow_le_pow_left (Nat.le_of_lt h) i
  have h2 : 0 < (2 ^ a) ^ i := Nat.pow_pos (Nat.pow_pos (by decide))
  omega
theorem nat_lt {n : Int} {a b : Nat} (h : n.natAbs < 2 ^ a) (hb : a ≤ b) : n.natAbs < 2 ^ b := Nat.lt_of_lt_of_le h (Nat.pow_le_pow_right (by decide) hb)
theorem cutG_all {α : Type} (xs : List α) : cutG xs none none = xs := by
  unfold cutG
  rw [HT.sIx_none, HT.sIx_none, List.drop_zero, Nat.sub_zero, List.take_length]
theorem cutG_from {α : Type} (xs : List α) {k : Int} (h : 0 ≤ k) : cutG xs (some k) none = xs.drop k.toNat := by
  obtain ⟨m, rfl⟩ : ∃ m : Nat, k = (m : Int) := ⟨k.toNat, by omega⟩
  unfold cutG
  rw [HT.sIx_none, HT.sIx_nat, Int.toNat_natCast]
  by_cases z : m ≤ xs.length
  · rw [Nat.min_eq_left z, List.take_of_length_le (by rw [List.length_drop]; omega)]
  · rw [Nat.min_eq_right (by omega), List.drop_eq_nil_of_le (Nat.le_refl _), List.drop_eq_nil_of_le (by omega), Nat.sub_self]
    rfl
theorem cutG_to {α : Type} (xs : List α) {k : Int} (h : 0 ≤ k) : cutG xs none (some k) = xs.take k.toNat := by
  obtain ⟨m, rfl⟩ : ∃ m : Nat, k = (m : Int) := ⟨k.toNat, by omega⟩
  unfold cutG
  rw [HT.sIx_none, HT.sIx_nat, Int.toNat_natCast, List.drop_zero, Nat.sub_zero]
  by_cases z : m ≤ xs.length
  · rw [Nat.min_eq_left z]
  · rw [Nat.min_eq_right (by omega), List.take_of_length_le (Nat.le_refl _), List.take_of_length_le (by omega)]
theorem zipD_ints : ∀ (as bs : List Int), zipD (as.map D.int) (bs.map D.int) = (as.zip bs).map fun p => .tup [.int p.1, .int p.2]
  | [], _ => rfl
  | _ :: _, [] => rfl
  | a :: as, b :: bs => by
    have ih := zipD_ints as bs
    unfold zipD at ih ⊢
    simp [ih]
theorem map_ints {α : Type} (f : α → Int) (xs : List α) : (xs.map fun x => D.int (f x)) = (xs.map f).map D.int := by rw [List.map_map]; rfl
theorem rangeL_ints (lo : Int) (n : Nat) : rangeL lo n = ((List.range n).map fun i : Nat => lo + (i : Int)).map D.int := by
  unfold rangeL
  rw [List.map_map]
  rfl
theorem ints_ex {p : Int → Prop} {ys : List D} (h : ∀ d ∈ ys, ∃ i : Int, d = .int i ∧ p i) : ∃ ns : List Int, ys = ns.map D.int ∧ ∀ n ∈ ns, p n := by
  induction ys with
  | nil => exact ⟨[], rfl, fun _ h => by cases h⟩
  | cons y ys ih =>
    obtain ⟨i, rfl, hi⟩ := h y List.mem_cons_self
    obtain ⟨ns, rfl, hn⟩ := ih fun d hd => h d (List.mem_cons_of_mem _ hd)
    exact ⟨i :: ns, rfl, fun n hm => by
      rcases List.mem_cons.mp hm with e | e
      · rw [e]; exact hi
      · exact hn n e⟩
theorem isort_sorted {ns : List Int} (h : ns.Pairwise (· ≤ ·)) : isort ns = ns := (isort_one (List.Perm.refl ns) h).symm
theorem sum_bd {B : Nat} : ∀ (ns : List Int), (∀ n ∈ ns, n.natAbs ≤ B) → ns.sum.natAbs ≤ B * ns.length
  | [], _ => by simp
  | n :: ns, h => by
    have a := h n List.mem_cons_self
    have b := sum_bd ns fun m hm => h m (List.mem_cons_of_mem _ hm)
    rw [List.sum_cons, List.length_cons, Nat.mul_succ]
    omega
theorem get_put_lt : ∀ {ρ : Ev} {i : Nat} {s : Slot}, i < ρ.length → (ρ.put i s).get i = s
  | [], _, _, h => absurd h (by simp)
  | _ :: _, 0, _, _ => rfl
  | _ :: r, i + 1, s, h => get_put_lt (ρ := r) (Nat.lt_of_succ_lt_succ h)
theorem lt400 {n : Nat} (h : n < 2 ^ 30) : n < 2 ^ 400 := Nat.lt_of_lt_of_le h (Nat.pow_le_pow_right (n := 2) (by decide) (show 30 ≤ 400 by decide))

theorem eqv_tints {as bs : List Int} : D.eqv (.tup (as.map D.int)) (.tup (bs.map D.int)) = decide (as = bs) := by
  have e := eqv_ints (as := as) (bs := bs)
  have e1 : D.eqv (.lst (as.map D.int)) (.lst (bs.map D.int)) = PyData.eqvAll (D.py.pyL (as.map D.int)) (D.py.pyL (bs.map D.int)) := by
    show PyData.eqv (.list _) (.list _) = _
    rw [PyData.eqv]
  have e2 : D.eqv (.tup (as.map D.int)) (.tup (bs.map D.int)) = PyData.eqvAll (D.py.pyL (as.map D.int)) (D.py.pyL (bs.map D.int)) := by
    show PyData.eqv (.tuple _) (.tuple _) = _
    rw [PyData.eqv]
  rw [e2, ← e1, e]

/-! signs by turns, Newton's sums -/
def sg (k : Nat) : Int := if k % 2 = 1 then 1 else -1
theorem sg_succ (k : Nat) : sg (k + 1) = -sg k := by
  unfold sg
  split <;> split <;> omega
theorem sg_sq (k : Nat) : sg k * sg k = 1 := by
  unfold sg
  split <;> rfl
theorem sg_one (k : Nat) : sg k = 1 ∨ sg k = -1 := by
  unfold sg
  split
  · exact .inl rfl
  · exact .inr rfl
theorem sg_abs (k : Nat) (x : Int) : (sg k * x).natAbs = x.natAbs := by
  rcases sg_one k with h | h <;> rw [h] <;> omega
def aS (g : Nat → Int) : Nat → Int
  | 0 => 0
  | n + 1 => aS g n + sg (n + 1) * g (n + 1)
theorem aS_s (g : Nat → Int) (n : Nat) : aS g (n + 1) = aS g n + sg (n + 1) * g (n + 1) := rfl
theorem aS_congr {g h : Nat → Int} : ∀ {n : Nat}, (∀ i, 1 ≤ i → i ≤ n → g i = h i) → aS g n = aS h n
  | 0, _ => rfl
  | n + 1, e => by
    rw [aS_s, aS_s, aS_congr (n := n) fun i a b => e i a (by omega), e (n + 1) (by omega) (Nat.le_refl _)]
theorem aS_add (g h : Nat → Int) : ∀ n : Nat, aS (fun i => g i + h i) n = aS g n + aS h n
  | 0 => rfl
  | n + 1 => by
    rw [aS_s, aS_s, aS_s, aS_add g h n, Int.mul_add]
    omega
theorem aS_mul (x : Int) (g : Nat → Int) : ∀ n : Nat, aS (fun i => x * g i) n = x * aS g n
  | 0 => (Int.mul_zero x).symm
  | n + 1 => by
    rw [aS_s, aS_s, aS_mul x g n, Int.mul_add]
    grind
theorem aS_zero : ∀ n : Nat, aS (fun _ => 0) n = 0
  | 0 => rfl
  | n + 1 => by rw [aS_s, aS_zero n]; simp
/-- the first apart -/
theorem aS_head (g : Nat → Int) : ∀ n : Nat, aS g (n + 1) = g 1 - aS (fun i => g (i + 1)) n
  | 0 => by
    simp [aS, sg]
  | n + 1 => by
    rw [aS_s, aS_head g n, aS_s, sg_succ (n + 1)]
    grind
theorem aS_rev : ∀ (n : Nat) (g : Nat → Int), aS (fun i => g (n + 1 - i)) n = sg n * aS g n
  | 0, g => by simp [aS]
  | n + 1, g => by
    have ih := aS_rev n fun i => g (i + 1)
    have e : aS (fun i => g (n + 1 + 1 - i)) n = aS (fun i => g (n + 1 - i + 1)) n := aS_congr fun i a b => by
      rw [show n + 1 + 1 - i = n + 1 - i + 1 by omega]
    rw [aS_s, e, ih, aS_head g n, sg_succ n, show n + 1 + 1 - (n + 1) = 1 by omega]
    grind
/-- a bound of each part -/
theorem aS_bd {g : Nat → Int} {B K n : Nat} : ∀ m : Nat, m ≤ n → (∀ i, 1 ≤ i → i ≤ m → (g i).natAbs ≤ K * (B * (B + 1) ^ (n - i))) → (aS g m).natAbs + K * (B + 1) ^ (n - m) ≤ K * (B + 1) ^ n
  | 0, _, _ => by
    rw [Nat.sub_zero]
    show 0 + _ ≤ _
    omega
  | m + 1, hm, h => by
    have ih := aS_bd (g := g) (B := B) (K := K) (n := n) m (by omega) fun i a b => h i a (by omega)
    have h1 := h (m + 1) (by omega) (Nat.le_refl _)
    rw [aS_s]
    have e : (sg (m + 1) * g (m + 1)).natAbs = (g (m + 1)).natAbs := sg_abs _ _
    have p : (B + 1) ^ (n - m) = B * (B + 1) ^ (n - (m + 1)) + (B + 1) ^ (n - (m + 1)) := by
      rw [show n - m = n - (m + 1) + 1 by omega, Nat.pow_succ, Nat.mul_comm, Nat.succ_mul]
    rw [p, Nat.mul_add] at ih
    omega
/-- Newton's rule at k -/
def Nt (E s : Nat → Int) (k : Nat) : Prop := aS (fun i => E (k - i) * s i) k = (k : Int) * E k
/-- .. told the other way about -/
def Sm (E s : Nat → Int) (k : Nat) : Prop := s k = aS (fun i => E i * s (k - i)) (k - 1) + sg k * (k : Int) * E k
theorem nt_sm {E s : Nat → Int} {k : Nat} (h0 : E 0 = 1) (hk : 1 ≤ k) : Nt E s k ↔ Sm E s k := by
  obtain ⟨n, rfl⟩ : ∃ n, k = n + 1 := ⟨k - 1, by omega⟩
  unfold Nt Sm
  have e : aS (fun i => E (n + 1 - i) * s i) n = sg n * aS (fun i => E i * s (n + 1 - i)) n := by
    rw [← aS_rev n fun i => E i * s (n + 1 - i)]
    refine aS_congr fun i a b => ?_
    show _ = E (n + 1 - i) * s (n + 1 - (n + 1 - i))
    rw [show n + 1 - (n + 1 - i) = i by omega]
  rw [aS_s, e, Nat.sub_self, h0, show n + 1 - 1 = n by omega, Int.one_mul, sg_succ, Int.mul_assoc]
  obtain ⟨y, hy⟩ : ∃ y, y = ((n + 1 : Nat) : Int) * E (n + 1) := ⟨_, rfl⟩
  rw [← hy]
  have q := sg_sq n
  rcases sg_one n with h | h <;> rw [h] <;> constructor <;> intro z <;> omega
theorem nt_bd {E s : Nat → Int} {B n : Nat} (h0 : E 0 = 1) (hs : ∀ i, 1 ≤ i → i ≤ n → (s i).natAbs ≤ B) (h : ∀ k, 1 ≤ k → k ≤ n → Nt E s k) : ∀ k, k ≤ n → (E k).natAbs ≤ (B + 1) ^ k := by
  intro k
  induction k using Nat.strongRecOn with
  | _ k ih =>
    intro hk
    by_cases z : k = 0
    · rw [z, h0]
      exact Nat.le_refl _
    · have e := h k (by omega) hk
      unfold Nt at e
      have b := aS_bd (g := fun i => E (k - i) * s i) (B := B) (K := 1) (n := k) k (Nat.le_refl _) fun i a b => by
        have x := ih (k - i) (by omega) (by omega)
        have y := hs i a (by omega)
        rw [Int.natAbs_mul, Nat.one_mul, Nat.mul_comm]
        exact Nat.mul_le_mul y x
      rw [e, Int.natAbs_mul] at b
      have : (E k).natAbs ≤ ((k : Int)).natAbs * (E k).natAbs := Nat.le_mul_of_pos_left _ (by omega)
      omega
theorem nt_tot {E s : Nat → Int} {B n : Nat} (hE : ∀ k, k < n → (E k).natAbs ≤ (B + 1) ^ k) (hs : ∀ i, 1 ≤ i → i ≤ n → (s i).natAbs ≤ B) : (aS (fun i => E (n - i) * s i) n).natAbs ≤ (B + 1) ^ n := by
  have b := aS_bd (g := fun i => E (n - i) * s i) (B := B) (K := 1) (n := n) n (Nat.le_refl _) fun i a b => by
    have x := hE (n - i) (by omega)
    have y := hs i a (by omega)
    rw [Int.natAbs_mul, Nat.one_mul, Nat.mul_comm]
    exact Nat.mul_le_mul y x
  omega
theorem sm_bd {E s : Nat → Int} {B n : Nat} (hE : ∀ i, 1 ≤ i → i ≤ n → (E i).natAbs ≤ B) (h : ∀ k, 1 ≤ k → k ≤ n → Sm E s k) : ∀ k, 1 ≤ k → k ≤ n → (s k).natAbs ≤ k * (B + 1) ^ k := by
  intro k
  induction k using Nat.strongRecOn with
  | _ k ih =>
    intro k1 hk
    have e := h k k1 hk
    unfold Sm at e
    have b := aS_bd (g := fun i => E i * s (k - i)) (B := B) (K := k) (n := k) (k - 1) (by omega) fun i a b => by
      have x := ih (k - i) (by omega) (by omega) (by omega)
      have y := hE i a (by omega)
      rw [Int.natAbs_mul]
      have z : (k - i) * (B + 1) ^ (k - i) ≤ k * (B + 1) ^ (k - i) := Nat.mul_le_mul_right _ (by omega)
      have w := Nat.mul_le_mul y (Nat.le_trans x z)
      rw [← Nat.mul_assoc, Nat.mul_comm k B, Nat.mul_assoc]
      exact w
    have t : (sg k * (k : Int) * E k).natAbs ≤ k * B := by
      rw [Int.natAbs_mul, sg_abs]
      have := hE k k1 hk
      exact Nat.mul_le_mul (by omega) this
    rw [show k - (k - 1) = 1 by omega, Nat.pow_one, Nat.mul_add] at b
    rw [e]
    omega
/-! rows by a rule -/
def fl (f : Nat → Int) (n : Nat) : List Int := (List.range n).map fun i => f (i + 1)
theorem fl_s (f : Nat → Int) (n : Nat) : fl f (n + 1) = fl f n ++ [f (n + 1)] := by
  unfold fl
  rw [List.range_succ, List.map_append]
  rfl
theorem fl_len (f : Nat → Int) (n : Nat) : (fl f n).length = n := by simp [fl]
theorem fl_get {f : Nat → Int} {n i : Nat} (h : i < n) : (fl f n)[i]? = some (f (i + 1)) := by
  unfold fl
  rw [List.getElem?_map, List.getElem?_range h]
  rfl
theorem fl_mem {f : Nat → Int} {n : Nat} {x : Int} (h : x ∈ fl f n) : ∃ i, 1 ≤ i ∧ i ≤ n ∧ x = f i := by
  obtain ⟨i, hi, rfl⟩ := List.mem_map.mp h
  exact ⟨i + 1, by omega, by have := List.mem_range.mp hi; omega, rfl⟩
theorem fl_congr {f g : Nat → Int} {n : Nat} (h : ∀ i, 1 ≤ i → i ≤ n → f i = g i) : fl f n = fl g n := by
  unfold fl
  refine List.map_congr_left fun i hi => h _ (by omega) ?_
  have := List.mem_range.mp hi
  omega
theorem fl_at {f : Nat → Int} {n : Nat} {i : Int} (h0 : 0 ≤ i) (h1 : i < (n : Int)) : atI ((fl f n).map D.int) i = some (.int (f (i.toNat + 1))) := by
  obtain ⟨m, rfl⟩ : ∃ m : Nat, i = (m : Int) := ⟨i.toNat, by omega⟩
  rw [atI_nat, List.getElem?_map, fl_get (by omega), Int.toNat_natCast]
  rfl
/-- a row's k-th, counted from 1, 0 beyond -/
def lf (ns : List Int) (k : Nat) : Int := ns.getD (k - 1) 0
theorem fl_lf (ns : List Int) (m : Nat) : fl (lf ns) m = ns.take m ++ List.replicate (m - ns.length) 0 := by
  refine List.ext_getElem? fun i => ?_
  by_cases z : i < m
  · rw [fl_get z]
    unfold lf
    rw [show i + 1 - 1 = i by omega]
    by_cases y : i < ns.length
    · rw [List.getElem?_append_left (by rw [List.length_take]; omega), List.getElem?_take_of_lt z, List.getD_eq_getElem?_getD, List.getElem?_eq_getElem y]
      rfl
    · rw [List.getElem?_append_right (by rw [List.length_take]; omega), List.length_take, List.getElem?_replicate, if_pos (by omega), List.getD_eq_getElem?_getD, List.getElem?_eq_none (by omega)]
      rfl
  · rw [List.getElem?_eq_none (by rw [fl_len]; omega), List.getElem?_eq_none (by rw [List.length_append, List.length_take, List.length_replicate]; omega)]
theorem fl_self (ns : List Int) : fl (lf ns) ns.length = ns := by
  rw [fl_lf, List.take_length, Nat.sub_self]
  exact List.append_nil _
theorem lf_bd {ns : List Int} {B : Nat} (h : ∀ n ∈ ns, n.natAbs ≤ B) (k : Nat) : (lf ns k).natAbs ≤ B := by
  unfold lf
  rw [List.getD_eq_getElem?_getD]
  cases z : ns[k - 1]? with
  | none => exact Nat.zero_le _
  | some x => exact h x (List.mem_of_getElem? z)
theorem lf_fl {f : Nat → Int} {n k : Nat} (h1 : 1 ≤ k) (h2 : k ≤ n) : lf (fl f n) k = f k := by
  unfold lf
  rw [List.getD_eq_getElem?_getD, fl_get (by omega), show k - 1 + 1 = k by omega]
  rfl
/-! sums of powers, sums of products of so many -/
def eS (g : Nat → Int) : Nat → Nat → Int
  | 0, k => if k = 0 then 1 else 0
  | j + 1, 0 => eS g j 0
  | j + 1, k + 1 => eS g j (k + 1) + g (j + 1) * eS g j k
def pS (g : Nat → Int) : Nat → Nat → Int
  | 0, _ => 0
  | j + 1, k => pS g j k + g (j + 1) ^ k
theorem eS_z (g : Nat → Int) : ∀ j : Nat, eS g j 0 = 1
  | 0 => rfl
  | j + 1 => eS_z g j
theorem eS_hi (g : Nat → Int) : ∀ (j k : Nat), j < k → eS g j k = 0
  | 0, k, h => if_neg (by omega)
  | j + 1, 0, h => by omega
  | j + 1, k + 1, h => by
    show eS g j (k + 1) + g (j + 1) * eS g j k = 0
    rw [eS_hi g j (k + 1) (by omega), eS_hi g j k (by omega)]
    simp
theorem newton (g : Nat → Int) : ∀ (j k : Nat), Nt (eS g j) (pS g j) k
  | 0, k => by
    unfold Nt
    rw [aS_congr (h := fun _ => 0) fun i a b => by simp [pS], aS_zero]
    cases k with
    | zero => rfl
    | succ k => simp [eS]
  | j + 1, 0 => by
    unfold Nt
    rw [Int.natCast_zero, Int.zero_mul]
    rfl
  | j + 1, n + 1 => by
    obtain ⟨x, hx⟩ : ∃ x, x = g (j + 1) := ⟨_, rfl⟩
    have i1 := newton g j (n + 1)
    have i0 := newton g j n
    unfold Nt at i1 i0 ⊢
    rw [aS_s, Nat.sub_self] at i1 ⊢
    rw [eS_z] at i1 ⊢
    -- each part taken apart
    have e : aS (fun i => eS g (j + 1) (n + 1 - i) * pS g (j + 1) i) n = aS (fun i => eS g j (n + 1 - i) * pS g j i) n + x * aS (fun i => eS g j (n - i) * pS g j i) n + (aS (fun i => eS g j (n + 1 - i) * x ^ i) n + x * aS (fun i => eS g j (n - i) * x ^ i) n) := by
      rw [← aS_mul, ← aS_mul, ← aS_add, ← aS_add, ← aS_add]
      refine aS_congr fun i a b => ?_
      show eS g (j + 1) (n + 1 - i) * (pS g j i + g (j + 1) ^ i) = _
      rw [show n + 1 - i = n - i + 1 by omega]
      show (eS g j (n - i + 1) + g (j + 1) * eS g j (n - i)) * (pS g j i + g (j + 1) ^ i) = _
      rw [← hx]
      grind
    have t : aS (fun i => eS g j (n + 1 - i) * x ^ i) n + sg (n + 1) * x ^ (n + 1) = x * eS g j n - x * aS (fun i => eS g j (n - i) * x ^ i) n := by
      have h := aS_head (fun i => eS g j (n + 1 - i) * x ^ i) n
      rw [aS_s, Nat.sub_self, eS_z] at h
      have h2 : aS (fun i => eS g j (n + 1 - (i + 1)) * x ^ (i + 1)) n = x * aS (fun i => eS g j (n - i) * x ^ i) n := by
        rw [← aS_mul]
        refine aS_congr fun i a b => ?_
        rw [show n + 1 - (i + 1) = n - i by omega, Int.pow_succ]
        grind
      rw [h2, show n + 1 - 1 = n by omega, Int.pow_one] at h
      rw [Int.one_mul] at h
      rw [h]
      grind
    rw [e]
    show _ + sg (n + 1) * (1 * (pS g j (n + 1) + g (j + 1) ^ (n + 1))) = ((n + 1 : Nat) : Int) * (eS g j (n + 1) + g (j + 1) * eS g j n)
    rw [← hx, i0]
    rw [Int.natCast_add] at i1 ⊢
    grind
theorem psum_pS (ns : List Int) (k : Nat) : (ns.map fun n => n ^ k).sum = pS (lf ns) ns.length k := by
  have key : ∀ m, m ≤ ns.length → ((ns.take m).map fun n => n ^ k).sum = pS (lf ns) m k := by
    intro m
    induction m with
    | zero => intro _; rfl
    | succ m ih =>
      intro hm
      have e : ns.take (m + 1) = ns.take m ++ [ns[m]'(by omega)] := by
        rw [List.take_succ_eq_append_getElem (by omega)]
      rw [e, List.map_append, List.sum_append, ih (by omega)]
      show _ = pS (lf ns) m k + lf ns (m + 1) ^ k
      unfold lf
      rw [List.getD_eq_getElem?_getD, show m + 1 - 1 = m by omega, List.getElem?_eq_getElem (by omega)]
      simp
  have := key ns.length (Nat.le_refl _)
  rwa [List.take_length] at this
/-- what is told of sums: the products, or the first that is not whole -/
structure PrR (E s : Nat → Int) (m n : Nat) (d : D) : Prop where
  e0 : E 0 = 1
  mn : m ≤ n
  nt : ∀ k, 1 ≤ k → k ≤ m → Nt E s k
  d : (m = n ∧ d = .tup [.str "products", .tup ((fl E n).map D.int)]) ∨ (m < n ∧ aS (fun i => E (m + 1 - i) * s i) (m + 1) % ((m : Int) + 1) ≠ 0 ∧ d = .tup [.str "breaks", .int ((m : Int) + 1), .int (aS (fun i => E (m + 1 - i) * s i) (m + 1) % ((m : Int) + 1))])
theorem prR_ex (s : Nat → Int) (n : Nat) : ∃ E m d, PrR E s m n d := by
  have key : ∀ k, k ≤ n → (∃ E m d, PrR E s m n d) ∨ ∃ E : Nat → Int, E 0 = 1 ∧ ∀ j, 1 ≤ j → j ≤ k → Nt E s j := by
    intro k
    induction k with
    | zero => exact fun _ => .inr ⟨fun _ => 1, rfl, fun j a b => by omega⟩
    | succ k ih =>
      intro hk
      rcases ih (by omega) with h | ⟨E, h0, h⟩
      · exact .inl h
      · by_cases z : aS (fun i => E (k + 1 - i) * s i) (k + 1) % ((k : Int) + 1) = 0
        · refine .inr ⟨fun j => if j = k + 1 then aS (fun i => E (k + 1 - i) * s i) (k + 1) / ((k : Int) + 1) else E j, by simp [h0], fun j a b => ?_⟩
          have cg : ∀ j, j ≤ k + 1 → aS (fun i => (if j - i = k + 1 then aS (fun i => E (k + 1 - i) * s i) (k + 1) / ((k : Int) + 1) else E (j - i)) * s i) j = aS (fun i => E (j - i) * s i) j := fun j hj => aS_congr fun i a b => by
            rw [if_neg (by omega)]
          unfold Nt
          rw [cg j b]
          show aS (fun i => E (j - i) * s i) j = (j : Int) * (if j = k + 1 then _ else E j)
          by_cases y : j = k + 1
          · subst y
            rw [if_pos rfl, Int.natCast_add]
            exact (Int.mul_ediv_cancel' (Int.dvd_of_emod_eq_zero z)).symm
          · rw [if_neg y]
            exact h j a (by omega)
        · exact .inl ⟨E, k, _, h0, by omega, h, .inr ⟨by omega, z, rfl⟩⟩
  rcases key n (Nat.le_refl _) with h | ⟨E, h0, h⟩
  · exact h
  · exact ⟨E, n, _, h0, Nat.le_refl _, h, .inl ⟨rfl, rfl⟩⟩
/-- sums of such products -/
def swL (E : Nat → Int) : Nat → List Int
  | 0 => []
  | n + 1 => swL E n ++ [aS (fun i => E i * lf (swL E n) (n + 1 - i)) n + sg (n + 1) * ((n + 1 : Nat) : Int) * E (n + 1)]
theorem swL_len (E : Nat → Int) : ∀ n, (swL E n).length = n
  | 0 => rfl
  | n + 1 => by rw [swL, List.length_append, swL_len E n]; rfl
theorem sm_ex (E : Nat → Int) (n : Nat) : ∃ s : Nat → Int, ∀ k, 1 ≤ k → k ≤ n → Sm E s k := by
  refine ⟨lf (swL E n), ?_⟩
  induction n with
  | zero => exact fun k a b => by omega
  | succ n ih =>
    have lo : ∀ k, 1 ≤ k → k ≤ n → lf (swL E (n + 1)) k = lf (swL E n) k := fun k a b => by
      unfold lf
      rw [swL, List.getD_eq_getElem?_getD, List.getD_eq_getElem?_getD, List.getElem?_append_left (by rw [swL_len]; omega)]
    intro k a b
    unfold Sm
    have cg : aS (fun i => E i * lf (swL E (n + 1)) (k - i)) (k - 1) = aS (fun i => E i * lf (swL E n) (k - i)) (k - 1) := aS_congr fun i x y => by rw [lo (k - i) (by omega) (by omega)]
    rw [cg]
    by_cases z : k = n + 1
    · subst z
      have e : lf (swL E (n + 1)) (n + 1) = aS (fun i => E i * lf (swL E n) (n + 1 - i)) n + sg (n + 1) * ((n + 1 : Nat) : Int) * E (n + 1) := by
        unfold lf
        rw [List.getD_eq_getElem?_getD, show n + 1 - 1 = n by omega]
        show ((swL E n ++ [_])[n]?).getD 0 = _
        rw [List.getElem?_append_right (by rw [swL_len]; omega), swL_len, Nat.sub_self]
        rfl
      rw [e]
      rfl
    · rw [lo k a (by omega)]
      exact ih k a (by omega)
/-- found rows: from 1 on -/
def fl0 (E : Nat → Int) (n : Nat) : List Int := (List.range (n + 1)).map E
theorem fl0_s (E : Nat → Int) (n : Nat) : fl0 E (n + 1) = fl0 E n ++ [E (n + 1)] := by
  unfold fl0
  rw [List.range_succ, List.map_append]
  rfl
theorem fl0_len (E : Nat → Int) (n : Nat) : (fl0 E n).length = n + 1 := by simp [fl0]
theorem fl0_at {E : Nat → Int} {n : Nat} {i : Int} (h0 : 0 ≤ i) (h1 : i ≤ (n : Int)) : atI ((fl0 E n).map D.int) i = some (.int (E i.toNat)) := by
  obtain ⟨m, rfl⟩ : ∃ m : Nat, i = (m : Int) := ⟨i.toNat, by omega⟩
  rw [atI_nat, List.getElem?_map, Int.toNat_natCast]
  unfold fl0
  rw [List.getElem?_map, List.getElem?_range (by omega)]
  rfl
theorem fl0_get {E : Nat → Int} {n i : Nat} (h : i ≤ n) : (fl0 E n)[i]? = some (E i) := by
  unfold fl0
  rw [List.getElem?_map, List.getElem?_range (by omega)]
  rfl
theorem fl0_drop (E : Nat → Int) (n : Nat) : (fl0 E n).drop 1 = fl E n := by
  induction n with
  | zero => rfl
  | succ n ih => rw [fl0_s, fl_s, List.drop_append_of_le_length (by rw [fl0_len]; omega), ih]
theorem aS_list (g : Nat → Int) : ∀ n : Nat, aS g n = ((List.range n).map fun i : Nat => sg (i + 1) * g (i + 1)).sum
  | 0 => rfl
  | n + 1 => by
    rw [List.range_succ, List.map_append, List.sum_append, aS_s, aS_list g n]
    simp
/-! sums of all products of so many, each as often as one likes -/
def cR (f : Nat → Int) (a : Int) : Nat → Int
  | 0 => 1
  | k + 1 => f (k + 1) + a * cR f a k
def cS (g : Nat → Int) : Nat → Nat → Int
  | 0 => fun k => if k = 0 then 1 else 0
  | j + 1 => cR (cS g j) (g (j + 1))
theorem cS_z (g : Nat → Int) : ∀ j : Nat, cS g j 0 = 1
  | 0 => rfl
  | _ + 1 => rfl
theorem cS_s (g : Nat → Int) (j k : Nat) : cS g (j + 1) (k + 1) = cS g j (k + 1) + g (j + 1) * cS g (j + 1) k := rfl
/-- each is told by the lesser ones and the sums of products -/
def Cp (E c : Nat → Int) (m : Nat) : Prop := c 0 = 1 ∧ ∀ k, 1 ≤ k → k ≤ m → c k = aS (fun i => E i * c (k - i)) k
theorem cS_rel (g : Nat → Int) : ∀ (j n : Nat), cS g j (n + 1) = aS (fun i => eS g j i * cS g j (n + 1 - i)) (n + 1)
  | 0, n => by
    rw [aS_congr (h := fun _ => 0) fun i a b => by rw [eS_hi g 0 i (by omega), Int.zero_mul], aS_zero]
    rfl
  | j + 1, n => by
    obtain ⟨x, hx⟩ : ∃ x, x = g (j + 1) := ⟨_, rfl⟩
    have ih := cS_rel g j n
    have e1 : aS (fun i => eS g (j + 1) i * cS g (j + 1) (n + 1 - i)) (n + 1) = aS (fun i => eS g j i * cS g (j + 1) (n + 1 - i)) (n + 1) + x * aS (fun i => eS g j (i - 1) * cS g (j + 1) (n + 1 - i)) (n + 1) := by
      rw [← aS_mul, ← aS_add]
      refine aS_congr fun i a b => ?_
      obtain ⟨t, rfl⟩ : ∃ t, i = t + 1 := ⟨i - 1, by omega⟩
      show (eS g j (t + 1) + g (j + 1) * eS g j t) * _ = _
      rw [← hx, Nat.add_sub_cancel]
      grind
    have e2 : aS (fun i => eS g j (i - 1) * cS g (j + 1) (n + 1 - i)) (n + 1) = cS g (j + 1) n - aS (fun i => eS g j i * cS g (j + 1) (n - i)) n := by
      rw [aS_head]
      have h1 : eS g j (1 - 1) * cS g (j + 1) (n + 1 - 1) = cS g (j + 1) n := by
        rw [Nat.sub_self, eS_z, Nat.add_sub_cancel, Int.one_mul]
      rw [h1]
      congr 1
      refine aS_congr fun i a b => ?_
      rw [Nat.add_sub_cancel, show n + 1 - (i + 1) = n - i by omega]
    have e3 : aS (fun i => eS g j i * cS g (j + 1) (n + 1 - i)) (n + 1) = aS (fun i => eS g j i * cS g j (n + 1 - i)) (n + 1) + x * aS (fun i => eS g j i * cS g (j + 1) (n - i)) n := by
      rw [aS_s, aS_s, Nat.sub_self, cS_z, cS_z, ← aS_mul]
      have : aS (fun i => eS g j i * cS g (j + 1) (n + 1 - i)) n = aS (fun i => eS g j i * cS g j (n + 1 - i) + x * (eS g j i * cS g (j + 1) (n - i))) n := by
        refine aS_congr fun i a b => ?_
        obtain ⟨t, ht⟩ : ∃ t, n + 1 - i = t + 1 := ⟨n - i, by omega⟩
        rw [ht, show n - i = t by omega, cS_s, ← hx]
        grind
      rw [this, aS_add]
      grind
    rw [e1, e2, e3, cS_s, ← ih, ← hx]
    grind
theorem cS_cp (g : Nat → Int) (j m : Nat) : Cp (eS g j) (cS g j) m := ⟨cS_z g j, fun k a _ => by
  obtain ⟨n, rfl⟩ : ∃ n, k = n + 1 := ⟨k - 1, by omega⟩
  exact cS_rel g j n⟩
theorem cp_congr {E E' c : Nat → Int} {m : Nat} (h : ∀ i, 1 ≤ i → i ≤ m → E i = E' i) (hc : Cp E c m) : Cp E' c m := ⟨hc.1, fun k a b => by
  rw [hc.2 k a b]
  exact aS_congr fun i x y => by rw [h i x (by omega)]⟩
theorem cp_bd {E c : Nat → Int} {B m : Nat} (hE : ∀ i, 1 ≤ i → i ≤ m → (E i).natAbs ≤ B) (h : Cp E c m) : ∀ k, k ≤ m → (c k).natAbs ≤ (B + 1) ^ k := by
  intro k
  induction k using Nat.strongRecOn with
  | _ k ih =>
    intro hk
    by_cases z : k = 0
    · rw [z, h.1]
      exact Nat.le_refl _
    · rw [h.2 k (by omega) hk]
      have b := aS_bd (g := fun i => E i * c (k - i)) (B := B) (K := 1) (n := k) k (Nat.le_refl _) fun i a b => by
        have x := ih (k - i) (by omega) (by omega)
        have y := hE i a (by omega)
        rw [Int.natAbs_mul, Nat.one_mul]
        exact Nat.mul_le_mul y x
      rw [Nat.one_mul, Nat.one_mul] at b
      omega
def cL (E : Nat → Int) : Nat → List Int
  | 0 => [1]
  | n + 1 => cL E n ++ [aS (fun i => E i * (cL E n).getD (n + 1 - i) 0) (n + 1)]
theorem cL_len (E : Nat → Int) : ∀ n, (cL E n).length = n + 1
  | 0 => rfl
  | n + 1 => by rw [cL, List.length_append, cL_len E n]; rfl
theorem cL_lo (E : Nat → Int) {k : Nat} : ∀ {n : Nat}, k ≤ n → (cL E n).getD k 0 = (cL E k).getD k 0
  | 0, h => by rw [show k = 0 by omega]
  | n + 1, h => by
    by_cases z : k = n + 1
    · rw [z]
    · rw [← cL_lo E (n := n) (by omega), cL, List.getD_eq_getElem?_getD, List.getD_eq_getElem?_getD, List.getElem?_append_left (by rw [cL_len]; omega)]
theorem cp_ex (E : Nat → Int) (m : Nat) : ∃ c, Cp E c m := by
  refine ⟨fun k => (cL E k).getD k 0, rfl, fun k a b => ?_⟩
  obtain ⟨n, rfl⟩ : ∃ n, k = n + 1 := ⟨k - 1, by omega⟩
  have e : (cL E (n + 1)).getD (n + 1) 0 = aS (fun i => E i * (cL E n).getD (n + 1 - i) 0) (n + 1) := by
    rw [cL, List.getD_eq_getElem?_getD, List.getElem?_append_right (by rw [cL_len]; omega), cL_len, Nat.sub_self]
    rfl
  show (cL E (n + 1)).getD (n + 1) 0 = _
  rw [e]
  refine aS_congr fun i x y => ?_
  rw [cL_lo E (k := n + 1 - i) (n := n) (by omega)]
theorem cS_bd {g : Nat → Int} (h : ∀ k, (g k).natAbs < 2 ^ 20) : ∀ (j k : Nat), (cS g j k).natAbs < 2 ^ (21 * (j + k) + 1)
  | 0, k => by
    show (if k = 0 then (1 : Int) else 0).natAbs < _
    by_cases z : k = 0
    · rw [if_pos z]
      exact Nat.one_lt_two_pow (by omega)
    · rw [if_neg z]
      exact Nat.two_pow_pos _
  | j + 1, 0 => by
    rw [cS_z]
    exact Nat.one_lt_two_pow (by omega)
  | j + 1, k + 1 => by
    have a := cS_bd h j (k + 1)
    have b := cS_bd h (j + 1) k
    have c := h (j + 1)
    rw [cS_s]
    have m : (g (j + 1) * cS g (j + 1) k).natAbs ≤ (2 ^ 20 - 1) * 2 ^ (21 * (j + 1 + k) + 1) := by
      rw [Int.natAbs_mul]
      exact Nat.mul_le_mul (by omega) (by omega)
    have p : 2 ^ (21 * (j + 1 + (k + 1)) + 1) = 2 ^ 21 * 2 ^ (21 * (j + 1 + k) + 1) := by rw [← Nat.pow_add]; congr 1; omega
    rw [show j + (k + 1) = j + 1 + k by omega] at a
    rw [p]
    omega
/-- the same by a bound -/
theorem eS_bdB {g : Nat → Int} {B : Nat} (h : ∀ k, (g k).natAbs ≤ B) : ∀ (j k : Nat), (eS g j k).natAbs ≤ (B + 1) ^ j
  | 0, k => by
    unfold eS
    split <;> simp
  | j + 1, 0 => by rw [eS_z]; exact Nat.one_le_pow _ _ (by omega)
  | j + 1, k + 1 => by
    have a := eS_bdB h j (k + 1)
    have b := eS_bdB h j k
    have c := h (j + 1)
    show (eS g j (k + 1) + g (j + 1) * eS g j k).natAbs ≤ _
    have m : (g (j + 1) * eS g j k).natAbs ≤ B * (B + 1) ^ j := by
      rw [Int.natAbs_mul]
      exact Nat.mul_le_mul c b
    rw [Nat.pow_succ, Nat.mul_comm, Nat.succ_mul]
    omega
theorem cS_bdB {g : Nat → Int} {B : Nat} (h : ∀ k, (g k).natAbs ≤ B) : ∀ (j k : Nat), (cS g j k).natAbs ≤ (B + 1) ^ (j + k)
  | 0, k => by
    have : 1 ≤ (B + 1) ^ (0 + k) := Nat.one_le_pow _ _ (by omega)
    show (if k = 0 then (1 : Int) else 0).natAbs ≤ _
    by_cases z : k = 0
    · rw [if_pos z]
      exact this
    · rw [if_neg z]
      exact Nat.zero_le _
  | j + 1, 0 => by rw [cS_z]; exact Nat.one_le_pow _ _ (by omega)
  | j + 1, k + 1 => by
    have a := cS_bdB h j (k + 1)
    have b := cS_bdB h (j + 1) k
    have c := h (j + 1)
    rw [cS_s]
    have m : (g (j + 1) * cS g (j + 1) k).natAbs ≤ B * (B + 1) ^ (j + 1 + k) := by
      rw [Int.natAbs_mul]
      exact Nat.mul_le_mul c b
    rw [show j + (k + 1) = j + 1 + k by omega] at a
    rw [show j + 1 + (k + 1) = j + 1 + k + 1 by omega, Nat.pow_succ, Nat.mul_comm, Nat.succ_mul]
    omega
/-! rows that are written in -/
theorem fl0_congr {f g : Nat → Int} {m : Nat} (h : ∀ k, k ≤ m → f k = g k) : fl0 f m = fl0 g m := by
  unfold fl0
  refine List.map_congr_left fun i hi => h i ?_
  have := List.mem_range.mp hi
  omega
theorem fl0_set {f : Nat → Int} {m j : Nat} (hj : j ≤ m) (v : Int) : ((fl0 f m).map D.int).set j (.int v) = (fl0 (fun k => if k = j then v else f k) m).map D.int := by
  refine List.ext_getElem? fun i => ?_
  rw [List.getElem?_set, List.getElem?_map, List.getElem?_map]
  by_cases z : i ≤ m
  · rw [fl0_get z, fl0_get z]
    by_cases y : j = i
    · subst y
      rw [if_pos rfl, if_pos (by rw [List.length_map, fl0_len]; omega)]
      simp
    · rw [if_neg y]
      show _ = some (D.int (if i = j then v else f i))
      rw [if_neg fun q => y q.symm]
      rfl
  · have l : ∀ h : Nat → Int, (fl0 h m)[i]? = none := fun h => List.getElem?_eq_none (by rw [fl0_len]; omega)
    rw [l, l]
    by_cases y : j = i
    · omega
    · rw [if_neg y]
theorem fl0_one (g : Nat → Int) (m : Nat) (h0 : g 0 = 1) (h : ∀ k, 1 ≤ k → g k = 0) : D.int 1 :: List.replicate m (D.int 0) = (fl0 g m).map D.int := by
  refine List.ext_getElem? fun i => ?_
  rw [List.getElem?_map]
  cases i with
  | zero => rw [fl0_get (by omega), h0]; rfl
  | succ i =>
    rw [List.getElem?_cons_succ, List.getElem?_replicate]
    by_cases z : i < m
    · rw [if_pos z, fl0_get (by omega), h _ (by omega)]
      rfl
    · rw [if_neg z, List.getElem?_eq_none (by rw [fl0_len]; omega)]
      rfl
theorem fl0_mem {f : Nat → Int} {m : Nat} {x : Int} (h : x ∈ fl0 f m) : ∃ i, i ≤ m ∧ x = f i := by
  obtain ⟨i, hi, rfl⟩ := List.mem_map.mp h
  exact ⟨i, by have := List.mem_range.mp hi; omega, rfl⟩
theorem lf_get {ns : List Int} {j : Nat} {x : D} (hj : j < ns.length) (hx : (ns.map D.int)[j]? = some x) : x = .int (lf ns (j + 1)) := by
  rw [List.getElem?_map, List.getElem?_eq_getElem hj] at hx
  unfold lf
  rw [List.getD_eq_getElem?_getD, show j + 1 - 1 = j by omega, List.getElem?_eq_getElem hj]
  exact (Option.some.inj hx).symm
/-- the turned signs -/
def ng (k : Nat) : Int := if k % 2 = 0 then 1 else -1
theorem ng_s (k : Nat) : ng (k + 1) = -ng k := by
  unfold ng
  split <;> split <;> omega
theorem ng_abs (k : Nat) (x : Int) : (ng k * x).natAbs = x.natAbs := by
  unfold ng
  split <;> omega
/-- the terms of the product of all x less a -/
def rS (g : Nat → Int) (j a : Nat) : Int := ng (j - a) * eS g j (j - a)
theorem fl0_cons (a : Int) (f : Nat → Int) (j : Nat) : D.int a :: (fl0 f j).map D.int = (fl0 (fun k => if k = 0 then a else f (k - 1)) (j + 1)).map D.int := by
  unfold fl0
  rw [List.range_succ_eq_map (n := j + 1)]
  simp [List.map_map, Function.comp_def]
theorem fl0_rev (f : Nat → Int) (n : Nat) : (fl0 f n).reverse = fl0 (fun k => f (n - k)) n := by
  refine List.ext_getElem? fun i => ?_
  by_cases z : i ≤ n
  · rw [List.getElem?_reverse (by rw [fl0_len]; omega), fl0_len, fl0_get z, fl0_get (by omega)]
    rw [show n + 1 - 1 - i = n - i by omega]
  · rw [List.getElem?_eq_none (by rw [List.length_reverse, fl0_len]; omega), List.getElem?_eq_none (by rw [fl0_len]; omega)]
theorem lf_fl0 {g : Nat → Int} {n i : Nat} (hi : 1 ≤ i) : lf (fl (eS g n) n) i = eS g n i := by
  by_cases z : i ≤ n
  · exact lf_fl hi z
  · unfold lf
    rw [List.getD_eq_getElem?_getD, List.getElem?_eq_none (by rw [fl_len]; omega), eS_hi g n i (by omega)]
    rfl
@[simp] theorem eqv_int2 {a b : Int} : D.eqv (.int a) (.int b) = decide (a = b) := by
  unfold D.eqv D.py
  simp [PyData.eqv]
  rw [Bool.eq_iff_iff]
  simp
/-! sums of powers tell a row -/
def qs (ns : List Int) (k : Nat) : Int := (ns.map fun n => n ^ k).sum
theorem nt_uniq {E F s : Nat → Int} {n : Nat} (e0 : E 0 = F 0) (hE : ∀ k, 1 ≤ k → k ≤ n → Nt E s k) (hF : ∀ k, 1 ≤ k → k ≤ n → Nt F s k) : ∀ k, k ≤ n → E k = F k := by
  intro k
  induction k using Nat.strongRecOn with
  | _ k ih =>
    intro hk
    by_cases z : k = 0
    · rw [z, e0]
    · have a := hE k (by omega) hk
      have b := hF k (by omega) hk
      unfold Nt at a b
      have c : aS (fun i => E (k - i) * s i) k = aS (fun i => F (k - i) * s i) k := aS_congr fun i x y => by rw [ih (k - i) (by omega) (by omega)]
      have d : (k : Int) * E k = (k : Int) * F k := by rw [← a, ← b, c]
      exact Int.eq_of_mul_eq_mul_left (by omega) d
/-- the product of all x less g -/
def pX (g : Nat → Int) (x : Int) : Nat → Int
  | 0 => 1
  | j + 1 => (x - g (j + 1)) * pX g x j
theorem pX_zero {g : Nat → Int} {x : Int} : ∀ {j : Nat}, pX g x j = 0 → ∃ i, 1 ≤ i ∧ i ≤ j ∧ g i = x
  | 0, h => absurd h (by show (1 : Int) ≠ 0; decide)
  | j + 1, h => by
    have h : (x - g (j + 1)) * pX g x j = 0 := h
    rcases Int.mul_eq_zero.mp h with q | q
    · exact ⟨j + 1, by omega, Nat.le_refl _, by omega⟩
    · obtain ⟨i, a, b, c⟩ := pX_zero q
      exact ⟨i, a, by omega, c⟩
theorem pX_hit {g : Nat → Int} {x : Int} {i : Nat} (a : 1 ≤ i) (c : g i = x) : ∀ {j : Nat}, i ≤ j → pX g x j = 0
  | 0, h => by omega
  | j + 1, h => by
    show (x - g (j + 1)) * pX g x j = 0
    by_cases z : i = j + 1
    · rw [← z, c, Int.sub_self, Int.zero_mul]
    · rw [pX_hit a c (j := j) (by omega), Int.mul_zero]
def tS (f : Nat → Int) (x : Int) : Nat → Int
  | 0 => f 0
  | n + 1 => x * tS f x n + f (n + 1)
theorem tS_congr {f h : Nat → Int} {x : Int} : ∀ {n : Nat}, (∀ k, k ≤ n → f k = h k) → tS f x n = tS h x n
  | 0, e => e 0 (Nat.le_refl _)
  | n + 1, e => by
    show x * tS f x n + f (n + 1) = x * tS h x n + h (n + 1)
    rw [tS_congr (n := n) fun k hk => e k (by omega), e (n + 1) (Nat.le_refl _)]
theorem tS_step {f h : Nat → Int} {a x : Int} (h0 : h 0 = f 0) (hs : ∀ k, h (k + 1) = f (k + 1) - a * f k) : ∀ n, tS h x (n + 1) = tS f x (n + 1) - a * tS f x n
  | 0 => by
    show x * h 0 + h 1 = x * f 0 + f 1 - a * f 0
    have q := hs 0
    rw [h0]
    rw [Nat.zero_add] at q
    rw [q]
    omega
  | n + 1 => by
    have ih := tS_step h0 hs (x := x) n
    show x * tS h x (n + 1) + h (n + 1 + 1) = x * tS f x (n + 1) + f (n + 1 + 1) - a * (x * tS f x n + f (n + 1))
    rw [ih, hs]
    grind
theorem pX_eq (g : Nat → Int) (x : Int) : ∀ j : Nat, pX g x j = tS (fun k => -sg k * eS g j k) x j
  | 0 => by
    show (1 : Int) = -sg 0 * eS g 0 0
    rfl
  | j + 1 => by
    rw [tS_step (f := fun k => -sg k * eS g j k) (h := fun k => -sg k * eS g (j + 1) k) (a := g (j + 1)) (x := x) (by show -sg 0 * eS g (j + 1) 0 = -sg 0 * eS g j 0; rw [eS_z, eS_z]) (fun k => by
      show -sg (k + 1) * (eS g j (k + 1) + g (j + 1) * eS g j k) = -sg (k + 1) * eS g j (k + 1) - g (j + 1) * (-sg k * eS g j k)
      rw [sg_succ]
      grind) j]
    show (x - g (j + 1)) * pX g x j = x * tS (fun k => -sg k * eS g j k) x j + -sg (j + 1) * eS g j (j + 1) - g (j + 1) * tS (fun k => -sg k * eS g j k) x j
    rw [eS_hi g j (j + 1) (by omega), pX_eq g x j]
    grind
theorem lf_mem {ns : List Int} {i : Nat} (a : 1 ≤ i) (b : i ≤ ns.length) : lf ns i ∈ ns := by
  unfold lf
  rw [List.getD_eq_getElem?_getD, List.getElem?_eq_getElem (show i - 1 < ns.length by omega)]
  exact List.getElem_mem _
theorem qs_same {ns ms : List Int} (h : ns.Perm ms) (k : Nat) : qs ns k = qs ms k := by
  unfold qs
  induction h with
  | nil => rfl
  | cons x h ih => rw [List.map_cons, List.map_cons, List.sum_cons, List.sum_cons, ih]
  | swap x y l =>
    simp only [List.map_cons, List.sum_cons]
    omega
  | trans h1 h2 a b => rw [a, b]
theorem qs_cons (a : Int) (ns : List Int) (k : Nat) : qs (a :: ns) k = a ^ k + qs ns k := by
  unfold qs
  rw [List.map_cons, List.sum_cons]
theorem qs_perm : ∀ (n : Nat) (ns ms : List Int), ns.length = n → ms.length = n → (∀ k, 1 ≤ k → k ≤ n → qs ns k = qs ms k) → ns.Perm ms
  | 0, ns, ms, h1, h2, _ => by
    rw [List.length_eq_zero_iff.mp h1, List.length_eq_zero_iff.mp h2]
  | n + 1, ns, ms, h1, h2, h => by
    cases ns with
    | nil => simp at h1
    | cons a as =>
      have p1 : ∀ k, pS (lf (a :: as)) (n + 1) k = qs (a :: as) k := fun k => by
        rw [← h1]
        exact (psum_pS (a :: as) k).symm
      have p2 : ∀ k, pS (lf ms) (n + 1) k = qs ms k := fun k => by
        rw [← h2]
        exact (psum_pS ms k).symm
      have ee : ∀ k, k ≤ n + 1 → eS (lf (a :: as)) (n + 1) k = eS (lf ms) (n + 1) k := nt_uniq (s := pS (lf (a :: as)) (n + 1)) (by rw [eS_z, eS_z]) (fun k _ _ => newton _ _ k) (fun k _ y => by
        have q := newton (lf ms) (n + 1) k
        unfold Nt at q ⊢
        rw [← q]
        exact aS_congr fun i x z => by rw [p1, p2, h i x (by omega)])
      have z1 : pX (lf (a :: as)) a (n + 1) = 0 := pX_hit (i := 1) (Nat.le_refl _) rfl (by omega)
      have z2 : pX (lf ms) a (n + 1) = 0 := by
        rw [← z1, pX_eq, pX_eq]
        exact tS_congr fun k hk => by rw [ee k hk]
      obtain ⟨i, i1, i2, e⟩ := pX_zero z2
      have hm : a ∈ ms := by
        rw [← e]
        exact lf_mem i1 (by omega)
      have pm := List.perm_cons_erase hm
      have le : (ms.erase a).length = n := by
        have := pm.length_eq
        rw [List.length_cons] at this
        omega
      have ih := qs_perm n as (ms.erase a) (by simpa using h1) le fun k x y => by
        have q := h k x (by omega)
        rw [qs_same pm k, qs_cons, qs_cons] at q
        omega
      exact (ih.cons a).trans pm.symm
theorem fst_ex {ns ms : List Int} (hl : ns.length = ms.length) (hne : ¬ ns.Perm ms) : ∃ p, 1 ≤ p ∧ p ≤ ns.length ∧ qs ns p ≠ qs ms p ∧ ∀ j, 1 ≤ j → j < p → qs ns j = qs ms j := by
  have key : ∀ n, (∀ k, 1 ≤ k → k ≤ n → qs ns k = qs ms k) ∨ ∃ p, 1 ≤ p ∧ p ≤ n ∧ qs ns p ≠ qs ms p ∧ ∀ j, 1 ≤ j → j < p → qs ns j = qs ms j := by
    intro n
    induction n with
    | zero => exact .inl fun k a b => by omega
    | succ n ih =>
      rcases ih with ih | ⟨p, a, b, c, d⟩
      · by_cases z : qs ns (n + 1) = qs ms (n + 1)
        · refine .inl fun k a b => ?_
          by_cases y : k = n + 1
          · rw [y, z]
          · exact ih k a (by omega)
        · exact .inr ⟨n + 1, by omega, Nat.le_refl _, z, fun j a b => ih j a (by omega)⟩
      · exact .inr ⟨p, a, by omega, c, d⟩
  rcases key ns.length with h | h
  · exact absurd (qs_perm _ ns ms rfl hl.symm h) hne
  · exact h
theorem isort_iff {ns ms : List Int} : isort ns = isort ms ↔ ns.Perm ms := by
  constructor
  · intro h
    exact (isort_perm ns).symm.trans (h ▸ isort_perm ms)
  · intro h
    exact isort_one ((isort_perm ns).trans h) (isort_pair ns)
def evL : List Int → Int → Int
  | [], _ => 0
  | c :: cs, x => c + x * evL cs x
def adL : List Int → List Int → List Int
  | [], ys => ys
  | xs, [] => xs
  | x :: xs, y :: ys => (x + y) :: adL xs ys
theorem ev_ad : ∀ (xs ys : List Int) (x : Int), evL (adL xs ys) x = evL xs x + evL ys x
  | [], ys, x => by rw [adL]; show _ = 0 + _; omega
  | a :: xs, [], x => by show evL (a :: xs) x = evL (a :: xs) x + 0; omega
  | a :: xs, b :: ys, x => by
    show a + b + x * evL (adL xs ys) x = a + x * evL xs x + (b + x * evL ys x)
    rw [ev_ad xs ys x]
    grind
/-! sums of a polynomial's values -/
def muL (h : Int) (l : List Int) : List Int := l.map fun c => h * c
theorem ev_mu (h x : Int) : ∀ l : List Int, evL (muL h l) x = h * evL l x
  | [] => by show (0 : Int) = h * 0; simp
  | c :: l => by
    show h * c + x * evL (muL h l) x = h * (c + x * evL l x)
    rw [ev_mu h x l]
    grind
/-- the terms of (x + h)^k -/
def pwL (h : Int) : Nat → List Int
  | 0 => [1]
  | k + 1 => adL (muL h (pwL h k)) (0 :: pwL h k)
theorem ev_pw (h x : Int) : ∀ k : Nat, evL (pwL h k) x = (x + h) ^ k
  | 0 => by show 1 + x * 0 = (x + h) ^ 0; simp
  | k + 1 => by
    rw [pwL, ev_ad, ev_mu, Int.pow_succ]
    show h * evL (pwL h k) x + (0 + x * evL (pwL h k) x) = _
    rw [ev_pw h x k]
    grind
theorem ad_len : ∀ xs ys : List Int, (adL xs ys).length = max xs.length ys.length
  | [], ys => by rw [adL]; simp
  | x :: xs, [] => by show (x :: xs).length = _; simp
  | x :: xs, y :: ys => by
    show (adL xs ys).length + 1 = _
    rw [ad_len xs ys]
    simp only [List.length_cons]
    omega
theorem pw_len (h : Int) : ∀ k, (pwL h k).length = k + 1
  | 0 => rfl
  | k + 1 => by
    rw [pwL, ad_len, List.length_cons]
    unfold muL
    rw [List.length_map, pw_len h k]
    omega
theorem ad_get : ∀ (xs ys : List Int) (i : Nat), (adL xs ys).getD i 0 = xs.getD i 0 + ys.getD i 0
  | [], ys, i => by rw [adL]; simp
  | x :: xs, [], i => by show (x :: xs).getD i 0 = _; simp
  | x :: xs, y :: ys, 0 => rfl
  | x :: xs, y :: ys, i + 1 => ad_get xs ys i
theorem mu_get (h : Int) : ∀ (l : List Int) (i : Nat), (muL h l).getD i 0 = h * l.getD i 0
  | [], i => by simp [muL]
  | c :: l, 0 => rfl
  | c :: l, i + 1 => mu_get h l i
theorem pw_hi (h : Int) {k i : Nat} (hi : k < i) : (pwL h k).getD i 0 = 0 := by
  rw [List.getD_eq_getElem?_getD, List.getElem?_eq_none (by rw [pw_len]; omega)]
  rfl
theorem pw_top (h : Int) : ∀ k, (pwL h k).getD k 0 = 1
  | 0 => rfl
  | k + 1 => by
    rw [pwL, ad_get, mu_get, pw_hi h (by omega)]
    show h * 0 + (pwL h k).getD k 0 = 1
    rw [pw_top h k]
    simp
theorem pw_sub (h : Int) : ∀ k, (pwL h (k + 1)).getD k 0 = ((k : Int) + 1) * h
  | 0 => by
    rw [pwL, ad_get, mu_get, pw_top]
    show h * 1 + 0 = _
    simp
  | k + 1 => by
    rw [pwL, ad_get, mu_get, pw_top]
    show h * 1 + (pwL h (k + 1)).getD k 0 = _
    rw [pw_sub h k]
    grind
/-- the sum of the values at a row -/
def sv (ns : List Int) (c : List Int) : Int := (ns.map fun x => evL c x).sum
def co (ns : List Int) : Nat → List Int → Int
  | _, [] => 0
  | i, c :: l => c * qs ns i + co ns (i + 1) l
theorem co_zero (i : Nat) : ∀ l : List Int, co [] i l = 0
  | [] => rfl
  | c :: l => by
    show c * qs [] i + co [] (i + 1) l = 0
    rw [co_zero (i + 1) l]
    show c * 0 + 0 = 0
    simp
theorem co_cons (x : Int) (ns : List Int) : ∀ (l : List Int) (i : Nat), co (x :: ns) i l = x ^ i * evL l x + co ns i l
  | [], i => by show (0 : Int) = x ^ i * 0 + 0; simp
  | c :: l, i => by
    show c * qs (x :: ns) i + co (x :: ns) (i + 1) l = x ^ i * (c + x * evL l x) + (c * qs ns i + co ns (i + 1) l)
    rw [co_cons x ns l (i + 1), qs_cons, Int.pow_succ]
    grind
theorem sv_co (c : List Int) : ∀ ns : List Int, sv ns c = co ns 0 c
  | [] => (co_zero 0 c).symm
  | x :: ns => by
    rw [co_cons]
    show evL c x + sv ns c = _
    rw [sv_co c ns]
    simp
def df (ns ms : List Int) (k : Nat) : Int := qs ns k - qs ms k
theorem co_df (ns ms : List Int) {p : Nat} (h : ∀ i, i < p → df ns ms i = 0) : ∀ (l : List Int) (i : Nat), i + l.length = p + 1 → i ≤ p → co ns i l - co ms i l = l.getD (p - i) 0 * df ns ms p
  | [], i, e, hi => by simp at e; omega
  | c :: l, i, e, hi => by
    show c * qs ns i + co ns (i + 1) l - (c * qs ms i + co ms (i + 1) l) = _
    have e2 : i + 1 + l.length = p + 1 := by simp at e; omega
    by_cases z : i = p
    · have : l = [] := List.length_eq_zero_iff.mp (by omega)
      subst this
      rw [z, Nat.sub_self]
      show c * qs ns p + 0 - (c * qs ms p + 0) = c * (qs ns p - qs ms p)
      grind
    · have ih := co_df ns ms h l (i + 1) e2 (by omega)
      have d := h i (by omega)
      unfold df at d
      rw [show p - i = p - (i + 1) + 1 by omega]
      show _ = l.getD (p - (i + 1)) 0 * df ns ms p
      rw [← ih, show qs ns i = qs ms i by omega]
      omega
/-- how a sum of values parts two rows -/
theorem sv_df {ns ms : List Int} {p : Nat} (h : ∀ i, i < p → df ns ms i = 0) {c : List Int} (hc : c.length = p + 1) : sv ns c - sv ms c = c.getD p 0 * df ns ms p := by
  rw [sv_co, sv_co]
  exact co_df ns ms h c 0 (by omega) (Nat.zero_le _)
def adds (h : Int) (ns : List Int) : List Int := ns.map fun x => x + h
theorem qs_adds (h : Int) (ns : List Int) (k : Nat) : qs (adds h ns) k = sv ns (pwL h k) := by
  unfold qs adds sv
  rw [List.map_map]
  congr 1
  exact List.map_congr_left fun x _ => (ev_pw h x k).symm
theorem df_adds {ns ms : List Int} {p : Nat} (h : ∀ i, i < p → df ns ms i = 0) (a : Int) : df (adds a ns) (adds a ms) p = df ns ms p := by
  have := sv_df h (pw_len a p)
  rw [pw_top, Int.one_mul, ← qs_adds, ← qs_adds] at this
  exact this
def muls (c : Int) (ns : List Int) : List Int := ns.map fun x => x * c
theorem mul_pw (x c : Int) : ∀ k : Nat, (x * c) ^ k = c ^ k * x ^ k
  | 0 => by simp
  | k + 1 => by
    rw [Int.pow_succ, mul_pw x c k, Int.pow_succ, Int.pow_succ]
    grind
theorem qs_muls (c : Int) (k : Nat) : ∀ ns : List Int, qs (muls c ns) k = c ^ k * qs ns k
  | [] => by show (0 : Int) = c ^ k * 0; simp
  | x :: ns => by
    show qs (x * c :: muls c ns) k = _
    rw [qs_cons, qs_cons, qs_muls c k ns, mul_pw]
    grind
theorem qs_app (k : Nat) : ∀ ns ms : List Int, qs (ns ++ ms) k = qs ns k + qs ms k
  | [], ms => by show qs ms k = 0 + qs ms k; omega
  | x :: ns, ms => by
    show qs (x :: (ns ++ ms)) k = _
    rw [qs_cons, qs_cons, qs_app k ns ms]
    omega
/-- the first power that parts two rows of as many -/
structure Fq (ns ms : List Int) (p : Nat) : Prop where
  l : ns.length = ms.length
  p1 : 1 ≤ p
  un : df ns ms p ≠ 0
  lo : ∀ j, j < p → df ns ms j = 0
theorem qs_0 (ns : List Int) : qs ns 0 = ns.length := by
  induction ns with
  | nil => rfl
  | cons x ns ih => rw [qs_cons, ih, List.length_cons]; simp; omega
theorem fq_ex {ns ms : List Int} (hl : ns.length = ms.length) (h : ¬ ns.Perm ms) : ∃ p, p ≤ ns.length ∧ Fq ns ms p := by
  obtain ⟨p, a, b, c, d⟩ := fst_ex hl h
  refine ⟨p, b, hl, a, fun z => c (by unfold df at z; omega), fun j hj => ?_⟩
  unfold df
  by_cases z : j = 0
  · rw [z, qs_0, qs_0, hl]
    omega
  · have := d j (by omega) hj
    omega
theorem Fq.not_perm {ns ms : List Int} {p : Nat} (h : Fq ns ms p) : ¬ ns.Perm ms := fun q => h.un (by
  unfold df
  rw [qs_same q p]
  omega)
theorem Fq.of_df {ns ms ns' ms' : List Int} {p : Nat} (h : Fq ns ms p) (hl : ns'.length = ms'.length) (e : ∀ k, (∀ i, i < k → df ns ms i = 0) → ∃ c, c ≠ 0 ∧ df ns' ms' k = c * df ns ms k) : Fq ns' ms' p := by
  refine ⟨hl, h.p1, ?_, fun j hj => ?_⟩
  · obtain ⟨c, c0, q⟩ := e p h.lo
    rw [q]
    exact Int.mul_ne_zero c0 h.un
  · obtain ⟨c, _, q⟩ := e j fun i hi => h.lo i (by omega)
    rw [q, h.lo j hj, Int.mul_zero]
theorem Fq.perm {ns ms ns' ms' : List Int} {p : Nat} (h : Fq ns ms p) (a : ns'.Perm ns) (b : ms'.Perm ms) : Fq ns' ms' p := h.of_df (by rw [a.length_eq, b.length_eq, h.l]) fun k _ => ⟨1, by decide, by
  unfold df
  rw [qs_same a, qs_same b, Int.one_mul]⟩
theorem Fq.adds {ns ms : List Int} {p : Nat} (h : Fq ns ms p) (a : Int) : Fq (adds a ns) (adds a ms) p := h.of_df (by unfold Lk.adds; rw [List.length_map, List.length_map, h.l]) fun k hk => ⟨1, by decide, by rw [df_adds hk, Int.one_mul]⟩
theorem Fq.muls {ns ms : List Int} {p : Nat} (h : Fq ns ms p) {c : Int} (c0 : c ≠ 0) : Fq (muls c ns) (muls c ms) p := h.of_df (by unfold Lk.muls; rw [List.length_map, List.length_map, h.l]) fun k _ => ⟨c ^ k, Int.pow_ne_zero c0, by
  unfold df
  rw [qs_muls, qs_muls]
  grind⟩
theorem Fq.app {ns ms : List Int} {p : Nat} (h : Fq ns ms p) (s : List Int) : Fq (ns ++ s) (ms ++ s) p := h.of_df (by rw [List.length_append, List.length_append, h.l]) fun k _ => ⟨1, by decide, by
  unfold df
  rw [qs_app, qs_app]
  omega⟩
theorem Fq.cut {ns ms s : List Int} {p : Nat} (h : Fq (ns ++ s) (ms ++ s) p) : Fq ns ms p := h.of_df (by have := h.l; rw [List.length_append, List.length_append] at this; omega) fun k _ => ⟨1, by decide, by
  unfold df
  rw [qs_app, qs_app]
  omega⟩
theorem Fq.symm {ns ms : List Int} {p : Nat} (h : Fq ns ms p) : Fq ms ns p := h.of_df h.l.symm fun k _ => ⟨-1, by decide, by
  unfold df
  omega⟩
theorem Fq.grown {ns ms : List Int} {p : Nat} (h : Fq ns ms p) {a : Int} (a0 : a ≠ 0) : Fq (ns ++ Lk.adds a ms) (ms ++ Lk.adds a ns) (p + 1) := by
  have key : ∀ k, df (ns ++ Lk.adds a ms) (ms ++ Lk.adds a ns) k = df ns ms k - df (Lk.adds a ns) (Lk.adds a ms) k := fun k => by
    unfold df
    rw [qs_app, qs_app]
    omega
  have len : (ns ++ Lk.adds a ms).length = (ms ++ Lk.adds a ns).length := by
    unfold Lk.adds
    rw [List.length_append, List.length_append, List.length_map, List.length_map, h.l]
  refine ⟨len, by omega, ?_, fun j hj => ?_⟩
  · have e := co_df ns ms (p := p) h.lo
    have s1 := sv_co (pwL a (p + 1)) ns
    have s2 := sv_co (pwL a (p + 1)) ms
    obtain ⟨l, c, hlc, hl⟩ : ∃ (l : List Int) (c : Int), pwL a (p + 1) = l ++ [c] ∧ l.length = p + 1 := by
      have n : pwL a (p + 1) ≠ [] := fun z => by
        have := pw_len a (p + 1)
        rw [z] at this
        simp at this
      refine ⟨_, _, (List.dropLast_concat_getLast n).symm, ?_⟩
      rw [List.length_dropLast, pw_len]
      rfl
    have cv : c = 1 := by
      have := pw_top a (p + 1)
      rw [hlc, List.getD_eq_getElem?_getD, List.getElem?_append_right (by omega), hl, Nat.sub_self] at this
      exact this
    have lv : l.getD p 0 = ((p : Int) + 1) * a := by
      have := pw_sub a p
      rw [hlc, List.getD_eq_getElem?_getD, List.getElem?_append_left (by omega)] at this
      rw [List.getD_eq_getElem?_getD]
      exact this
    have coa : ∀ (q : List Int) (i : Nat) (l : List Int) (c : Int), co q i (l ++ [c]) = co q i l + c * qs q (i + l.length) := by
      intro q i l c
      induction l generalizing i with
      | nil => show c * qs q i + 0 = 0 + c * qs q (i + 0); rw [Nat.add_zero]; omega
      | cons d l ih =>
        show d * qs q i + co q (i + 1) (l ++ [c]) = d * qs q i + co q (i + 1) l + c * qs q (i + (l.length + 1))
        rw [ih (i + 1), show i + 1 + l.length = i + (l.length + 1) by omega]
        omega
    have e2 := e l 0 (by omega) (Nat.zero_le _)
    rw [Nat.sub_zero, lv] at e2
    have d1 : df (Lk.adds a ns) (Lk.adds a ms) (p + 1) = ((p : Int) + 1) * a * df ns ms p + df ns ms (p + 1) := by
      show qs (Lk.adds a ns) (p + 1) - qs (Lk.adds a ms) (p + 1) = _ + (qs ns (p + 1) - qs ms (p + 1))
      rw [qs_adds, qs_adds, s1, s2, hlc, coa, coa, cv, hl, ← e2, Nat.zero_add]
      omega
    rw [key, d1]
    intro z
    have : ((p : Int) + 1) * a * df ns ms p = 0 := by omega
    exact Int.mul_ne_zero (Int.mul_ne_zero (by omega) a0) h.un this
  · rw [key]
    by_cases z : j = p
    · subst z
      rw [df_adds h.lo]
      omega
    · rw [df_adds fun i hi => h.lo i (by omega)]
      omega
/-! what both share, taken out -/
def lsF : List Int → List Int × List Int → List Int × List Int
  | [], p => p
  | x :: xs, p => if x ∈ p.2 then lsF xs (p.1.erase x, p.2.erase x) else lsF xs p
structure Ls (ns ms rest : List Int) (p : List Int × List Int) : Prop where
  ex : ∃ k s, p.1.Perm (k ++ rest) ∧ ms.Perm (p.2 ++ s) ∧ ns.Perm (k ++ (s ++ rest))
  s1 : p.1.Sublist ns
  s2 : p.2.Sublist ms
theorem Ls.step {ns ms xs : List Int} {x : Int} {p : List Int × List Int} (h : Ls ns ms (x :: xs) p) : (x ∈ p.2 → x ∈ p.1 ∧ Ls ns ms xs (p.1.erase x, p.2.erase x)) ∧ (x ∉ p.2 → Ls ns ms xs p) := by
  obtain ⟨⟨k, s, a, b, c⟩, s1, s2⟩ := h
  refine ⟨fun hx => ?_, fun hx => ⟨⟨k ++ [x], s, ?_, b, ?_⟩, s1, s2⟩⟩
  · have hm : x ∈ p.1 := a.mem_iff.mpr (by simp)
    refine ⟨hm, ⟨k, s ++ [x], ?_, ?_, ?_⟩, (List.erase_sublist ..).trans s1, (List.erase_sublist ..).trans s2⟩
    · have q := (List.perm_cons_erase hm).symm.trans a
      have q2 : (k ++ x :: xs).Perm (x :: (k ++ xs)) := List.perm_middle
      exact (q.trans q2).cons_inv
    · have q := List.perm_cons_erase hx
      refine b.trans ((q.append_right s).trans ?_)
      show (x :: (p.2.erase x ++ s)).Perm (p.2.erase x ++ (s ++ [x]))
      rw [← List.append_assoc]
      exact (List.perm_append_singleton x _).symm
    · refine c.trans (List.Perm.append_left k ?_)
      rw [List.append_assoc]
      exact List.Perm.append_left s (List.Perm.refl _)
  · refine a.trans ?_
    rw [List.append_assoc]
    exact List.Perm.refl _
  · refine c.trans ?_
    rw [List.append_assoc]
    refine List.Perm.append_left k ?_
    show (s ++ x :: xs).Perm (x :: (s ++ xs))
    exact List.perm_middle
theorem ls_end {ns ms : List Int} : ∀ (xs : List Int) (p : List Int × List Int), Ls ns ms xs p → Ls ns ms [] (lsF xs p)
  | [], p, h => h
  | x :: xs, p, h => by
    unfold lsF
    by_cases z : x ∈ p.2
    · rw [if_pos z]
      exact ls_end xs _ (h.step.1 z).2
    · rw [if_neg z]
      exact ls_end xs _ (h.step.2 z)
theorem ls_0 (ns ms : List Int) : Ls ns ms ns (ns, ms) := ⟨⟨[], [], List.Perm.refl _, by simp, by simp⟩, List.Sublist.refl _, List.Sublist.refl _⟩
/-- what is left, and what was shared -/
theorem ls_out (ns ms : List Int) : ∃ s, ns.Perm ((lsF ns (ns, ms)).1 ++ s) ∧ ms.Perm ((lsF ns (ns, ms)).2 ++ s) ∧ (lsF ns (ns, ms)).1.Sublist ns ∧ (lsF ns (ns, ms)).2.Sublist ms := by
  obtain ⟨⟨k, s, a, b, c⟩, s1, s2⟩ := ls_end ns (ns, ms) (ls_0 ns ms)
  rw [List.append_nil] at a c
  exact ⟨s, c.trans (a.symm.append_right s), b, s1, s2⟩
theorem enumD_ix (xs : List D) : enumD 0 xs = (List.range xs.length).map fun i : Nat => .tup [.int (i : Int), xs.getD i .non] := by
  refine List.ext_getElem? fun i => ?_
  rw [List.getElem?_map]
  by_cases h : i < xs.length
  · rw [List.getElem?_range h]
    have h2 : i < (enumD 0 xs).length := by rw [enumD_length]; exact h
    rw [List.getElem?_eq_getElem h2]
    obtain ⟨x, hx, e⟩ := enumD_get (List.getElem?_eq_getElem h2)
    rw [e]
    show some (D.tup [.int ((0 + i : Nat) : Int), x]) = some (D.tup [.int (i : Int), xs.getD i .non])
    rw [List.getD_eq_getElem?_getD, hx, Nat.zero_add]
    rfl
  · rw [List.getElem?_eq_none (by rw [enumD_length]; omega), List.getElem?_eq_none (by rw [List.length_range]; omega)]
    rfl
/-- the places at which M stands -/
theorem eS_bd {g : Nat → Int} (h : ∀ k, (g k).natAbs < 2 ^ 20) : ∀ (j k : Nat), (eS g j k).natAbs < 2 ^ (21 * j + 1)
  | 0, k => by
    unfold eS
    split <;> decide
  | j + 1, 0 => by rw [eS_z]; exact Nat.one_lt_two_pow (by omega)
  | j + 1, k + 1 => by
    have a := eS_bd h j (k + 1)
    have b := eS_bd h j k
    have c := h (j + 1)
    show (eS g j (k + 1) + g (j + 1) * eS g j k).natAbs < _
    have m : (g (j + 1) * eS g j k).natAbs ≤ (2 ^ 20 - 1) * 2 ^ (21 * j + 1) := by
      rw [Int.natAbs_mul]
      exact Nat.mul_le_mul (by omega) (by omega)
    have p : 2 ^ (21 * (j + 1) + 1) = 2 ^ 21 * 2 ^ (21 * j + 1) := by rw [← Nat.pow_add]; congr 1; omega
    rw [p]
    omega
theorem lc_enc {α : Type} {bd : MG} {me : ME} {ρ : Ev} {k : List D → Prop} (enc f : α → D) (as : List α) (hl : as.length ≤ sizeLine)
    (h : ∀ a ∈ as, ∀ (R : D → Prop), R (f a) → bd (enc a) ρ fun ρ2 => me ρ2 (fun d _ => R d) noX) (hk : k (as.map f)) : lcGo bd mYes me (as.map enc) [] ρ k := by
  refine lc_ind (fun ys acc => ∃ i, i ≤ as.length ∧ ys = (as.drop i).map enc ∧ acc = (as.take i).map f) (fun acc h => ?_) (fun x ys acc F h2 hF => ?_) _ [] ⟨0, Nat.zero_le _, rfl, rfl⟩
  · obtain ⟨i, hi, e, rfl⟩ := h
    have : i = as.length := by
      have := congrArg List.length e
      simp at this
      omega
    rw [this, List.take_length]
    exact hk
  · obtain ⟨i, hi, e, rfl⟩ := h2
    have il : i < as.length := by
      have := congrArg List.length e
      simp at this
      omega
    rw [List.drop_eq_getElem_cons il, List.map_cons] at e
    obtain ⟨rfl, rfl⟩ := List.cons.inj e
    have := h as[i] (List.getElem_mem il) (fun d => ((as.take i).map f).length < sizeLine ∧ F ((as.take i).map f ++ [d])) ⟨by rw [List.length_map, List.length_take]; omega, hF _ ⟨i + 1, il, rfl, by rw [List.take_succ_eq_append_getElem il, List.map_append]; rfl⟩⟩
    simpa [mYes] using this
theorem forL_enc {α : Type} {bd : MG} {body : MS} {P : Po} (enc : α → D) (as : List α) (I : Nat → Ev → Prop) (h0 : ∀ ρ, I as.length ρ → P.nx ρ)
    (h1 : ∀ i (hi : i < as.length) ρ (F : Ev → Prop), I i ρ → (∀ ρ', I (i + 1) ρ' → F ρ') → bd (enc as[i]) ρ fun ρ2 => body ρ2 { P with nx := F, ct := F, bk := P.nx }) (ρ : Ev) (hI : I 0 ρ) : forL bd body (as.map enc) ρ P := by
  refine forL_ix (as.map enc) I (fun ρ h => h0 ρ (by rwa [List.length_map] at h)) (fun i x ρ F hi hx hI hF => ?_) ρ hI
  rw [List.length_map] at hi
  rw [List.getElem?_map, List.getElem?_eq_getElem hi] at hx
  obtain rfl : enc as[i] = x := Option.some.inj hx
  exact h1 i hi ρ F hI hF
def enI (ns : List Int) (i : Nat) : D := .tup [.int (i : Int), .int (ns.getD i 0)]
theorem enum_ints (ns : List Int) : enumD 0 (ns.map D.int) = (List.range ns.length).map (enI ns) := by
  rw [enumD_ix, List.length_map]
  refine List.map_congr_left fun i hi => ?_
  have hi := List.mem_range.mp hi
  unfold enI
  rw [List.getD_eq_getElem?_getD, List.getD_eq_getElem?_getD, List.getElem?_map, List.getElem?_eq_getElem hi]
  rfl
def cutL : List Int → List Int
  | [] => []
  | [x] => [x]
  | x :: y :: r => if cutL (y :: r) = [0] then [x] else x :: cutL (y :: r)
theorem cut_cons (x : Int) {r : List Int} (h : r ≠ []) : cutL (x :: r) = if cutL r = [0] then [x] else x :: cutL r := by
  cases r with
  | nil => exact absurd rfl h
  | cons y r => rfl
theorem cut_0 : ∀ zs : List Int, zs ≠ [] → cutL (zs ++ [0]) = cutL zs
  | [], h => absurd rfl h
  | [x], _ => rfl
  | x :: y :: r, _ => by
    have := cut_0 (y :: r) (List.cons_ne_nil _ _)
    rw [List.cons_append, cut_cons x (by simp), this, cut_cons x (by simp)]
theorem cut_nz {z : Int} (hz : z ≠ 0) : ∀ zs : List Int, cutL (zs ++ [z]) = zs ++ [z]
  | [] => rfl
  | x :: r => by
    rw [List.cons_append, cut_cons x (by simp), cut_nz hz r, if_neg]
    intro e
    cases r with
    | nil => exact hz (by simpa using e)
    | cons y r => simp at e
theorem ev_cut (t : Int) : ∀ ns : List Int, evL (cutL ns) t = evL ns t
  | [] => rfl
  | [x] => rfl
  | x :: y :: r => by
    have := ev_cut t (y :: r)
    rw [cut_cons x (by simp)]
    by_cases z : cutL (y :: r) = [0]
    · rw [if_pos z]
      rw [z] at this
      have e : evL [0] t = 0 := by show 0 + t * 0 = 0; simp
      show x + t * 0 = x + t * evL (y :: r) t
      rw [← this, e]
    · rw [if_neg z]
      show x + t * evL (cutL (y :: r)) t = x + t * evL (y :: r) t
      rw [this]
theorem cut_sub : ∀ ns : List Int, (cutL ns).Sublist ns
  | [] => List.Sublist.refl _
  | [x] => List.Sublist.refl _
  | x :: y :: r => by
    rw [cut_cons x (by simp)]
    by_cases z : cutL (y :: r) = [0]
    · rw [if_pos z]
      simp
    · rw [if_neg z]
      exact (cut_sub (y :: r)).cons_cons x
theorem cut_ne {ns : List Int} (h : ns ≠ []) : cutL ns ≠ [] := by
  cases ns with
  | nil => exact absurd rfl h
  | cons x r => cases r with
    | nil => simp [cutL]
    | cons y r =>
      rw [cut_cons x (by simp)]
      split <;> simp
theorem cut_len (ns : List Int) : (cutL ns).length ≤ ns.length := (cut_sub ns).length_le
theorem cut_pos {ns : List Int} (h : 1 ≤ ns.length) : 1 ≤ (cutL ns).length := by
  have : cutL ns ≠ [] := cut_ne fun e => by rw [e] at h; simp at h
  exact Nat.pos_of_ne_zero fun e => this (List.length_eq_zero_iff.mp e)
/-- products -/
def mulL : List Int → List Int → List Int
  | [], _ => []
  | x :: xs, ys => adL (muL x ys) (0 :: mulL xs ys)
theorem ev_mul (ys : List Int) (t : Int) : ∀ xs : List Int, evL (mulL xs ys) t = evL xs t * evL ys t
  | [] => by show (0 : Int) = 0 * _; simp
  | x :: xs => by
    rw [mulL, ev_ad, ev_mu]
    show x * evL ys t + (0 + t * evL (mulL xs ys) t) = (x + t * evL xs t) * evL ys t
    rw [ev_mul ys t xs]
    grind
theorem mu_len (h : Int) (l : List Int) : (muL h l).length = l.length := List.length_map _
theorem mul_len {ys : List Int} (hy : 1 ≤ ys.length) : ∀ {xs : List Int}, 1 ≤ xs.length → (mulL xs ys).length + 1 = xs.length + ys.length
  | [], h => by simp at h
  | [x], _ => by
    show (adL (muL x ys) [0]).length + 1 = _
    rw [ad_len, mu_len]
    simp
    omega
  | x :: y :: xs, _ => by
    have := mul_len hy (xs := y :: xs) (by simp)
    rw [mulL, ad_len, mu_len, List.length_cons]
    simp only [List.length_cons] at this ⊢
    omega
theorem mul_snoc (ys : List Int) (x : Int) : ∀ (zs : List Int) (m : Nat), (mulL (zs ++ [x]) ys).getD m 0 = (mulL zs ys).getD m 0 + (if zs.length ≤ m then x * ys.getD (m - zs.length) 0 else 0)
  | [], m => by
    show (adL (muL x ys) [0]).getD m 0 = (([] : List Int).getD m 0) + _
    rw [ad_get, mu_get]
    cases m <;> simp
  | z :: zs, 0 => by
    show (adL (muL z ys) (0 :: mulL (zs ++ [x]) ys)).getD 0 0 = (adL (muL z ys) (0 :: mulL zs ys)).getD 0 0 + _
    rw [ad_get, ad_get]
    simp
  | z :: zs, m + 1 => by
    show (adL (muL z ys) (0 :: mulL (zs ++ [x]) ys)).getD (m + 1) 0 = (adL (muL z ys) (0 :: mulL zs ys)).getD (m + 1) 0 + _
    rw [ad_get, ad_get, List.getD_cons_succ, List.getD_cons_succ, mul_snoc ys x zs m, List.length_cons]
    by_cases h : zs.length ≤ m
    · rw [if_pos h, if_pos (by omega), show m + 1 - (zs.length + 1) = m - zs.length by omega]
      omega
    · rw [if_neg h, if_neg (by omega)]
      omega
theorem gd_out {l : List Int} {i : Nat} (h : l.length ≤ i) : l.getD i 0 = 0 := by
  rw [List.getD_eq_getElem?_getD, List.getElem?_eq_none h]
  rfl
theorem gd_in {l : List Int} {i : Nat} (h : i < l.length) : l.getD i 0 = l[i] := by
  rw [List.getD_eq_getElem?_getD, List.getElem?_eq_getElem h]
  rfl
theorem ad_comm : ∀ xs ys : List Int, adL xs ys = adL ys xs
  | [], [] => rfl
  | [], y :: ys => rfl
  | x :: xs, [] => rfl
  | x :: xs, y :: ys => by
    show (x + y) :: adL xs ys = (y + x) :: adL ys xs
    rw [ad_comm xs ys, Int.add_comm]
theorem rangeL_enc (n : Nat) : rangeL 0 n = (List.range n).map fun i : Nat => D.int (i : Int) := by
  rw [rangeL_ints, List.map_map]
  refine List.map_congr_left fun i _ => ?_
  show D.int (0 + (i : Int)) = _
  rw [Int.zero_add]
theorem getD_list {ns : List Int} {N : Nat} (h : ns.length = N) : (List.range N).map (fun m => ns.getD m 0) = ns := by
  subst h
  refine List.ext_getElem (by simp) fun i h1 h2 => ?_
  simp
  rw [List.getElem?_eq_getElem h2]
  rfl
theorem set_range (f : Nat → Int) {N j : Nat} (hj : j < N) (v : Int) : (((List.range N).map f).map D.int).set j (.int v) = ((List.range N).map fun m => if m = j then v else f m).map D.int := by
  rw [List.map_map, List.map_map]
  refine List.ext_getElem (by simp) fun i h1 h2 => ?_
  simp [List.getElem_set]
  by_cases z : j = i
  · subst z
    simp
  · simp [z]
    exact fun e => absurd e.symm z
theorem at_range (f : Nat → Int) {N j : Nat} (hj : j < N) : atI (((List.range N).map f).map D.int) (j : Int) = some (.int (f j)) := by
  rw [atI_nat, List.map_map, List.getElem?_map, List.getElem?_range hj]
  rfl
theorem rep_range (N : Nat) : List.replicate N (D.int 0) = ((List.range N).map fun _ => (0 : Int)).map D.int := by
  rw [List.map_map]
  refine List.ext_getElem (by simp) fun i h1 h2 => ?_
  simp
theorem cut_get : ∀ (ns : List Int) (i : Nat), (cutL ns).getD i 0 = ns.getD i 0
  | [], i => rfl
  | [x], i => rfl
  | x :: y :: r, i => by
    have h := cut_get (y :: r)
    rw [cut_cons x (by simp)]
    by_cases z : cutL (y :: r) = [0]
    · rw [if_pos z]
      cases i with
      | zero => rfl
      | succ i =>
        have h := h i
        rw [z] at h
        rw [List.getD_cons_succ, List.getD_cons_succ, ← h]
        cases i <;> rfl
    · rw [if_neg z]
      cases i with
      | zero => rfl
      | succ i => exact h i
theorem cut_zero : ∀ {g : List Int}, g ≠ [] → (∀ i, g.getD i 0 = 0) → cutL g = [0]
  | [], h, _ => absurd rfl h
  | [y], _, h => by have := h 0; simp at this; rw [this]; rfl
  | y :: z :: s, _, h => by
    have e := cut_zero (g := z :: s) (by simp) fun i => h (i + 1)
    have y0 := h 0
    simp at y0
    rw [cut_cons y (by simp), if_pos e, y0]
theorem cut_ext : ∀ {f g : List Int}, f ≠ [] → g ≠ [] → (∀ i, f.getD i 0 = g.getD i 0) → cutL f = cutL g
  | [], _, h, _, _ => absurd rfl h
  | _, [], _, h, _ => absurd rfl h
  | [x], [y], _, _, h => by have := h 0; simp at this; rw [this]
  | [x], y :: z :: s, _, _, h => by
    have e := cut_zero (g := z :: s) (by simp) fun i => (h (i + 1)).symm
    have y0 := h 0
    simp at y0
    rw [cut_cons y (by simp), if_pos e, y0]
    rfl
  | x :: w :: r, [y], _, _, h => by
    have e := cut_zero (g := w :: r) (by simp) fun i => h (i + 1)
    have y0 := h 0
    simp at y0
    rw [cut_cons x (by simp), if_pos e, y0]
    rfl
  | x :: w :: r, y :: z :: s, _, _, h => by
    have e := cut_ext (f := w :: r) (g := z :: s) (by simp) (by simp) fun i => h (i + 1)
    have y0 := h 0
    simp at y0
    rw [cut_cons x (by simp), cut_cons y (by simp), e, y0]
theorem cut_idem (ns : List Int) : cutL (cutL ns) = cutL ns := by
  by_cases z : ns = []
  · subst z
    rfl
  · exact cut_ext (cut_ne z) z (cut_get ns)
theorem snoc_nz {c : List Int} (hc : cutL c = c) (hne : c ≠ []) (h : c ≠ [0]) : ∃ zs z, z ≠ 0 ∧ c = zs ++ [z] := by
  refine ⟨c.dropLast, c.getLast hne, fun e => ?_, (List.dropLast_concat_getLast hne).symm⟩
  have q := (List.dropLast_concat_getLast hne).symm
  rw [e] at q
  by_cases z : c.dropLast = []
  · rw [z] at q
    exact h q
  · have a := cut_0 _ z
    rw [← q, hc] at a
    have b := cut_len c.dropLast
    rw [← a, List.length_dropLast] at b
    have : c.length ≠ 0 := fun e => hne (List.length_eq_zero_iff.mp e)
    omega
/-- what is left over by x - a -/
def quo (a : Int) : List Int → List Int
  | [] => []
  | _ :: cs => adL cs (muL a (quo a cs))
theorem ev_quo (a x : Int) : ∀ c : List Int, evL c x = evL c a + (x - a) * evL (quo a c) x
  | [] => by show (0 : Int) = 0 + (x - a) * 0; simp
  | c :: cs => by
    have h := ev_quo a x cs
    rw [quo, ev_ad, ev_mu]
    show c + x * evL cs x = c + a * evL cs a + (x - a) * (evL cs x + a * evL (quo a cs) x)
    grind
theorem ad_snoc (z : Int) : ∀ {xs ys : List Int}, ys.length ≤ xs.length → adL (xs ++ [z]) ys = adL xs ys ++ [z]
  | [], [], _ => rfl
  | [], _ :: _, h => by simp at h
  | _ :: _, [], _ => rfl
  | x :: xs, y :: ys, h => by
    show (x + y) :: adL (xs ++ [z]) ys = (x + y) :: adL xs ys ++ [z]
    rw [ad_snoc z (by simpa using h)]
    rfl
theorem quo_top (a z : Int) : ∀ zs : List Int, zs ≠ [] → ∃ ws, ws.length + 1 = zs.length ∧ quo a (zs ++ [z]) = ws ++ [z]
  | [], h => absurd rfl h
  | [y], _ => ⟨[], rfl, rfl⟩
  | y :: w :: r, _ => by
    obtain ⟨ws, h1, h2⟩ := quo_top a z (w :: r) (by simp)
    refine ⟨adL (w :: r) (muL a (ws ++ [z])), ?_, ?_⟩
    · rw [ad_len, mu_len, List.length_append]
      simp at h1 ⊢
      omega
    · show adL (w :: r ++ [z]) (muL a (quo a (w :: r ++ [z]))) = _
      rw [h2, ad_snoc z (by rw [mu_len, List.length_append]; simp at h1 ⊢; omega)]
theorem nonroot {z : Int} (hz : z ≠ 0) : ∀ (n : Nat) (zs : List Int), zs.length = n → ∃ t : Nat, t ≤ n ∧ evL (zs ++ [z]) (t : Int) ≠ 0
  | 0, zs, h => by
    have e := List.length_eq_zero_iff.mp h
    subst e
    exact ⟨0, Nat.le_refl _, by show z + _ * 0 ≠ 0; simpa using hz⟩
  | n + 1, zs, h => by
    by_cases e : evL (zs ++ [z]) ((n + 1 : Nat) : Int) = 0
    · obtain ⟨ws, h1, h2⟩ := quo_top ((n + 1 : Nat) : Int) z zs (fun q => by rw [q] at h; simp at h)
      obtain ⟨t, t1, t2⟩ := nonroot hz n ws (by omega)
      refine ⟨t, by omega, ?_⟩
      rw [ev_quo ((n + 1 : Nat) : Int) t, e, h2, Int.zero_add]
      exact Int.mul_ne_zero (by omega) t2
    · exact ⟨n + 1, Nat.le_refl _, e⟩
theorem zip_fg {α : Type} (f g : α → Int) : ∀ as : List α, zipD ((as.map f).map D.int) ((as.map g).map D.int) = as.map fun a => .tup [.int (f a), .int (g a)] := by
  intro as
  rw [zipD_ints]
  induction as with
  | nil => rfl
  | cons a as ih =>
    simp only [List.map_cons, List.zip_cons_cons]
    rw [ih]
theorem lc_zip {α : Type} {bd : MG} {me : ME} {ρ : Ev} {k : List D → Prop} (f g : α → Int) (h : α → Int) (as : List α) (hl : as.length ≤ sizeLine)
    (hh : ∀ a ∈ as, ∀ (R : D → Prop), R (.int (h a)) → bd (.tup [.int (f a), .int (g a)]) ρ fun ρ2 => me ρ2 (fun d _ => R d) noX) (hk : k ((as.map h).map D.int)) : lcGo bd mYes me (zipD ((as.map f).map D.int) ((as.map g).map D.int)) [] ρ k := by
  rw [zip_fg]
  refine lc_enc (fun a => .tup [.int (f a), .int (g a)]) (fun a => .int (h a)) as hl hh ?_
  rw [map_ints]
  exact hk
theorem ev_rev (f : Nat → Int) (x : Int) : ∀ n, evL (fl0 (fun a => f (n - a)) n) x = tS f x n
  | 0 => by show f 0 + x * 0 = f 0; simp
  | n + 1 => by
    have e : fl0 (fun a => f (n + 1 - a)) (n + 1) = f (n + 1) :: fl0 (fun a => f (n - a)) n := by
      unfold fl0
      rw [List.range_succ_eq_map (n := n + 1), List.map_cons, List.map_map]
      congr 1
      refine List.map_congr_left fun i _ => ?_
      show f (n + 1 - (i + 1)) = f (n - i)
      rw [show n + 1 - (i + 1) = n - i by omega]
    rw [e]
    show f (n + 1) + x * evL (fl0 (fun a => f (n - a)) n) x = x * tS f x n + f (n + 1)
    rw [ev_rev f x n]
    omega
/-- the terms of the product of all x less n -/
def rP (ns : List Int) : List Int := fl0 (rS (lf ns) ns.length) ns.length
def pxL (x : Int) (ns : List Int) : Int := (ns.map fun n => x - n).foldr (fun a b => a * b) 1
theorem px_app (x : Int) : ∀ ns ms : List Int, pxL x (ns ++ ms) = pxL x ns * pxL x ms
  | [], ms => by show pxL x ms = 1 * pxL x ms; simp
  | n :: ns, ms => by
    show (x - n) * pxL x (ns ++ ms) = (x - n) * pxL x ns * pxL x ms
    rw [px_app x ns ms, Int.mul_assoc]
theorem px_perm (x : Int) {ns ms : List Int} (h : ns.Perm ms) : pxL x ns = pxL x ms := by
  induction h with
  | nil => rfl
  | cons n _ ih => show (x - n) * pxL x _ = (x - n) * pxL x _; rw [ih]
  | swap a b l =>
    show (x - b) * ((x - a) * pxL x l) = (x - a) * ((x - b) * pxL x l)
    grind
  | trans _ _ a b => exact a.trans b
theorem ng_sg (k : Nat) : ng k = -sg k := by
  unfold ng sg
  split <;> split <;> omega
theorem pX_list (ns : List Int) (x : Int) : ∀ j, j ≤ ns.length → pX (lf ns) x j = pxL x (ns.take j)
  | 0, _ => rfl
  | j + 1, h => by
    rw [List.take_succ_eq_append_getElem (by omega), px_app]
    show (x - lf ns (j + 1)) * pX (lf ns) x j = _
    rw [pX_list ns x j (by omega)]
    have e : lf ns (j + 1) = ns[j] := by
      unfold lf
      rw [List.getD_eq_getElem?_getD, show j + 1 - 1 = j by omega, List.getElem?_eq_getElem (by omega)]
      rfl
    rw [e]
    show _ = pxL x (ns.take j) * ((x - ns[j]) * 1)
    grind
theorem ev_rP (ns : List Int) (x : Int) : evL (rP ns) x = pxL x ns := by
  have a := pX_eq (lf ns) x ns.length
  rw [pX_list ns x ns.length (Nat.le_refl _), List.take_length] at a
  have b := ev_rev (fun k => -sg k * eS (lf ns) ns.length k) x ns.length
  rw [← a] at b
  rw [← b]
  unfold rP
  congr 1
  refine fl0_congr fun k _ => ?_
  show ng (ns.length - k) * eS (lf ns) ns.length (ns.length - k) = -sg (ns.length - k) * _
  rw [ng_sg]
theorem rP_len (ns : List Int) : (rP ns).length = ns.length + 1 := fl0_len _ _
theorem rP_get (ns : List Int) {i : Nat} (h : i ≤ ns.length) : (rP ns).getD i 0 = ng (ns.length - i) * eS (lf ns) ns.length (ns.length - i) := by
  unfold rP
  rw [List.getD_eq_getElem?_getD, fl0_get h]
  rfl
theorem pos_ne {l : List Int} (h : 1 ≤ l.length) : l ≠ [] := fun e => by rw [e] at h; simp at h
/-- alike at all places: alike -/
theorem ev_ext {xs ys : List Int} (l : xs.length = ys.length) (h : ∀ t : Nat, evL xs (t : Int) = evL ys (t : Int)) : xs = ys := by
  by_cases z : xs.length = 0
  · have a := List.length_eq_zero_iff.mp z
    have b : ys = [] := List.length_eq_zero_iff.mp (by omega)
    rw [a, b]
  have dl : (adL xs (muL (-1) ys)).length = xs.length := by rw [ad_len, mu_len]; omega
  have dv : ∀ t : Nat, evL (adL xs (muL (-1) ys)) (t : Int) = 0 := fun t => by rw [ev_ad, ev_mu, h t]; omega
  have c0 : cutL (adL xs (muL (-1) ys)) = [0] := by
    by_cases q : cutL (adL xs (muL (-1) ys)) = [0]
    · exact q
    · obtain ⟨zs, w, hw, e⟩ := snoc_nz (cut_idem (adL xs (muL (-1) ys))) (cut_ne (pos_ne (by omega))) q
      obtain ⟨t, _, ht⟩ := nonroot hw zs.length zs rfl
      rw [← e, ev_cut, dv t] at ht
      exact absurd rfl ht
  have g : ∀ i, xs.getD i 0 = ys.getD i 0 := fun i => by
    have := cut_get (adL xs (muL (-1) ys)) i
    rw [c0, ad_get, mu_get] at this
    have e : [(0 : Int)].getD i 0 = 0 := by cases i <;> rfl
    omega
  refine List.ext_getElem l fun i h1 h2 => ?_
  have := g i
  rw [gd_in h1, gd_in h2] at this
  exact this
/-- the difference of the terms -/
def gpL (ns ms : List Int) : List Int := adL (rP ns) (muL (-1) (rP ms))
theorem gp_len {ns ms : List Int} (l : ns.length = ms.length) : (gpL ns ms).length = ns.length + 1 := by
  unfold gpL
  rw [ad_len, mu_len, rP_len, rP_len]
  omega
theorem gp_get {ns ms : List Int} (l : ns.length = ms.length) {i : Nat} (h : i ≤ ns.length) : (gpL ns ms).getD i 0 = ng (ns.length - i) * (eS (lf ns) ns.length (ns.length - i) - eS (lf ms) ms.length (ns.length - i)) := by
  unfold gpL
  rw [ad_get, mu_get, rP_get ns h, rP_get ms (by omega), ← l]
  grind
theorem gp_out {ns ms : List Int} (l : ns.length = ms.length) {i : Nat} (h : ns.length < i) : (gpL ns ms).getD i 0 = 0 := gd_out (by rw [gp_len l]; omega)
theorem es_same {ns ms : List Int} {n : Nat} (h : ∀ j, 1 ≤ j → j ≤ n → pS (lf ns) ns.length j = pS (lf ms) ms.length j) : ∀ k, k ≤ n → eS (lf ns) ns.length k = eS (lf ms) ms.length k :=
  nt_uniq (by rw [eS_z, eS_z]) (fun k _ _ => newton (lf ns) ns.length k) (fun k a b => by
    have := newton (lf ms) ms.length k
    unfold Nt at this ⊢
    rw [← this]
    exact aS_congr fun i i1 i2 => by rw [h i i1 (by omega)])
theorem es_part {ns ms : List Int} {p : Nat} (p1 : 1 ≤ p) (h : ∀ j, 1 ≤ j → j < p → pS (lf ns) ns.length j = pS (lf ms) ms.length j) (un : pS (lf ns) ns.length p ≠ pS (lf ms) ms.length p) : eS (lf ns) ns.length p ≠ eS (lf ms) ms.length p := fun e => by
  obtain ⟨q, rfl⟩ : ∃ q, p = q + 1 := ⟨p - 1, by omega⟩
  have lo := es_same (n := q) fun j a b => h j a (by omega)
  have a := newton (lf ns) ns.length (q + 1)
  have b := newton (lf ms) ms.length (q + 1)
  unfold Nt at a b
  rw [aS_s] at a b
  rw [Nat.sub_self, eS_z, Int.one_mul] at a b
  have c : aS (fun i => eS (lf ns) ns.length (q + 1 - i) * pS (lf ns) ns.length i) q = aS (fun i => eS (lf ms) ms.length (q + 1 - i) * pS (lf ms) ms.length i) q := aS_congr fun i i1 i2 => by rw [lo (q + 1 - i) (by omega), h i i1 (by omega)]
  rw [c, e] at a
  rcases sg_one (q + 1) with s | s <;> rw [s] at a b <;> omega
theorem cut_at {D : List Int} {t : Nat} (ht : t < D.length) (nz : D.getD t 0 ≠ 0) (hi : ∀ i, t < i → D.getD i 0 = 0) : (cutL D).length = t + 1 := by
  have e : D.take (t + 1) = D.take t ++ [D[t]] := List.take_succ_eq_append_getElem ht
  have z : D[t] ≠ 0 := by rw [gd_in ht] at nz; exact nz
  have g : ∀ i, D.getD i 0 = (D.take (t + 1)).getD i 0 := fun i => by
    by_cases q : i < t + 1
    · rw [List.getD_eq_getElem?_getD, List.getD_eq_getElem?_getD, List.getElem?_take_of_lt q]
    · rw [hi i (by omega), gd_out (by rw [List.length_take]; omega)]
  have c := cut_ext (pos_ne (by omega)) (pos_ne (l := D.take (t + 1)) (by rw [List.length_take]; omega)) g
  rw [c, e, cut_nz z, ← e, List.length_take]
  omega

@[simp] def S_is_integer : FS
  | [d], Q, E => d.tyN ≠ none ∧ Q (.bl d.isI)
  | _, _, _ => False

@[simp] def S_is_within : FS
  | [d, .int lo, .int hi], Q, E => d.tyN ≠ none ∧ Q (.bl (d.inR lo hi))
  | _, _, _ => False

def D.items : D → Bool
  | .tup xs => (decide (1 ≤ xs.length) && decide (xs.length ≤ 40)) && xs.all (D.inR (-100000) 100000)
  | _ => false
theorem items_of {d : D} (h : d.items = true) : ∃ ns : List Int, d = .tup (ns.map D.int) ∧ 1 ≤ ns.length ∧ ns.length ≤ 40 ∧ ∀ i ∈ ns, -100000 ≤ i ∧ i ≤ 100000 := by
  cases d <;> simp [D.items] at h
  rename_i xs
  obtain ⟨ns, rfl⟩ := ints_of_all (p := D.inR (-100000) 100000) (xs := xs) (by rw [List.all_eq_true]; exact h.2) (fun d hd => by obtain ⟨i, e, _⟩ := inR_of hd; exact ⟨i, e⟩)
  refine ⟨ns, rfl, by simpa using h.1.1, by simpa using h.1.2, fun i hi => ?_⟩
  have := h.2 (.int i) (List.mem_map_of_mem hi)
  simpa using this
theorem items_ints {ns : List Int} (h1 : 1 ≤ ns.length) (h2 : ns.length ≤ 40) (h : ∀ i ∈ ns, -100000 ≤ i ∧ i ≤ 100000) : D.items (.tup (ns.map D.int)) = true := by
  simp [D.items, h1, h2]
  exact h
@[simp] def S_are_items : FS
  | [d], Q, E => Th 60 d ∧ Q (.bl d.items)
  | _, _, _ => False

/-- a heap: items, ascending -/
def D.heap (d : D) : Bool := d.items && decide (d.ints1 = isort d.ints1)
structure HeapI (ns : List Int) : Prop where
  l1 : 1 ≤ ns.length
  l2 : ns.length ≤ 40
  r : ∀ i ∈ ns, -100000 ≤ i ∧ i ≤ 100000
  s : ns = isort ns
theorem heap_of {d : D} (h : d.heap = true) : ∃ ns : List Int, d = .tup (ns.map D.int) ∧ HeapI ns := by
  unfold D.heap at h
  rw [Bool.and_eq_true] at h
  obtain ⟨ns, rfl, h1, h2, h3⟩ := items_of h.1
  exact ⟨ns, rfl, h1, h2, h3, by simpa using h.2⟩
theorem HeapI.heap {ns : List Int} (h : HeapI ns) : D.heap (.tup (ns.map D.int)) = true := by
  unfold D.heap
  rw [items_ints h.l1 h.l2 h.r]
  simpa using h.s
theorem isort_idem (ns : List Int) : isort (isort ns) = isort ns := (isort_one (isort_perm ns).symm.symm (isort_pair ns) |> fun e => by
  have : isort ns = isort (isort ns) := isort_one (List.Perm.refl _) (isort_pair ns)
  exact this.symm)
theorem isort_len (ns : List Int) : (isort ns).length = ns.length := (isort_perm ns).length_eq
theorem HeapI.of_sort {ns : List Int} (l1 : 1 ≤ ns.length) (l2 : ns.length ≤ 40) (r : ∀ i ∈ ns, -100000 ≤ i ∧ i ≤ 100000) : HeapI (isort ns) :=
  ⟨by rw [isort_len]; exact l1, by rw [isort_len]; exact l2, fun i hi => r i ((isort_perm ns).mem_iff.mp hi), (isort_idem ns).symm⟩
@[simp] def S_is_heap : FS
  | [d], Q, E => Th 60 d ∧ Q (.bl d.heap)
  | _, _, _ => False

@[simp] def S_check_heap : FS
  | [d], Q, E => Th 60 d ∧ (d.heap = true → Q .non) ∧ (d.heap = false → E (xn "NoHeap"))
  | _, _, _ => False

@[simp] def S_raw_roots : FS
  | [.tup xs], Q, E => ∃ ns : List Int, xs = ns.map D.int ∧ ns.length ≤ 40 ∧ (∀ n ∈ ns, n.natAbs < 2 ^ 20) ∧ Q (.lst ((fl0 (rS (lf ns) ns.length) ns.length).map D.int))
  | _, _, _ => False

@[simp] def S_root_poly : FS
  | [.tup xs], Q, E => ∃ ns : List Int, xs = ns.map D.int ∧ HeapI ns ∧ Q (.tup ((fl0 (rS (lf ns) ns.length) ns.length).map D.int))
  | _, _, _ => False

@[simp] def S_check_both : FS
  | [d1, d2], Q, E => Th 60 d1 ∧ Th 60 d2 ∧ (d1.heap = true → d2.heap = true → Q .non) ∧ ((d1.heap && d2.heap) = false → E (xn "NoHeap"))
  | _, _, _ => False

def D.lenT : D → Nat
  | .tup xs => xs.length
  | _ => 0
@[simp] def S_check_two : FS
  | [d1, d2], Q, E => Th 60 d1 ∧ Th 60 d2 ∧ (d1.heap = true → d2.heap = true → (d1.lenT = d2.lenT → Q .non) ∧ (d1.lenT ≠ d2.lenT → E (xn "Unlike"))) ∧ ((d1.heap && d2.heap) = false → E (xn "NoHeap"))
  | _, _, _ => False

@[simp] def S_trimmed : FS
  | [.lst xs], Q, E => ∃ ns : List Int, xs = ns.map D.int ∧ 1 ≤ ns.length ∧ ns.length ≤ 1000 ∧ Q (.tup ((if cutL ns = [0] then [] else cutL ns).map D.int))
  | _, _, _ => False

theorem zip_sub {ns ms : List Int} (l : ns.length = ms.length) {bd : MG} {me : ME} {ρ : Ev} {k : List D → Prop}
    (hh : ∀ (x y : Int) (R : D → Prop), R (.int (x - y)) → bd (.tup [.int x, .int y]) ρ fun ρ2 => me ρ2 (fun d _ => R d) noX) (hn : ns.length ≤ 1000) (hk : k ((gpL ns ms).map D.int)) : lcGo bd mYes me (zipD ((rP ns).map D.int) ((rP ms).map D.int)) [] ρ k := by
  have f1 : rP ns = (List.range (ns.length + 1)).map fun i => (rP ns).getD i 0 := (getD_list (rP_len ns)).symm
  have f2 : rP ms = (List.range (ns.length + 1)).map fun i => (rP ms).getD i 0 := (getD_list (by rw [rP_len, l])).symm
  rw [f1, f2]
  refine lc_zip (fun i => (rP ns).getD i 0) (fun i => (rP ms).getD i 0) (fun i => (rP ns).getD i 0 - (rP ms).getD i 0) (List.range (ns.length + 1)) (by rw [List.length_range, sizeLine_val]; omega) (fun i hi R hR => hh _ _ R hR) ?_
  have e : (List.range (ns.length + 1)).map (fun i => (rP ns).getD i 0 - (rP ms).getD i 0) = gpL ns ms := by
    rw [← getD_list (gp_len l)]
    refine List.map_congr_left fun i _ => ?_
    unfold gpL
    rw [ad_get, mu_get]
    omega
  rw [e]
  exact hk
@[simp] def S_raw_root_gap : FS
  | [.tup xs, .tup ys], Q, E => ∃ ns ms : List Int, xs = ns.map D.int ∧ ys = ms.map D.int ∧ HeapI ns ∧ HeapI ms ∧ ns.length = ms.length ∧ Q (.tup ((cutL (gpL ns ms)).map D.int))
  | _, _, _ => False

@[simp] def S_root_gap : FS
  | [.tup xs, .tup ys], Q, E => ∃ ns ms : List Int, xs = ns.map D.int ∧ ys = ms.map D.int ∧ HeapI ns ∧ HeapI ms ∧ ns.length = ms.length ∧ Q (.tup ((cutL (gpL ns ms)).map D.int))
  | _, _, _ => False

@[simp] def S_gap_degree : FS
  | [.tup xs, .tup ys], Q, E => ∃ ns ms : List Int, xs = ns.map D.int ∧ ys = ms.map D.int ∧ HeapI ns ∧ HeapI ms ∧ ns.length = ms.length ∧ Q (if cutL (gpL ns ms) = [0] then .non else .int (((cutL (gpL ns ms)).length : Int) - 1))
  | _, _, _ => False

@[simp] def S_check_number : FS
  | [d, .int lo, .int hi], Q, E => d.tyN ≠ none ∧ (d.inR lo hi = true → Q .non) ∧ (d.inR lo hi = false → E (xn "NoNumber"))
  | _, _, _ => False

@[simp] def S_is_poly : FS
  | [.tup xs], Q, E => ∃ ns : List Int, xs = (ns ++ [1]).map D.int ∧ 1 ≤ ns.length ∧ ns.length ≤ 40 ∧ (∀ x ∈ ns, x.natAbs < 1000000000000000000000000000000000000000000000000000000000000) ∧ Q (.bl true)
  | _, _, _ => False

/-- Newton's sums -/
def nwT (L : Nat → Int) (n k : Nat) (prev : List Int) (m : Nat) : Int := ((List.range m).map fun i => L (i + 1) * prev.getD (k - (i + 1) - 1) 0).sum
def nwV (L : Nat → Int) (n k : Nat) (prev : List Int) : Int := (if k ≤ n then -(k : Int) * L k else 0) - nwT L n k prev (min (k - 1) n)
def nwL (L : Nat → Int) (n : Nat) : Nat → List Int
  | 0 => []
  | k + 1 => nwL L n k ++ [nwV L n (k + 1) (nwL L n k)]
theorem nw_len (L : Nat → Int) (n : Nat) : ∀ k, (nwL L n k).length = k
  | 0 => rfl
  | k + 1 => by rw [nwL, List.length_append, nw_len L n k]; rfl
theorem nwT_s (L : Nat → Int) (n k : Nat) (prev : List Int) (m : Nat) : nwT L n k prev (m + 1) = nwT L n k prev m + L (m + 1) * prev.getD (k - (m + 1) - 1) 0 := by
  unfold nwT
  rw [List.range_succ, List.map_append, List.sum_append]
  simp
/-- the terms, led by the last -/
def ldF (ns : List Int) (j : Nat) : Int := (ns ++ [1]).getD (ns.length - j) 0
@[simp] def S_newton_sums : FS
  | [.tup xs, .int k], Q, E => ∃ ns : List Int, xs = (ns ++ [1]).map D.int ∧ 1 ≤ ns.length ∧ ns.length ≤ 40 ∧ (∀ x ∈ ns, x.natAbs < 1000000000000000000000000000000000000000000000000000000000000) ∧ 1 ≤ k ∧ k ≤ 60 ∧ ((∀ x ∈ ns, x.natAbs < 2 ^ 60) ∨ ∀ v ∈ nwL (ldF ns) ns.length k.toNat, v.natAbs < 2 ^ 5000) ∧ Q (.tup ((nwL (ldF ns) ns.length k.toNat).map D.int))
  | _, _, _ => False


/-- data that this looks at: at most n deep -/
def Si : Nat → D → Prop
  | 0, _ => False
  | _ + 1, .non => True
  | _ + 1, .bl _ => True
  | _ + 1, .int _ => True
  | _ + 1, .str _ => True
  | n + 1, .tup xs => xs.length ≤ 16777216 ∧ ∀ x ∈ xs, Si n x
  | n + 1, .lst xs => xs.length ≤ 16777216 ∧ ∀ x ∈ xs, Si n x
  | _ + 1, _ => False
@[simp] def S_law_same_ (n : Nat) : FS
  | [d, e], Q, _ => d = e ∧ Si n d ∧ Q (.bl true)
  | _, _, _ => False


@[simp] def S_law_any : FS
  | [.ob 0, .lst xs], Q, E => 0 < xs.length ∧ xs.length < 1000000 ∧ ∀ x ∈ xs, Q x
  | _, _, _ => False

@[simp] def S_law_drawn : FS
  | [.ob 0, .int most], Q, E => 1 ≤ most ∧ most ≤ 1000 ∧ ∀ ns : List Int, 1 ≤ ns.length → (ns.length : Int) ≤ most → (∀ x ∈ ns, x.natAbs ≤ 1000) → ns = isort ns → Q (.tup (ns.map D.int))
  | _, _, _ => False

theorem Fq.ne {ns ms : List Int} {p : Nat} (h : Fq ns ms p) : 1 ≤ ns.length := by
  by_cases z : ns.length = 0
  · have a := List.length_eq_zero_iff.mp z
    have b := List.length_eq_zero_iff.mp (h.l ▸ z)
    exact absurd (by rw [a, b]) h.not_perm
  · omega
/-- grown, without what both share -/
def grA (a : Int) (ns ms : List Int) : List Int := isort (ns ++ adds a ms)
def grP (a : Int) (ns ms : List Int) : List Int × List Int := lsF (grA a ns ms) (grA a ns ms, grA a ms ns)
theorem Fq.less {ns ms : List Int} {p : Nat} (h : Fq ns ms p) : Fq (lsF ns (ns, ms)).1 (lsF ns (ns, ms)).2 p := by
  obtain ⟨s, a, b, _, _⟩ := ls_out ns ms
  exact (h.perm a.symm b.symm).cut
theorem Fq.grP {ns ms : List Int} {p : Nat} (h : Fq ns ms p) {a : Int} (a0 : a ≠ 0) : Fq (Lk.grP a ns ms).1 (Lk.grP a ns ms).2 (p + 1) := ((h.grown a0).perm (isort_perm _) (isort_perm _)).less
theorem grP_mem {a : Int} {ns ms : List Int} {x : Int} : (x ∈ (grP a ns ms).1 → x ∈ ns ∨ x - a ∈ ms) ∧ (x ∈ (grP a ns ms).2 → x ∈ ms ∨ x - a ∈ ns) := by
  obtain ⟨_, _, _, s1, s2⟩ := ls_out (grA a ns ms) (grA a ms ns)
  have key : ∀ (l r : List Int), x ∈ grA a l r → x ∈ l ∨ x - a ∈ r := fun l r h => by
    have h := (isort_perm _).mem_iff.mp h
    rcases List.mem_append.mp h with q | q
    · exact .inl q
    · obtain ⟨y, hy, rfl⟩ := List.mem_map.mp q
      exact .inr (by rw [show y + a - a = y by omega]; exact hy)
  exact ⟨fun h => key _ _ (s1.subset h), fun h => key _ _ (s2.subset h)⟩
theorem grA_len {a : Int} {ns ms : List Int} : (grA a ns ms).length = ns.length + ms.length := by
  unfold grA adds
  rw [isort_len, List.length_append, List.length_map]
theorem grP_len {a : Int} {ns ms : List Int} : (grP a ns ms).1.length ≤ ns.length + ms.length := by
  obtain ⟨_, _, _, s1, _⟩ := ls_out (grA a ns ms) (grA a ms ns)
  have := s1.length_le
  rw [grA_len] at this
  exact this
theorem sub_sort {ns fs : List Int} (hs : ns = isort ns) (h : fs.Sublist ns) : fs = isort fs := by
  have p := isort_pair ns
  rw [← hs] at p
  exact (isort_sorted (p.sublist h)).symm
theorem rem_ex {ns : List Int} {x : Int} (h : x ∈ ns) : ∃ j : Nat, ns[j]? = some x ∧ (∀ m : Nat, m < j → ns[m]? ≠ some x) ∧ ns.eraseIdx j = ns.erase x := by
  induction ns with
  | nil => cases h
  | cons y ns ih =>
    by_cases z : y = x
    · subst z
      exact ⟨0, rfl, fun m hm => by omega, by simp⟩
    · have hx : x ∈ ns := by
        rcases List.mem_cons.mp h with q | q
        · exact absurd q.symm z
        · exact q
      obtain ⟨j, a, b, c⟩ := ih hx
      refine ⟨j + 1, a, fun m hm => ?_, ?_⟩
      · cases m with
        | zero => exact fun q => z (Option.some.inj q)
        | succ m => exact b m (by omega)
      · rw [List.eraseIdx_cons_succ, c, List.erase_cons_tail (by simpa using z)]
theorem any_ints {x : Int} : ∀ ns : List Int, ((ns.map D.int).any fun y => D.eqv y (.int x)) = decide (x ∈ ns)
  | [] => rfl
  | y :: ns => by
    rw [List.map_cons, List.any_cons, any_ints ns, eqv_int2]
    by_cases z : y = x
    · simp [z]
    · simp [z, show ¬ x = y from fun q => z q.symm]
@[simp] def S_law_less : FS
  | [.lst xs, .lst ys], Q, E => ∃ ns ms : List Int, xs = ns.map D.int ∧ ys = ms.map D.int ∧ ns.length ≤ 1000 ∧ ms.length ≤ 1000 ∧ Q (.tup [.lst ((lsF ns (ns, ms)).1.map D.int), .lst ((lsF ns (ns, ms)).2.map D.int)])
  | [.tup xs, .tup ys], Q, E => ∃ ns ms : List Int, xs = ns.map D.int ∧ ys = ms.map D.int ∧ ns.length ≤ 1000 ∧ ms.length ≤ 1000 ∧ Q (.tup [.lst ((lsF ns (ns, ms)).1.map D.int), .lst ((lsF ns (ns, ms)).2.map D.int)])
  | _, _, _ => False

theorem lc_ints {bd : MG} {me : ME} {ρ : Ev} {k : List D → Prop} (f : Int → Int) (ns : List Int) (hl : ns.length ≤ sizeLine)
    (h : ∀ x ∈ ns, ∀ (R : D → Prop), R (.int (f x)) → bd (.int x) ρ fun ρ2 => me ρ2 (fun d _ => R d) noX) (hk : k ((ns.map f).map D.int)) : lcGo bd mYes me (ns.map D.int) [] ρ k := by
  refine lc_map (fun d => match d with
    | .int i => .int (f i)
    | d => d) (ns.map D.int) (by rw [List.length_map]; exact hl) (fun x hx R hR => ?_) ?_
  · obtain ⟨n, hn, rfl⟩ := List.mem_map.mp hx
    exact h n hn R hR
  · have e : (ns.map D.int).map (fun d => match d with
      | .int i => .int (f i)
      | d => d) = (ns.map f).map D.int := by rw [List.map_map, List.map_map]; rfl
    rw [e]
    exact hk
theorem HeapI.small {ns : List Int} (h : HeapI ns) : ∀ n ∈ ns, n.natAbs < 2 ^ 400 := fun n hn => by
  have := h.r n hn
  exact lt400 (by omega)
theorem HeapI.sz {ns : List Int} (h : HeapI ns) : ns.length ≤ sizeLine := by
  have := h.l2
  rw [sizeLine_val]
  omega
@[simp] def S_law_grown : FS
  | [.lst xs, .lst ys, .int a], Q, E => ∃ ns ms : List Int, xs = ns.map D.int ∧ ys = ms.map D.int ∧ ns.length ≤ 200 ∧ ms.length ≤ 200 ∧ Q (.tup [.lst ((grP a ns ms).1.map D.int), .lst ((grP a ns ms).2.map D.int)])
  | [.tup xs, .tup ys, .int a], Q, E => ∃ ns ms : List Int, xs = ns.map D.int ∧ ys = ms.map D.int ∧ ns.length ≤ 200 ∧ ms.length ≤ 200 ∧ Q (.tup [.lst ((grP a ns ms).1.map D.int), .lst ((grP a ns ms).2.map D.int)])
  | _, _, _ => False

def lints : D → List Int
  | .lst xs => (D.ints xs).getD []
  | _ => []
theorem lints_lst (ns : List Int) : lints (.lst (ns.map D.int)) = ns := by
  show (D.ints (ns.map D.int)).getD [] = ns
  rw [ints_map]
  rfl
structure Pr (ns ms : List Int) (L B : Nat) : Prop where
  q : ∃ p, Fq ns ms p
  l : ns.length ≤ L
  b1 : ∀ x ∈ ns, 0 ≤ x ∧ x ≤ (B : Int)
  b2 : ∀ x ∈ ms, 0 ≤ x ∧ x ≤ (B : Int)
theorem pr_mk {ns ms : List Int} (hl : ns.length = ms.length) (hp : ¬ ns.Perm ms) (l : ns.length ≤ 4) (b1 : ∀ x ∈ ns, 0 ≤ x ∧ x ≤ 11) (b2 : ∀ x ∈ ms, 0 ≤ x ∧ x ≤ 11) : Pr ns ms 4 11 := by
  obtain ⟨p, _, h⟩ := fq_ex hl hp
  exact ⟨⟨p, h⟩, l, b1, b2⟩
theorem Pr.grown {ns ms : List Int} {L B : Nat} (h : Pr ns ms L B) {a : Int} (a0 : 1 ≤ a) (a1 : a ≤ 9) : Pr (grP a ns ms).1 (grP a ns ms).2 (2 * L) (B + 9) := by
  obtain ⟨⟨p, q⟩, l, b1, b2⟩ := h
  have e := q.l
  refine ⟨⟨p + 1, q.grP (by omega)⟩, Nat.le_trans grP_len (by omega), fun x hx => ?_, fun x hx => ?_⟩
  · rcases grP_mem.1 hx with z | z
    · have := b1 x z
      omega
    · have := b2 _ z
      omega
  · rcases grP_mem.2 hx with z | z
    · have := b2 x z
      omega
    · have := b1 _ z
      omega
@[simp] def S_law_pair : FS
  | [.ob 0], Q, E => ∀ ns ms : List Int, HeapI ns → HeapI ms → ns.length = ms.length → ns.length ≤ 18 → (∀ x ∈ ns, x.natAbs ≤ 1020) → (∀ x ∈ ms, x.natAbs ≤ 1020) → Q (.tup [.tup (ns.map D.int), .tup (ms.map D.int)])
  | _, _, _ => False

@[simp] def S_raw_power : FS
  | [.int n, .int k], Q, E => 0 ≤ k ∧ k ≤ 1000 ∧ n.natAbs < 2 ^ 400 ∧ Q (.int (n ^ k.toNat))
  | _, _, _ => False

def psum (ns : List Int) (k : Nat) : Int := (ns.map fun n => n ^ k).sum
@[simp] def S_raw_sum : FS
  | [.tup xs, .int k], Q, E => ∃ ns : List Int, xs = ns.map D.int ∧ ns.length ≤ 100000 ∧ (∀ n ∈ ns, n.natAbs < 2 ^ 400) ∧ 0 ≤ k ∧ k ≤ 1000 ∧ Q (.int (psum ns k.toNat))
  | _, _, _ => False

@[simp] def S_power_sums : FS
  | [.tup xs, .int m], Q, E => ∃ ns : List Int, xs = ns.map D.int ∧ HeapI ns ∧ 1 ≤ m ∧ m ≤ 60 ∧ Q (.tup ((fl (pS (lf ns) ns.length) m.toNat).map D.int))
  | _, _, _ => False

@[simp] def S_as_heap : FS
  | [D.lst xs], Q, E => ∃ ns : List Int, xs = ns.map D.int ∧ 1 ≤ ns.length ∧ ns.length ≤ 40 ∧ (∀ i ∈ ns, -100000 ≤ i ∧ i ≤ 100000) ∧ Q (.tup ((isort ns).map D.int))
  | [.tup xs], Q, E => ∃ ns : List Int, xs = ns.map D.int ∧ 1 ≤ ns.length ∧ ns.length ≤ 40 ∧ (∀ i ∈ ns, -100000 ≤ i ∧ i ≤ 100000) ∧ Q (.tup ((isort ns).map D.int))
  | _, _, _ => False

@[simp] def S_joined : FS
  | [.tup xs, .tup ys], Q, E => ∃ ns ms : List Int, xs = ns.map D.int ∧ ys = ms.map D.int ∧ HeapI ns ∧ HeapI ms ∧ ns.length + ms.length ≤ 40 ∧ Q (.tup ((isort (ns ++ ms)).map D.int))
  | _, _, _ => False

@[simp] def S_law_power : FS
  | [.int n, .int k], Q, E => 0 ≤ k ∧ k ≤ 1000 ∧ n.natAbs < 2 ^ 400 ∧ Q (.int (n ^ k.toNat))
  | _, _, _ => False

@[simp] def S_law_sum : FS
  | [.tup xs, .int k], Q, E => ∃ ns : List Int, xs = ns.map D.int ∧ 0 ≤ k ∧ k ≤ 1000 ∧ ns.length ≤ 100000 ∧ (∀ n ∈ ns, n.natAbs < 2 ^ 400) ∧ Q (.int ((ns.map fun n => n ^ k.toNat).sum))
  | _, _, _ => False

@[simp] def S_law_roots : FS
  | [.tup xs], Q, E => ∃ ns : List Int, xs = ns.map D.int ∧ ns.length ≤ 40 ∧ (∀ n ∈ ns, n.natAbs < 2 ^ 20) ∧ Q (.lst ((rP ns).map D.int))
  | _, _, _ => False

@[simp] def S_law_newton : FS
  | [.tup xs, .int k], Q, E => ∃ ns : List Int, xs = (ns ++ [1]).map D.int ∧ 1 ≤ ns.length ∧ ns.length ≤ 40 ∧ (∀ x ∈ ns, x.natAbs < 2 ^ 60) ∧ 1 ≤ k ∧ k ≤ 60 ∧ Q (.tup ((nwL (ldF ns) ns.length k.toNat).map D.int))
  | _, _, _ => False

theorem rP_one (ns : List Int) : rP ns = (List.range ns.length).map (rS (lf ns) ns.length) ++ [1] := by
  unfold rP fl0
  rw [List.range_succ, List.map_append]
  congr 1
  show [rS (lf ns) ns.length ns.length] = [1]
  unfold rS
  rw [Nat.sub_self, eS_z]
  rfl
def rQ (ns : List Int) : List Int := (List.range ns.length).map (rS (lf ns) ns.length)
theorem rQ_len (ns : List Int) : (rQ ns).length = ns.length := by simp [rQ]
theorem ld_root (ns : List Int) {j : Nat} (h : j ≤ ns.length) : ldF (rQ ns) j = ng j * eS (lf ns) ns.length j := by
  unfold ldF
  rw [rQ_len, show rQ ns ++ [1] = rP ns from (rP_one ns).symm, rP_get ns (by omega), show ns.length - (ns.length - j) = j by omega]
theorem aS_cut {f : Nat → Int} {n : Nat} : ∀ k, n ≤ k → (∀ i, n < i → i ≤ k → f i = 0) → aS f k = aS f n
  | 0, h, _ => by rw [show n = 0 by omega]
  | k + 1, h, hf => by
    by_cases z : n = k + 1
    · rw [z]
    · rw [aS_s, hf (k + 1) (by omega) (Nat.le_refl _), aS_cut k (by omega) fun i a b => hf i a (by omega)]
      omega
theorem nwT_aS (L : Nat → Int) (n k : Nat) (prev : List Int) : ∀ m, nwT L n k prev m = aS (fun i => sg i * (L i * prev.getD (k - i - 1) 0)) m
  | 0 => by show (0 : Int) = aS _ 0; rfl
  | m + 1 => by
    rw [nwT_s, nwT_aS L n k prev m, aS_s]
    have := sg_sq (m + 1)
    show _ + L (m + 1) * _ = _ + sg (m + 1) * (sg (m + 1) * (L (m + 1) * _))
    rw [← Int.mul_assoc (sg (m + 1)), this, Int.one_mul]
theorem nw_root (ns : List Int) : ∀ k, nwL (ldF (rQ ns)) ns.length k = fl (pS (lf ns) ns.length) k
  | 0 => rfl
  | k + 1 => by
    rw [nwL, fl_s, nw_root ns k]
    congr 2
    obtain ⟨n, hn⟩ : ∃ n, n = ns.length := ⟨_, rfl⟩
    have sm := (nt_sm (eS_z (lf ns) ns.length) (by omega)).mp (newton (lf ns) ns.length (k + 1))
    unfold Sm at sm
    rw [sm]
    unfold nwV
    rw [nwT_aS, ← hn]
    have hi : ∀ i, n < i → eS (lf ns) n i = 0 := fun i h => by rw [hn] at h ⊢; exact eS_hi _ _ _ h
    have ld : ∀ i, i ≤ n → ldF (rQ ns) i = ng i * eS (lf ns) n i := fun i h => by rw [hn] at h ⊢; exact ld_root ns h
    have e1 : aS (fun i => sg i * (ldF (rQ ns) i * (fl (pS (lf ns) n) k).getD (k + 1 - i - 1) 0)) (min (k + 1 - 1) n) = - aS (fun i => eS (lf ns) n i * pS (lf ns) n (k + 1 - i)) (k + 1 - 1) := by
      have c : aS (fun i => eS (lf ns) n i * pS (lf ns) n (k + 1 - i)) (k + 1 - 1) = aS (fun i => eS (lf ns) n i * pS (lf ns) n (k + 1 - i)) (min (k + 1 - 1) n) := by
        by_cases z : k ≤ n
        · rw [show min (k + 1 - 1) n = k + 1 - 1 by omega]
        · rw [show min (k + 1 - 1) n = n by omega]
          exact aS_cut (k + 1 - 1) (by omega) fun i a _ => by rw [hi i a, Int.zero_mul]
      rw [c]
      have m1 := aS_mul (-1) (fun i => eS (lf ns) n i * pS (lf ns) n (k + 1 - i)) (min (k + 1 - 1) n)
      rw [show - aS (fun i => eS (lf ns) n i * pS (lf ns) n (k + 1 - i)) (min (k + 1 - 1) n) = -1 * aS (fun i => eS (lf ns) n i * pS (lf ns) n (k + 1 - i)) (min (k + 1 - 1) n) by omega, ← m1]
      refine aS_congr fun i i1 i2 => ?_
      have g : (fl (pS (lf ns) n) k).getD (k + 1 - i - 1) 0 = pS (lf ns) n (k + 1 - i) := by
        rw [List.getD_eq_getElem?_getD, fl_get (by omega), show k + 1 - i - 1 + 1 = k + 1 - i by omega]
        rfl
      rw [g, ld i (by omega), ng_sg]
      have := sg_sq i
      grind
    rw [e1]
    by_cases z : k + 1 ≤ n
    · rw [if_pos z, ld (k + 1) z, ng_sg]
      grind
    · rw [if_neg z, hi (k + 1) (by omega)]
      simp
theorem rQ_bd {ns : List Int} (hl : ns.length ≤ 12) (hb : ∀ x ∈ ns, x.natAbs ≤ 1000) : ∀ x ∈ rQ ns, x.natAbs < 1000000000000000000000000000000000000000000000000000000000000 := fun x hx => by
  obtain ⟨i, _, rfl⟩ := List.mem_map.mp hx
  unfold rS
  rw [ng_abs]
  have a := eS_bdB (g := lf ns) (B := 1000) (fun k => lf_bd hb k) ns.length (ns.length - i)
  have b : (1000 + 1) ^ ns.length ≤ 1001 ^ 12 := Nat.pow_le_pow_right (by decide) hl
  have c : 1001 ^ 12 < 1000000000000000000000000000000000000000000000000000000000000 := by decide +kernel
  omega
theorem rP_bd {ns : List Int} (hl : ns.length ≤ 12) (hb : ∀ x ∈ ns, x.natAbs ≤ 1000) (i : Nat) : ((rP ns).getD i 0).natAbs < 2 ^ 200 := by
  by_cases z : i < (rP ns).length
  · rw [gd_in z]
    have m := List.getElem_mem z
    have k : ∀ x ∈ rP ns, x.natAbs < 2 ^ 200 := fun x hx => by
      rw [rP_one] at hx
      rcases List.mem_append.mp hx with q | q
      · have := rQ_bd hl hb x q
        omega
      · rw [List.mem_singleton.mp q]
        decide
    exact k _ m
  · rw [gd_out (by omega)]
    decide
theorem pS_bd {ns : List Int} (hl : ns.length ≤ 12) (hb : ∀ x ∈ ns, x.natAbs ≤ 1000) {K : Nat} (hK : K ≤ 60) : ∀ v ∈ fl (pS (lf ns) ns.length) K, v.natAbs < 2 ^ 5000 := fun v hv => by
  obtain ⟨j, j1, j2, rfl⟩ := fl_mem hv
  rw [← psum_pS]
  have a := sum_bd (B := 1000 ^ j) (ns.map fun n => n ^ j) fun y hy => by
    obtain ⟨x, hx, rfl⟩ := List.mem_map.mp hy
    rw [Int.natAbs_pow]
    exact Nat.pow_le_pow_left (hb x hx) j
  rw [List.length_map] at a
  have b : 1000 ^ j ≤ 1000 ^ 60 := Nat.pow_le_pow_right (by decide) (by omega)
  have c : 1000 ^ j * ns.length ≤ 1000 ^ 60 * 12 := Nat.mul_le_mul b hl
  have d : 1000 ^ 60 * 12 < 2 ^ 5000 := by decide +kernel
  exact Nat.lt_of_le_of_lt a (Nat.lt_of_le_of_lt c d)
@[simp] def S_law_is_heap_right : FS
  | [.ob 0, .tup X], Q, E => ∃ ns : List Int, X = ns.map D.int ∧ HeapI ns ∧ ns.length ≤ 12 ∧ (∀ x ∈ ns, x.natAbs ≤ 1000) ∧ Q (.bl true)
  | _, _, _ => False

/-- the first power that parts two rows -/
structure Fst (ns ms : List Int) (p : Nat) : Prop where
  p1 : 1 ≤ p
  un : psum ns p ≠ psum ms p
  lo : ∀ j, 1 ≤ j → j < p → psum ns j = psum ms j
@[simp] def S_first_unlike : FS
  | [.tup xs, .tup ys], Q, E => ∃ ns ms : List Int, xs = ns.map D.int ∧ ys = ms.map D.int ∧ ns.length ≤ 100000 ∧ ms.length ≤ 100000 ∧ (∀ n ∈ ns, n.natAbs < 2 ^ 400) ∧ (∀ n ∈ ms, n.natAbs < 2 ^ 400) ∧ ((ns = ms ∧ Q .non) ∨ (ns ≠ ms ∧ ∃ p, p ≤ 1000 ∧ Fst ns ms p ∧ Q (.int (p : Int))))
  | _, _, _ => False

theorem HeapI.th {ns : List Int} (h : HeapI ns) : Th 60 (.tup (ns.map D.int)) := Th.ints (by have := h.l2; omega)
theorem HeapI.big {ns : List Int} (h : HeapI ns) : ∀ n ∈ ns, n.natAbs < 2 ^ 400 := fun n hn => by
  have := h.r n hn
  exact lt400 (by omega)
@[simp] def S_like_far : FS
  | [.tup xs, .tup ys], Q, E => ∃ ns ms : List Int, xs = ns.map D.int ∧ ys = ms.map D.int ∧ HeapI ns ∧ HeapI ms ∧ ns.length = ms.length ∧ ((ns = ms ∧ Q .non) ∨ (ns ≠ ms ∧ ∃ p, p ≤ 1000 ∧ Fst ns ms p ∧ Q (.int ((p : Int) - 1))))
  | _, _, _ => False

theorem cut_m1 {α : Type} (xs : List α) (x : α) : cutG (xs ++ [x]) none (some (-1)) = xs := by
  unfold cutG HT.sIx
  simp only [List.length_append, List.length_singleton]
  simp
  rw [show (-1 + ((xs.length : Int) + 1)).toNat = xs.length by omega]
  simp
theorem gp_self (ns : List Int) : cutL (gpL ns ns) = [0] := cut_zero (pos_ne (by rw [gp_len rfl]; omega)) fun i => by
  by_cases z : i ≤ ns.length
  · rw [gp_get rfl z]
    simp
  · exact gp_out rfl (by omega)
/-- what tells two heaps -/
structure Tl (ns ms : List Int) (p : Nat) : Prop where
  f : Fst ns ms p
  l : p ≤ ns.length
  c : (cutL (gpL ns ms)).length = ns.length - p + 1
  n : cutL (gpL ns ms) ≠ [0]
theorem tl_ex {ns ms : List Int} (h1 : HeapI ns) (h2 : HeapI ms) (l : ns.length = ms.length) (ne : ns ≠ ms) : ∃ p, Tl ns ms p := by
  have np : ¬ ns.Perm ms := fun q => ne (by
    have := isort_iff.mpr q
    rw [← h1.s, ← h2.s] at this
    exact this)
  obtain ⟨p, p1, p2, un, lo⟩ := fst_ex l np
  have lo' : ∀ j, 1 ≤ j → j < p → pS (lf ns) ns.length j = pS (lf ms) ms.length j := fun j a b => by
    rw [← psum_pS, ← psum_pS]
    exact lo j a b
  have un' : pS (lf ns) ns.length p ≠ pS (lf ms) ms.length p := fun e => un (by
    rw [← psum_pS, ← psum_pS] at e
    exact e)
  have ep := es_part p1 lo' un'
  have es := es_same (ns := ns) (ms := ms) (n := p - 1) fun j a b => lo' j a (by omega)
  have gl := gp_len l
  have nz : (gpL ns ms).getD (ns.length - p) 0 ≠ 0 := fun e => by
    rw [gp_get l (by omega), show ns.length - (ns.length - p) = p by omega] at e
    rcases Int.mul_eq_zero.mp e with q | q
    · unfold ng at q
      split at q <;> omega
    · exact ep (by omega)
  have hi : ∀ i, ns.length - p < i → (gpL ns ms).getD i 0 = 0 := fun i hi => by
    by_cases z : i ≤ ns.length
    · rw [gp_get l z, es (ns.length - i) (by omega), Int.sub_self, Int.mul_zero]
    · exact gp_out l (by omega)
  refine ⟨p, ⟨p1, un, lo⟩, p2, cut_at (by omega) nz hi, fun e => ?_⟩
  have := cut_get (gpL ns ms) (ns.length - p)
  rw [e] at this
  have e0 : [(0 : Int)].getD (ns.length - p) 0 = 0 := by
    cases ns.length - p <;> rfl
  rw [e0] at this
  exact nz this.symm
@[simp] def S_law_is_pair_right : FS
  | [.tup xs, .tup ys], Q, E => ∃ ns ms : List Int, xs = ns.map D.int ∧ ys = ms.map D.int ∧ HeapI ns ∧ HeapI ms ∧ ns.length = ms.length ∧ Q (.bl true)
  | _, _, _ => False


def m_is_integer : MS := (sRet (mAndV (mCB dIsi (mConsV 0 (mCons (mC (.ty "int")) mNil))) (mNotV (mCB dIsi (mConsV 0 (mCons (mC (.ty "bool")) mNil))))))
abbrev N_is_integer : List Str := ["thing"]
def m_is_within : MS := (sRet (mAndV (mCall S_is_integer (mCons (mVar 0) mNil)) (mChain dLe dLe (mVar 1) (mVar 0) (mVar 2))))
abbrev N_is_within : List Str := ["thing", "low", "high"]
def m_are_items : MS := (sSeq (sIf (mOrT (mNotT (mTru (mCB dIsi (mConsV 0 (mCons (mC (.ty "tuple")) mNil))))) (mNotT (mTest (mChain dLe dLe (mC (.int 1)) (mCB dLen (mConsV 0 mNil)) (mC (.int 40)))))) (sRet (mC (.bl false))) sNx) (sRet (mCB dAll (mCons (mLc (iBor 0) [1] (nSet 1) mYes (mCall S_is_within (mCons (mVar 1) (mCons (mUn dNeg (mC (.int 100000))) (mCons (mC (.int 100000)) mNil))))) mNil))))
abbrev N_are_items : List Str := ["thing", "one"]
def m_is_heap : MS := (sRet (mAndV (mCall S_are_items (mCons (mVar 0) mNil)) (mOp dEq (m2 (mCB dList (mConsV 0 mNil)) (mCB dSort3 (mConsV 0 mNil))))))
abbrev N_is_heap : List Str := ["thing"]
def m_check_heap : MS := (sIf (mNotT (mTru (mCall S_is_heap (mCons (mVar 0) mNil)))) (sRaise "NoHeap") sNx)
abbrev N_check_heap : List Str := ["thing"]
def m_raw_roots : MS := (sSeq (sAsg (mLst (mCons (mC (.int 1)) mNil)) (nSet 1)) (sSeq (sFor (iVar 0) (nSet 2) (sSeq (sAsgF 3 (mOp dAddL (m2 (mLst (mCons (mC (.int 0)) mNil)) (mBor 1)))) (sSeq (sFor (iEn (mCons (mVar 1) mNil)) (nTup (nCons (nSet 4) (nCons (nSet 5) nNil))) (sAugIx 3 (fun i j => i - j) (mVar 4) (mOp dMul (m2v 2 (mBor 5))))) (sAsg (mVar 3) (nSet 1))))) (sRet (mVar 1))))
abbrev N_raw_roots : List Str := ["heap", "found", "number", "longer", "at", "term"]
def m_root_poly : MS := (sSeq (sDrop (mCall S_check_heap (mCons (mVar 0) mNil))) (sRet (mCB dTuple (mCons (mCall S_raw_roots (mCons (mVar 0) mNil)) mNil))))
abbrev N_root_poly : List Str := ["heap"]
def m_check_both : MS := (sSeq (sDrop (mCall S_check_heap (mCons (mVar 0) mNil))) (sDrop (mCall S_check_heap (mCons (mVar 1) mNil))))
abbrev N_check_both : List Str := ["one", "other"]
def m_check_two : MS := (sSeq (sDrop (mCall S_check_both (mCons (mVar 0) (mCons (mVar 1) mNil)))) (sIf (mTest (mOp dNe (m2 (mCB dLen (mConsV 0 mNil)) (mCB dLen (mConsV 1 mNil))))) (sRaise "Unlike") sNx))
abbrev N_check_two : List Str := ["one", "other"]
def m_trimmed : MS := (sSeq (sAsgF 1 (mCB dList (mConsV 0 mNil))) (sSeq (sWhile (mAndT (mTest (mOp dGt (m2 (mCB dLen (mConsV 1 mNil)) (mC (.int 0))))) (mTest (mOp dEq (m2 (mOp dIx (m2v 1 (mUn dNeg (mC (.int 1))))) (mC (.int 0)))))) (sDrop (mPop 1))) (sRet (mCB dTuple (mConsV 1 mNil)))))
abbrev N_trimmed : List Str := ["terms", "found"]
def m_raw_root_gap : MS := (sSeq (sAsg (mCall S_trimmed (mCons (mLc (iZp (mCons (mCall S_raw_roots (mCons (mVar 0) mNil)) (mCons (mCall S_raw_roots (mCons (mVar 1) mNil)) mNil))) [3, 4] (nTup (nCons (nSet 3) (nCons (nSet 4) nNil))) mYes (mOp dSub (m2v 3 (mBor 4)))) mNil)) (nSet 2)) (sRet (mIf (mTest (mOp dGt (m2 (mCB dLen (mConsV 2 mNil)) (mC (.int 0))))) (mVar 2) (mTup (mCons (mC (.int 0)) mNil)))))
abbrev N_raw_root_gap : List Str := ["one", "other", "found", "mine", "its"]
def m_root_gap : MS := (sSeq (sDrop (mCall S_check_two (mCons (mVar 0) (mCons (mVar 1) mNil)))) (sRet (mCall S_raw_root_gap (mCons (mVar 0) (mCons (mVar 1) mNil)))))
abbrev N_root_gap : List Str := ["one", "other"]
def m_gap_degree : MS := (sSeq (sDrop (mCall S_check_two (mCons (mVar 0) (mCons (mVar 1) mNil)))) (sSeq (sAsg (mCall S_raw_root_gap (mCons (mVar 0) (mCons (mVar 1) mNil))) (nSet 2)) (sRet (mIf (mTest (mOp dEq (m2v 2 (mTup (mCons (mC (.int 0)) mNil))))) (mC .non) (mOp dSub (m2 (mCB dLen (mConsV 2 mNil)) (mC (.int 1))))))))
abbrev N_gap_degree : List Str := ["one", "other", "found"]
def m_check_number : MS := (sIf (mNotT (mTru (mCall S_is_within (mCons (mVar 0) (mCons (mVar 1) (mCons (mVar 2) mNil)))))) (sRaise "NoNumber") sNx)
abbrev N_check_number : List Str := ["thing", "low", "high"]
def m_is_poly : MS := (sSeq (sIf (mOrT (mNotT (mTru (mCB dIsi (mConsV 0 (mCons (mC (.ty "tuple")) mNil))))) (mOrT (mNotT (mTest (mChain dLe dLe (mC (.int 2)) (mCB dLen (mConsV 0 mNil)) (mC (.int 41))))) (mNotT (mTru (mCB dAll (mCons (mLc (iBor 0) [1] (nSet 1) mYes (mCall S_is_integer (mCons (mVar 1) mNil))) mNil)))))) (sRet (mC (.bl false))) sNx) (sRet (mAndV (mOp dEq (m2 (mOp dIx (m2v 0 (mUn dNeg (mC (.int 1))))) (mC (.int 1)))) (mCB dAll (mCons (mLc (iBor 0) [1] (nSet 1) mYes (mOp dLt (m2 (mCB dAbs (mConsV 1 mNil)) (mC (.int 1000000000000000000000000000000000000000000000000000000000000))))) mNil)))))
abbrev N_is_poly : List Str := ["thing", "one"]
def m_newton_sums : MS := (sSeq (sIf (mNotT (mTru (mCall S_is_poly (mCons (mVar 0) mNil)))) (sRaise "NoPoly") sNx) (sSeq (sDrop (mCall S_check_number (mCons (mVar 1) (mCons (mC (.int 1)) (mCons (mC (.int 60)) mNil))))) (sSeq (sPar [2, 3] (xSh (mOp dSub (m2 (mCB dLen (mConsV 0 mNil)) (mC (.int 1)))) (xOw (mLst mNil) xNil))) (sSeq (sFor (iR2 (mCons (mC (.int 1)) (mCons (mOp dAdd (m2v 1 (mC (.int 1)))) mNil))) (nSet 4) (sSeq (sAsg (mIf (mTest (mOp dLe (m2v 4 (mBor 2)))) (mOp dMul (m2 (mUn dNeg (mVar 4)) (mOp dIx (m2v 0 (mOp dSub (m2v 2 (mBor 4))))))) (mC (.int 0))) (nSet 5)) (sSeq (sFor (iR2 (mCons (mC (.int 1)) (mCons (mOp dAdd (m2 (mCB dMin2 (mCons (mOp dSub (m2v 4 (mC (.int 1)))) (mConsV 2 mNil))) (mC (.int 1)))) mNil))) (nSet 6) (sAug 5 (fun i j => i - j) (mOp dMul (m2 (mOp dIx (m2v 0 (mOp dSub (m2v 2 (mBor 6))))) (mOp dIx (m2v 3 (mOp dSub (m2 (mOp dSub (m2v 4 (mBor 6))) (mC (.int 1)))))))))) (sDrop (mApp 3 (mVar 5)))))) (sRet (mCB dTuple (mConsV 3 mNil)))))))
abbrev N_newton_sums : List Str := ["poly", "most", "many", "found", "k", "total", "j"]
def m_law_hand : MS := (sSeq (sAsg (mLc (iLst (mSlV dSl 0 mNoP (mPart (mC (.int 63))))) [2] (nSet 2) mYes (mCB dAbs (mCons (mCB dInt (mConsV 2 mNil)) mNil))) (nSet 1)) (sRet (mLst (mCons (mVar 1) (mCons (mC (.int 0)) (mCons (mC (.int 0)) (mCons (mOp dAdd (m2 (mC (.int 2017)) (mOp dMul (m2 (mC (.int 61)) (mCB dLen (mConsV 1 mNil)))))) (mCons (mC (.int 0)) mNil))))))))
abbrev N_law_hand : List Str := ["script", "cells", "cell"]
def m_law_same (S : FS) : MS := (sSeq (sIf (mOrT (mTru (mCB dIsi (mConsV 1 (mCons (mC (.ty "tuple")) mNil)))) (mTru (mCB dIsi (mConsV 1 (mCons (mC (.ty "list")) mNil))))) (sSeq (sIf (mOrT (mTest (mOp dNe (m2 (mCB dIsi (mConsV 0 (mCons (mC (.ty "tuple")) mNil))) (mCB dIsi (mConsV 1 (mCons (mC (.ty "tuple")) mNil)))))) (mTest (mOp dNe (m2 (mCB dIsi (mConsV 0 (mCons (mC (.ty "list")) mNil))) (mCB dIsi (mConsV 1 (mCons (mC (.ty "list")) mNil))))))) (sRet (mC (.bl false))) sNx) (sRet (mAndV (mOp dEq (m2 (mCB dLen (mConsV 0 mNil)) (mCB dLen (mConsV 1 mNil)))) (mCB dAll (mCons (mLc (iZp (mCons (mVar 0) (mCons (mVar 1) mNil))) [2, 3] (nTup (nCons (nSet 2) (nCons (nSet 3) nNil))) mYes (mCall S (mCons (mVar 2) (mCons (mVar 3) mNil)))) mNil))))) sNx) (sSeq (sIf (mOrT (mTest (mOp dNe (m2 (mCB dIsi (mConsV 0 (mCons (mC (.ty "bool")) mNil))) (mCB dIsi (mConsV 1 (mCons (mC (.ty "bool")) mNil)))))) (mTest (mOp dNe (m2 (mOp dIsN (m2v 0 (mC .non))) (mOp dIsN (m2v 1 (mC .non))))))) (sRet (mC (.bl false))) sNx) (sRet (mAndV (mOp dEq (m2 (mCB dIsi (mConsV 0 (mCons (mC (.ty "int")) mNil))) (mCB dIsi (mConsV 1 (mCons (mC (.ty "int")) mNil))))) (mOp dEq (m2v 0 (mBor 1)))))))
abbrev N_law_same : List Str := ["one", "due", "a", "b"]
def m_law_draw : MS := (sSeq (sIf (mAndT (mTest (mOp dEq (m2 (mOp dIx (m2v 0 (mC (.int 2)))) (mC (.int 0))))) (mTest (mOp dLt (m2 (mOp dIx (m2v 0 (mC (.int 1)))) (mCB dLen (mCons (mOp dIx (m2v 0 (mC (.int 0)))) mNil)))))) (sSeq (sAsg (mOp dIx (m2 (mOp dIx (m2v 0 (mC (.int 0)))) (mOp dIx (m2v 0 (mC (.int 1)))))) (nSet 2)) (sSeq (sSetIx 0 (mOp dAdd (m2 (mOp dIx (m2v 0 (mC (.int 1)))) (mC (.int 1)))) (mC (.int 1))) (sSeq (sSetIx 0 (mOp dMod (m2 (mCB dInt (mCons (mOp dAdd (m2 (mOp dAdd (m2 (mOp dMul (m2 (mOp dIx (m2v 0 (mC (.int 3)))) (mC (.int 69621)))) (mOp dMul (m2v 2 (mC (.int 48271)))))) (mC (.int 17)))) mNil)) (mC (.int 2147483629)))) (mC (.int 3))) (sIf (mTest (mOp dGe (m2v 2 (mOp dPow (m2 (mC (.int 10)) (mC (.int 18))))))) (sSetIx 0 (mVar 2) (mC (.int 2))) sNx)))) sNx) (sSeq (sIf (mTest (mOp dGt (m2 (mOp dIx (m2v 0 (mC (.int 2)))) (mC (.int 0))))) (sSeq (sAsg (mOp dMod (m2 (mCB dInt (mCons (mOp dIx (m2v 0 (mC (.int 2)))) mNil)) (mBor 1))) (nSet 3)) (sSeq (sSetIx 0 (mOp dFloor (m2 (mOp dIx (m2v 0 (mC (.int 2)))) (mBor 1))) (mC (.int 2))) (sRet (mVar 3)))) sNx) (sSeq (sSetIx 0 (mOp dAdd (m2 (mOp dIx (m2v 0 (mC (.int 4)))) (mC (.int 1)))) (mC (.int 4))) (sSeq (sAsg (mOp dMod (m2 (mCB dInt (mCons (mOp dMul (m2 (mCB dInt (mCons (mOp dAdd (m2 (mOp dIx (m2v 0 (mC (.int 3)))) (mOp dMul (m2 (mC (.int 7919)) (mOp dIx (m2v 0 (mC (.int 4)))))))) mNil)) (mC (.int 40692)))) mNil)) (mC (.int 2147483647)))) (nSet 4)) (sSeq (sAsg (mOp dMod (m2 (mCB dInt (mCons (mOp dMul (m2v 4 (mOp dAdd (m2 (mOp dFloor (m2v 4 (mC (.int 1009)))) (mC (.int 69621)))))) mNil)) (mC (.int 2147483647)))) (nSet 4)) (sSeq (sAsg (mOp dMod (m2 (mCB dInt (mCons (mOp dMul (m2v 4 (mOp dAdd (m2 (mOp dFloor (m2v 4 (mC (.int 2003)))) (mC (.int 40014)))))) mNil)) (mC (.int 2147483563)))) (nSet 4)) (sRet (mOp dMod (m2 (mCB dInt (mCons (mOp dFloor (m2v 4 (mC (.int 16)))) mNil)) (mBor 1))))))))))
abbrev N_law_draw : List Str := ["hand", "many", "cell", "digit", "number"]
def m_law_any : MS := (sRet (mOp dIx (m2v 1 (mCall S_draw (mCons (mVar 0) (mCons (mCB dLen (mConsV 1 mNil)) mNil))))))
abbrev N_law_any : List Str := ["hand", "some"]
def m_law_drawn : MS := (sSeq (sAsg (mCall S_law_any (mCons (mVar 0) (mCons (mLst (mCons (mC (.int 2)) (mCons (mC (.int 9)) (mCons (mC (.int 30)) (mCons (mC (.int 1000)) mNil))))) mNil))) (nSet 2)) (sRet (mCB dTuple (mCons (mCB dSort3 (mCons (mLc (iR1 (mCons (mOp dAdd (m2 (mC (.int 1)) (mCall S_draw (mCons (mVar 0) (mCons (mVar 1) mNil))))) mNil)) [3] (nSet 3) mYes (mOp dSub (m2 (mCall S_draw (mCons (mVar 0) (mCons (mOp dAdd (m2 (mOp dMul (m2 (mC (.int 2)) (mBor 2))) (mC (.int 1)))) mNil))) (mBor 2)))) mNil)) mNil))))
abbrev N_law_drawn : List Str := ["hand", "most", "wide", "place"]
def m_law_less : MS := (sSeq (sPar [2, 3] (xOw (mCB dList (mConsV 0 mNil)) (xOw (mCB dList (mConsV 1 mNil)) xNil))) (sSeq (sFor (iVar 0) (nSet 4) (sIf (mTest (mOp (dInX false) (m2v 4 (mBor 3)))) (sSeq (sDrop (mRem 2 (mVar 4))) (sDrop (mRem 3 (mVar 4)))) sNx)) (sRet (mTup (mCons (mVar 2) (mCons (mVar 3) mNil))))))
abbrev N_law_less : List Str := ["one", "other", "first", "later", "number_here"]
def m_law_grown : MS := (sSeq (sAsg (mCB dSort3 (mCons (mOp dAdd (m2 (mCB dList (mConsV 0 mNil)) (mLc (iBor 1) [4] (nSet 4) mYes (mOp dAdd (m2v 4 (mBor 2)))))) mNil)) (nSet 3)) (sRet (mCall S_law_less (mCons (mVar 3) (mCons (mCB dSort3 (mCons (mOp dAdd (m2 (mCB dList (mConsV 1 mNil)) (mLc (iBor 0) [4] (nSet 4) mYes (mOp dAdd (m2v 4 (mBor 2)))))) mNil)) mNil)))))
abbrev N_law_grown : List Str := ["one", "other", "by", "first", "number_here"]
def m_law_pair : MS := (sSeq (sAsg (mCall S_law_any (mCons (mVar 0) (mCons (mLst (mCons (mTup (mCons (mLst (mCons (mC (.int 0)) mNil)) (mCons (mLst (mCons (mC (.int 1)) mNil)) mNil))) (mCons (mTup (mCons (mLst (mCons (mC (.int 0)) (mCons (mC (.int 3)) mNil))) (mCons (mLst (mCons (mC (.int 1)) (mCons (mC (.int 2)) mNil))) mNil))) (mCons (mTup (mCons (mLst (mCons (mC (.int 1)) (mCons (mC (.int 5)) (mCons (mC (.int 6)) mNil)))) (mCons (mLst (mCons (mC (.int 2)) (mCons (mC (.int 3)) (mCons (mC (.int 7)) mNil)))) mNil))) (mCons (mTup (mCons (mLst (mCons (mC (.int 0)) (mCons (mC (.int 4)) (mCons (mC (.int 5)) mNil)))) (mCons (mLst (mCons (mC (.int 1)) (mCons (mC (.int 2)) (mCons (mC (.int 6)) mNil)))) mNil))) (mCons (mTup (mCons (mLst (mCons (mC (.int 0)) (mCons (mC (.int 4)) (mCons (mC (.int 7)) (mCons (mC (.int 11)) mNil))))) (mCons (mLst (mCons (mC (.int 1)) (mCons (mC (.int 2)) (mCons (mC (.int 9)) (mCons (mC (.int 10)) mNil))))) mNil))) mNil)))))) mNil))) (nTup (nCons (nSet 1) (nCons (nSet 2) nNil)))) (sSeq (sFor (iR1 (mCons (mCall S_draw (mCons (mVar 0) (mCons (mC (.int 3)) mNil))) mNil)) (nSet 3) (sAsg (mCall S_law_grown (mCons (mVar 1) (mCons (mVar 2) (mCons (mOp dAdd (m2 (mC (.int 1)) (mCall S_draw (mCons (mVar 0) (mCons (mC (.int 9)) mNil))))) mNil)))) (nTup (nCons (nSet 1) (nCons (nSet 2) nNil))))) (sSeq (sAsg (mTup (mCons (mCall S_law_any (mCons (mVar 0) (mCons (mLst (mCons (mC (.int 1)) (mCons (mC (.int 1)) (mCons (mC (.int 2)) (mCons (mUn dNeg (mC (.int 1))) (mCons (mUn dNeg (mC (.int 3))) mNil)))))) mNil))) (mCons (mOp dSub (m2 (mCall S_draw (mCons (mVar 0) (mCons (mC (.int 41)) mNil))) (mC (.int 20)))) mNil))) (nTup (nCons (nSet 4) (nCons (nSet 5) nNil)))) (sSeq (sAsg (mLc (iR1 (mCons (mCall S_draw (mCons (mVar 0) (mCons (mC (.int 3)) mNil))) mNil)) [10] (nSet 10) mYes (mOp dSub (m2 (mCall S_draw (mCons (mVar 0) (mCons (mC (.int 30)) mNil))) (mC (.int 10))))) (nSet 6)) (sSeq (sAsg (mLc (iTpl (mTup (mCons (mVar 1) (mCons (mVar 2) mNil)))) [11] (nSet 11) mYes (mCB dTuple (mCons (mCB dSort3 (mCons (mOp dAdd (m2 (mLc (iBor 11) [12] (nSet 12) mYes (mOp dAdd (m2 (mOp dMul (m2v 4 (mBor 12))) (mBor 5)))) (mBor 6))) mNil)) mNil))) (nSet 7)) (sSeq (sAsg (mCall S_law_drawn (mCons (mVar 0) (mCons (mC (.int 8)) mNil))) (nSet 8)) (sSeq (sAsg (mCB dTuple (mCons (mCB dSort3 (mCons (mOp dAdd (m2 (mSlV dSl 8 (mPart (mC (.int 1))) mNoP) (mTup (mCons (mOp dSub (m2 (mCall S_draw (mCons (mVar 0) (mCons (mC (.int 21)) mNil))) (mC (.int 10)))) mNil)))) mNil)) mNil)) (nSet 9)) (sRet (mCall S_law_any (mCons (mVar 0) (mCons (mOp dAdd (m2 (mOp dMulL (m2 (mLst (mCons (mTup (mCons (mOp dIx (m2v 7 (mC (.int 0)))) (mCons (mOp dIx (m2v 7 (mC (.int 1)))) mNil))) mNil)) (mC (.int 4)))) (mLst (mCons (mTup (mCons (mVar 8) (mCons (mVar 9) mNil))) (mCons (mTup (mCons (mVar 8) (mCons (mVar 8) mNil))) (mCons (mTup (mCons (mOp dIx (m2v 7 (mC (.int 1)))) (mCons (mOp dIx (m2v 7 (mC (.int 0)))) mNil))) mNil)))))) mNil)))))))))))
abbrev N_law_pair : List Str := ["hand", "one", "other", "step", "by", "far", "shared", "pair", "drawn", "spoilt", "place", "row", "number_here"]
def m_raw_power : MS := (sSeq (sAsg (mC (.int 1)) (nSet 2)) (sSeq (sFor (iR1 (mCons (mVar 1) mNil)) (nSet 3) (sAsg (mOp dMul (m2v 2 (mBor 0))) (nSet 2))) (sRet (mVar 2))))
abbrev N_raw_power : List Str := ["number", "times", "found", "turn"]
def m_raw_sum : MS := (sRet (mCB dSum2 (mCons (mLc (iBor 0) [2] (nSet 2) mYes (mCall S_raw_power (mCons (mVar 2) (mCons (mVar 1) mNil)))) mNil)))
abbrev N_raw_sum : List Str := ["heap", "k", "one"]
def m_power_sums : MS := (sSeq (sDrop (mCall S_check_heap (mCons (mVar 0) mNil))) (sSeq (sDrop (mCall S_check_number (mCons (mVar 1) (mCons (mC (.int 1)) (mCons (mC (.int 60)) mNil))))) (sRet (mCB dTuple (mCons (mLc (iR2 (mCons (mC (.int 1)) (mCons (mOp dAdd (m2v 1 (mC (.int 1)))) mNil))) [2] (nSet 2) mYes (mCall S_raw_sum (mCons (mVar 0) (mCons (mVar 2) mNil)))) mNil)))))
abbrev N_power_sums : List Str := ["heap", "most", "k"]
def m_as_heap : MS := (sSeq (sAsg (mCB dTuple (mCons (mCB dSort3 (mConsV 0 mNil)) mNil)) (nSet 1)) (sSeq (sIf (mNotT (mTru (mCall S_are_items (mCons (mVar 1) mNil)))) (sRaise "NoNumbers") sNx) (sRet (mVar 1))))
abbrev N_as_heap : List Str := ["numbers", "found"]
def m_joined : MS := (sSeq (sDrop (mCall S_check_both (mCons (mVar 0) (mCons (mVar 1) mNil)))) (sRet (mCall S_as_heap (mCons (mOp dAdd (m2v 0 (mBor 1))) mNil))))
abbrev N_joined : List Str := ["one", "other"]
def m_law_power : MS := (sSeq (sAsg (mC (.int 1)) (nSet 2)) (sSeq (sFor (iR1 (mCons (mVar 1) mNil)) (nSet 3) (sAsg (mOp dMul (m2v 2 (mBor 0))) (nSet 2))) (sRet (mVar 2))))
abbrev N_law_power : List Str := ["number_here", "k", "found", "step"]
def m_law_sum : MS := (sRet (mCB dSum2 (mCons (mLc (iBor 0) [2] (nSet 2) mYes (mCall S_law_power (mCons (mVar 2) (mCons (mVar 1) mNil)))) mNil)))
abbrev N_law_sum : List Str := ["heap", "k", "one"]
def m_law_roots : MS := (sSeq (sAsg (mLst (mCons (mC (.int 1)) mNil)) (nSet 1)) (sSeq (sFor (iVar 0) (nSet 2) (sAsg (mLc (iZp (mCons (mOp dAdd (m2 (mLst (mCons (mC (.int 0)) mNil)) (mBor 1))) (mCons (mOp dAdd (m2v 1 (mLst (mCons (mC (.int 0)) mNil)))) mNil))) [3, 4] (nTup (nCons (nSet 3) (nCons (nSet 4) nNil))) mYes (mOp dSub (m2v 3 (mOp dMul (m2v 2 (mBor 4)))))) (nSet 1))) (sRet (mVar 1))))
abbrev N_law_roots : List Str := ["heap", "row", "a", "before", "here"]
def m_law_newton : MS := (sSeq (sPar [2, 3] (xSh (mOp dSub (m2 (mCB dLen (mConsV 0 mNil)) (mC (.int 1)))) (xOw (mLst mNil) xNil))) (sSeq (sAsg (mLc (iR1 (mCons (mOp dAdd (m2v 2 (mC (.int 1)))) mNil)) [7] (nSet 7) mYes (mOp dIx (m2v 0 (mOp dSub (m2v 2 (mBor 7)))))) (nSet 4)) (sSeq (sFor (iR2 (mCons (mC (.int 1)) (mCons (mOp dAdd (m2v 1 (mC (.int 1)))) mNil))) (nSet 5) (sSeq (sAsg (mOp dSub (m2 (mC (.int 0)) (mCB dSum2 (mCons (mLc (iR2 (mCons (mC (.int 1)) (mCons (mOp dAdd (m2 (mCB dMin2 (mCons (mOp dSub (m2v 5 (mC (.int 1)))) (mConsV 2 mNil))) (mC (.int 1)))) mNil))) [7] (nSet 7) mYes (mOp dMul (m2 (mOp dIx (m2v 4 (mBor 7))) (mOp dIx (m2v 3 (mOp dSub (m2 (mOp dSub (m2v 5 (mBor 7))) (mC (.int 1))))))))) mNil)))) (nSet 6)) (sDrop (mApp 3 (mIf (mTest (mOp dLe (m2v 5 (mBor 2)))) (mOp dSub (m2v 6 (mOp dMul (m2v 5 (mOp dIx (m2v 4 (mBor 5))))))) (mVar 6)))))) (sRet (mCB dTuple (mConsV 3 mNil))))))
abbrev N_law_newton : List Str := ["terms", "most", "many", "found", "lead", "k", "whole", "j"]
def m_law_is_heap_right : MS := (sSeq (sPar [2, 3] (xSh (mCall S_law_roots (mCons (mVar 1) mNil)) (xSh (mOp dAdd (m2 (mC (.int 1)) (mCall S_draw (mCons (mVar 0) (mCons (mCall S_law_any (mCons (mVar 0) (mCons (mLst (mCons (mC (.int 4)) (mCons (mC (.int 15)) (mCons (mC (.int 60)) mNil)))) mNil))) mNil))))) xNil))) (sSeq (sAsg (mCB dTuple (mCons (mLc (iR2 (mCons (mC (.int 1)) (mCons (mOp dAdd (m2v 3 (mC (.int 1)))) mNil))) [12] (nSet 12) mYes (mCall S_law_sum (mCons (mVar 1) (mCons (mVar 12) mNil)))) mNil)) (nSet 4)) (sSeq (sIf (mOrT (mNotT (mTru (mCall (S_law_same_ 3) (mCons (mLst (mCons (mCall S_root_poly (mCons (mVar 1) mNil)) (mCons (mCall S_newton_sums (mCons (mCB dTuple (mConsV 2 mNil)) (mCons (mVar 3) mNil))) mNil))) (mCons (mLst (mCons (mCB dTuple (mConsV 2 mNil)) (mCons (mVar 4) mNil))) mNil))))) (mTest (mOp dNe (m2 (mCall S_power_sums (mCons (mVar 1) (mCons (mVar 3) mNil))) (mBor 4))))) (sRet (mC (.bl false))) sNx) (sSeq (sAsg (mCB dTuple (mCons (mOp dAdd (m2 (mLc (iR1 (mCons (mOp dAdd (m2 (mC (.int 1)) (mCall S_draw (mCons (mVar 0) (mCons (mC (.int 6)) mNil))))) mNil)) [13] (nSet 13) mYes (mOp dSub (m2 (mCall S_draw (mCons (mVar 0) (mCons (mC (.int 21)) mNil))) (mC (.int 10))))) (mLst (mCons (mC (.int 1)) mNil)))) mNil)) (nSet 5)) (sSeq (sIf (mNotT (mTru (mCall (S_law_same_ 3) (mCons (mCall S_newton_sums (mCons (mVar 5) (mCons (mVar 3) mNil))) (mCons (mCall S_law_newton (mCons (mVar 5) (mCons (mVar 3) mNil))) mNil))))) (sRet (mC (.bl false))) sNx) (sSeq (sAsg (mCall S_law_drawn (mCons (mVar 0) (mCons (mC (.int 4)) mNil))) (nSet 6)) (sSeq (sAsgF 7 (mOp dMulL (m2 (mLst (mCons (mC (.int 0)) mNil)) (mOp dAdd (m2 (mOp dAdd (m2 (mCB dLen (mConsV 1 mNil)) (mCB dLen (mConsV 6 mNil)))) (mC (.int 1))))))) (sSeq (sFor (iEnT (mCons (mCall S_root_poly (mCons (mVar 1) mNil)) mNil)) (nTup (nCons (nSet 8) (nCons (nSet 9) nNil))) (sFor (iEnT (mCons (mCall S_root_poly (mCons (mVar 6) mNil)) mNil)) (nTup (nCons (nSet 10) (nCons (nSet 11) nNil))) (sSetIx 7 (mOp dAdd (m2 (mOp dIx (m2v 7 (mOp dAdd (m2v 8 (mBor 10))))) (mOp dMul (m2v 9 (mBor 11))))) (mOp dAdd (m2v 8 (mBor 10)))))) (sRet (mOp dEq (m2 (mCall S_root_poly (mCons (mCall S_joined (mCons (mVar 1) (mCons (mVar 6) mNil))) mNil)) (mCB dTuple (mConsV 7 mNil)))))))))))))
abbrev N_law_is_heap_right : List Str := ["hand", "heap", "row", "most", "sums", "terms", "other", "product", "at", "a", "to", "b", "k", "place"]
def m_first_unlike : MS := (sSeq (sIf (mTest (mOp dEq (m2v 0 (mBor 1)))) (sRet (mC .non)) sNx) (sSeq (sAsg (mC (.int 1)) (nSet 2)) (sSeq (sWhile (mTest (mOp dEq (m2 (mCall S_raw_sum (mCons (mVar 0) (mCons (mVar 2) mNil))) (mCall S_raw_sum (mCons (mVar 1) (mCons (mVar 2) mNil)))))) (sAug 2 (fun i j => i + j) (mC (.int 1)))) (sRet (mVar 2)))))
abbrev N_first_unlike : List Str := ["one", "other", "power"]
def m_like_far : MS := (sSeq (sDrop (mCall S_check_two (mCons (mVar 0) (mCons (mVar 1) mNil)))) (sSeq (sAsg (mCall S_first_unlike (mCons (mVar 0) (mCons (mVar 1) mNil))) (nSet 2)) (sRet (mIf (mTest (mOp dIsN (m2v 2 (mC .non)))) (mC .non) (mOp dSub (m2v 2 (mC (.int 1))))))))
abbrev N_like_far : List Str := ["one", "other", "power"]
def m_law_is_pair_right : MS := (sSeq (sAsg (mLc (iZp (mCons (mCall S_law_roots (mCons (mVar 0) mNil)) (mCons (mCall S_law_roots (mCons (mVar 1) mNil)) mNil))) [4, 5] (nTup (nCons (nSet 4) (nCons (nSet 5) nNil))) mYes (mOp dSub (m2v 4 (mBor 5)))) (nSet 2)) (sSeq (sWhile (mAndT (mTest (mOp dGt (m2 (mCB dLen (mConsV 2 mNil)) (mC (.int 1))))) (mTest (mOp dEq (m2 (mOp dIx (m2v 2 (mUn dNeg (mC (.int 1))))) (mC (.int 0)))))) (sAsg (mSlV dSl 2 mNoP (mPart (mUn dNeg (mC (.int 1))))) (nSet 2))) (sSeq (sAsg (mIf (mTest (mOp dEq (m2v 0 (mBor 1)))) (mC .non) (mOp dSub (m2 (mCB dLen (mConsV 2 mNil)) (mC (.int 1))))) (nSet 3)) (sSeq (sIf (mNotT (mTru (mCall (S_law_same_ 3) (mCons (mLst (mCons (mCall S_root_gap (mCons (mVar 0) (mCons (mVar 1) mNil))) (mCons (mCall S_gap_degree (mCons (mVar 0) (mCons (mVar 1) mNil))) mNil))) (mCons (mLst (mCons (mCB dTuple (mConsV 2 mNil)) (mCons (mVar 3) mNil))) mNil))))) (sRet (mC (.bl false))) sNx) (sSeq (sIf (mTest (mOp dEq (m2v 0 (mBor 1)))) (sRet (mOp dEq (m2v 2 (mLst (mCons (mC (.int 0)) mNil))))) sNx) (sRet (mCB dAll (mCons (mLc (iR1 (mCons (mCB dLen (mConsV 0 mNil)) mNil)) [6] (nSet 6) mYes (mOp dEq (m2 (mOp dGe (m2 (mCall S_like_far (mCons (mVar 0) (mCons (mVar 1) mNil))) (mBor 6))) (mOp dLe (m2v 3 (mOp dSub (m2 (mOp dSub (m2 (mCB dLen (mConsV 0 mNil)) (mBor 6))) (mC (.int 1))))))))) mNil))))))))
abbrev N_law_is_pair_right : List Str := ["one", "other", "gap_here", "degree", "a", "b", "k"]
def m0_law : MS := (sAsg (mCall S_hand (mCons (mVar 0) mNil)) (nSet 1))
def m_law : MS := (sSeq (sAsg (mLst (mCons (mCall S_root_poly (mCons (mTup (mCons (mC (.int 1)) (mCons (mC (.int 5)) (mCons (mC (.int 6)) mNil)))) mNil)) (mCons (mCall S_root_gap (mCons (mTup (mCons (mC (.int 1)) (mCons (mC (.int 5)) (mCons (mC (.int 6)) mNil)))) (mCons (mTup (mCons (mC (.int 2)) (mCons (mC (.int 3)) (mCons (mC (.int 7)) mNil)))) mNil))) (mCons (mCall S_gap_degree (mCons (mTup (mCons (mC (.int 0)) (mCons (mC (.int 3)) mNil))) (mCons (mTup (mCons (mC (.int 1)) (mCons (mC (.int 2)) mNil))) mNil))) (mCons (mCall S_root_gap (mCons (mTup (mCons (mC (.int 4)) mNil)) (mCons (mTup (mCons (mC (.int 4)) mNil)) mNil))) (mCons (mCall S_gap_degree (mCons (mTup (mCons (mC (.int 4)) mNil)) (mCons (mTup (mCons (mC (.int 4)) mNil)) mNil))) (mCons (mCall S_newton_sums (mCons (mTup (mCons (mUn dNeg (mC (.int 30))) (mCons (mC (.int 41)) (mCons (mUn dNeg (mC (.int 12))) (mCons (mC (.int 1)) mNil))))) (mCons (mC (.int 3)) mNil))) (mCons (mCall S_newton_sums (mCons (mTup (mCons (mC (.int 1)) (mCons (mC (.int 0)) (mCons (mC (.int 1)) mNil)))) (mCons (mC (.int 4)) mNil))) mNil)))))))) (nSet 2)) (sSeq (sIf (mNotT (mTru (mCall (S_law_same_ 3) (mCons (mVar 2) (mCons (mLst (mCons (mTup (mCons (mUn dNeg (mC (.int 30))) (mCons (mC (.int 41)) (mCons (mUn dNeg (mC (.int 12))) (mCons (mC (.int 1)) mNil))))) (mCons (mTup (mCons (mC (.int 12)) mNil)) (mCons (mC (.int 0)) (mCons (mTup (mCons (mC (.int 0)) mNil)) (mCons (mC .non) (mCons (mTup (mCons (mC (.int 12)) (mCons (mC (.int 62)) (mCons (mC (.int 342)) mNil)))) (mCons (mTup (mCons (mC (.int 0)) (mCons (mUn dNeg (mC (.int 2))) (mCons (mC (.int 0)) (mCons (mC (.int 2)) mNil))))) mNil)))))))) mNil))))) (sRet (mC (.bl false))) sNx) (sSeq (sFor (iR1 (mCons (mC (.int 6)) mNil)) (nSet 3) (sSeq (sAsg (mCall S_law_pair (mCons (mVar 1) mNil)) (nTup (nCons (nSet 4) (nCons (nSet 5) nNil)))) (sIf (mOrT (mNotT (mTru (mCall S_law_is_heap_right (mCons (mVar 1) (mCons (mCall S_law_drawn (mCons (mVar 1) (mCons (mC (.int 12)) mNil))) mNil))))) (mNotT (mTru (mCall S_law_is_pair_right (mCons (mVar 4) (mCons (mVar 5) mNil)))))) (sRet (mC (.bl false))) sNx))) (sRet (mC (.bl true))))))
abbrev N_law : List Str := ["script", "hand", "heard", "lap", "one", "other"]
theorem o_is_integer : ∀ ds Q E, S_is_integer ds Q E → m_is_integer (ev0 N_is_integer ds) { nx := fun _ => Q .non, rt := fun d _ => Q d, ex := fun x _ => E x } := by
  intro ds Q E h
  unfold S_is_integer at h
  split at h
  · rename_i d
    obtain ⟨ht, h⟩ := h
    cases d <;> simp_all [m_is_integer, ev0, D.isI, tyNames]
  · exact h.elim
theorem l_is_integer : ∀ ds Q E, S_is_integer ds Q E → ds.length = 1 := by
  intro ds Q E h
  unfold S_is_integer at h
  split at h
  · rfl
  · exact h.elim

theorem o_is_within : ∀ ds Q E, S_is_within ds Q E → m_is_within (ev0 N_is_within ds) { nx := fun _ => Q .non, rt := fun d _ => Q d, ex := fun x _ => E x } := by
  intro ds Q E h
  unfold S_is_within at h
  split at h
  · rename_i d lo hi
    obtain ⟨ht, h⟩ := h
    simp [m_is_within, ev0, ht]
    cases d <;> simp_all [D.isI, D.inR]
    rename_i i
    by_cases z : lo ≤ i
    · simp_all
    · simp_all
      omega
  · exact h.elim
theorem l_is_within : ∀ ds Q E, S_is_within ds Q E → ds.length = 3 := by
  intro ds Q E h
  unfold S_is_within at h
  split at h
  · rfl
  · exact h.elim

theorem o_are_items : ∀ ds Q E, S_are_items ds Q E → m_are_items (ev0 N_are_items ds) { nx := fun _ => Q .non, rt := fun d _ => Q d, ex := fun x _ => E x } := by
  intro ds Q E h
  unfold S_are_items at h
  split at h
  · rename_i d
    obtain ⟨ht, h⟩ := h
    cases d with
    | tup xs =>
      simp [m_are_items, ev0]
      unfold D.items at h
      by_cases h1 : 1 ≤ xs.length
      · by_cases h2 : xs.length ≤ 40
        · rw [if_pos (by omega), if_pos (by omega)]
          refine lc_map (fun x => .bl (x.inR (-100000) 100000)) xs ht.len (fun x hx R hR => ?_) ?_
          · simp [ht.mem x hx]
            exact hR
          · simp [h1, h2] at h ⊢
            exact h
        · rw [if_pos (by omega), if_neg (by omega)]
          simpa [h1, h2] using h
      · rw [if_neg (by omega)]
        simpa [h1] using h
    | _ => first | exact ht.elim | (simp [m_are_items, ev0]; simpa [D.items] using h)
  · exact h.elim
theorem l_are_items : ∀ ds Q E, S_are_items ds Q E → ds.length = 1 := by
  intro ds Q E h
  unfold S_are_items at h
  split at h
  · rfl
  · exact h.elim

theorem o_is_heap : ∀ ds Q E, S_is_heap ds Q E → m_is_heap (ev0 N_is_heap ds) { nx := fun _ => Q .non, rt := fun d _ => Q d, ex := fun x _ => E x } := by
  intro ds Q E h
  unfold S_is_heap at h
  split at h
  · rename_i d
    obtain ⟨ht, h⟩ := h
    simp [m_is_heap, ev0, ht]
    unfold D.heap at h
    cases hi : d.items with
    | false =>
      rw [hi] at h
      simpa using h
    | true =>
      obtain ⟨ns, rfl, _⟩ := items_of hi
      rw [hi] at h
      simp at h ⊢
      refine ⟨Pl_ints, Pl_ints, ?_⟩
      rw [eqv_ints]
      exact h
  · exact h.elim
theorem l_is_heap : ∀ ds Q E, S_is_heap ds Q E → ds.length = 1 := by
  intro ds Q E h
  unfold S_is_heap at h
  split at h
  · rfl
  · exact h.elim

theorem o_check_heap : ∀ ds Q E, S_check_heap ds Q E → m_check_heap (ev0 N_check_heap ds) { nx := fun _ => Q .non, rt := fun d _ => Q d, ex := fun x _ => E x } := by
  intro ds Q E h
  unfold S_check_heap at h
  split at h
  · rename_i d
    obtain ⟨ht, h1, h2⟩ := h
    simp [m_check_heap, ev0, ht]
    cases z : d.heap <;> simp_all
  · exact h.elim
theorem l_check_heap : ∀ ds Q E, S_check_heap ds Q E → ds.length = 1 := by
  intro ds Q E h
  unfold S_check_heap at h
  split at h
  · rfl
  · exact h.elim

theorem o_raw_roots : ∀ ds Q E, S_raw_roots ds Q E → m_raw_roots (ev0 N_raw_roots ds) { nx := fun _ => Q .non, rt := fun d _ => Q d, ex := fun x _ => E x } := by
  intro ds Q E h
  unfold S_raw_roots at h
  split at h
  · rename_i xs
    obtain ⟨ns, rfl, l2, hb, h⟩ := h
    have lb : ∀ k, (lf ns k).natAbs < 2 ^ 20 := fun k => by
      have := lf_bd (ns := ns) (B := 2 ^ 20 - 1) (fun n hn => by have := hb n hn; omega) k
      omega
    simp [m_raw_roots, ev0, -List.map_map]
    refine forL_ix (ns.map D.int) (fun j ρ => ∃ a b c d : Slot, ρ = [some (.tup (ns.map D.int), .sh), some (.lst ((fl0 (rS (lf ns) j) j).map D.int), .sh), a, b, c, d]) (fun ρ hρ => ?_) ?_ _ ⟨none, none, none, none, by simp [fl0, rS, ng, eS]⟩
    · obtain ⟨a, b, c, d, rfl⟩ := hρ
      rw [List.length_map]
      simpa using h
    rintro j x ρ F hj hx ⟨a, b, c, d, rfl⟩ hF
    rw [List.length_map] at hj
    rw [lf_get hj hx]
    obtain ⟨x, hx⟩ : ∃ x, x = lf ns (j + 1) := ⟨_, rfl⟩
    rw [← hx]
    refine seq_cut (fun ρ => ρ = [some (.tup (ns.map D.int), .sh), some (.lst ((fl0 (rS (lf ns) j) j).map D.int), .sh), some (.int x, .sh), some (.lst ((fl0 (fun k => if k = 0 then 0 else rS (lf ns) j (k - 1)) (j + 1)).map D.int), .ow), c, d]) ?_ ?_
    case refine_2 =>
      intro B hB
      simp [-List.map_map]
      rw [fl0_cons]
      refine ⟨by rw [fl0_len]; omega, hB _ rfl⟩
    rintro ρ rfl
    refine seq_cut (fun ρ => ∃ c d : Slot, ρ = [some (.tup (ns.map D.int), .sh), some (.lst ((fl0 (rS (lf ns) j) j).map D.int), .sh), some (.int x, .sh), some (.lst ((fl0 (rS (lf ns) (j + 1)) (j + 1)).map D.int), .ow), c, d]) ?_ ?_
    case refine_2 =>
      intro B hB
      simp [-List.map_map]
      rw [enumD_ix, List.length_map, fl0_len]
      refine forL_ix _ (fun i ρ => ∃ c d : Slot, ρ = [some (.tup (ns.map D.int), .sh), some (.lst ((fl0 (rS (lf ns) j) j).map D.int), .sh), some (.int x, .sh), some (.lst ((fl0 (fun k => (if k = 0 then 0 else rS (lf ns) j (k - 1)) - (if k < i then x * rS (lf ns) j k else 0)) (j + 1)).map D.int), .ow), c, d]) (fun ρ hρ => ?_) ?_ _ ⟨c, d, ?_⟩
      · obtain ⟨c, d, rfl⟩ := hρ
        rw [List.length_map, List.length_range]
        rw [fl0_congr (f := (fun k => (if k = 0 then 0 else rS (lf ns) j (k - 1)) - (if k < j + 1 then x * rS (lf ns) j k else 0))) (g := rS (lf ns) (j + 1)) fun k hk => by
          unfold rS
          by_cases y : k = j + 1
          · subst y
            rw [if_neg (by omega), if_neg (by omega), Nat.sub_self, eS_z, show j - (j + 1 - 1) = 0 by omega, eS_z]
            simp
          · obtain ⟨t, ht⟩ : ∃ t, j - k = t := ⟨_, rfl⟩
            rw [if_pos (show k < j + 1 by omega), show j + 1 - k = t + 1 by omega, ht]
            show _ = ng (t + 1) * (eS (lf ns) j (t + 1) + lf ns (j + 1) * eS (lf ns) j t)
            rw [← hx, ng_s]
            by_cases z : k = 0
            · rw [if_pos z, eS_hi (lf ns) j (t + 1) (by omega)]
              grind
            · rw [if_neg z, show j - (k - 1) = t + 1 by omega, ng_s]
              grind]
        exact hB _ ⟨_, _, rfl⟩
      · rintro i y ρ G hi hy ⟨c, d, rfl⟩ hG
        rw [List.length_map, List.length_range] at hi
        rw [List.getElem?_map, List.getElem?_range hi] at hy
        have gd : ((fl0 (rS (lf ns) j) j).map D.int).getD i .non = .int (rS (lf ns) j i) := by
          rw [List.getD_eq_getElem?_getD, List.getElem?_map, fl0_get (by omega)]
          rfl
        have hy : D.tup [.int (i : Int), ((fl0 (rS (lf ns) j) j).map D.int).getD i .non] = y := Option.some.inj hy
        rw [gd] at hy
        subst hy
        have b1 := lb (j + 1)
        have b2 := eS_bd lb j (j - i)
        have ati : ((fl0 (fun k => (if k = 0 then 0 else rS (lf ns) j (k - 1)) - (if k < i then x * rS (lf ns) j k else 0)) (j + 1)).map D.int)[i]? = some (.int (if i = 0 then 0 else rS (lf ns) j (i - 1))) := by
          rw [List.getElem?_map, fl0_get (by omega), if_neg (show ¬ i < i by omega), Int.sub_zero]
          rfl
        simp [-List.map_map, ati, fl0_len]
        rw [if_pos (by omega)]
        simp [-List.map_map]
        refine ⟨mul_k (k := 20) (l := 21 * j + 1) (by rw [hx]; exact b1) (by unfold rS; rw [ng_abs]; exact b2) (by decide) (by omega) (by omega), ?_⟩
        rw [fl0_set (by omega), fl0_congr (f := fun k => if k = i then (if i = 0 then 0 else rS (lf ns) j (i - 1)) - x * rS (lf ns) j i else (if k = 0 then 0 else rS (lf ns) j (k - 1)) - (if k < i then x * rS (lf ns) j k else 0)) (g := fun k => (if k = 0 then 0 else rS (lf ns) j (k - 1)) - (if k < i + 1 then x * rS (lf ns) j k else 0)) fun k hk => by
          by_cases y : k = i
          · subst y
            rw [if_pos rfl, if_pos (show k < k + 1 by omega)]
          · rw [if_neg y]
            by_cases z : k < i
            · rw [if_pos z, if_pos (show k < i + 1 by omega)]
            · rw [if_neg z, if_neg (show ¬ k < i + 1 by omega)]]
        exact hG _ ⟨_, _, rfl⟩
      · rw [fl0_congr (f := fun k => (if k = 0 then 0 else rS (lf ns) j (k - 1)) - (if k < 0 then x * rS (lf ns) j k else 0)) (g := fun k => if k = 0 then 0 else rS (lf ns) j (k - 1)) fun k hk => by
          rw [if_neg (show ¬ k < 0 by omega), Int.sub_zero]]
    rintro ρ ⟨c, d, rfl⟩
    simp [-List.map_map]
    exact hF _ ⟨_, _, _, _, rfl⟩
  · exact h.elim
theorem l_raw_roots : ∀ ds Q E, S_raw_roots ds Q E → ds.length = 1 := by
  intro ds Q E h
  unfold S_raw_roots at h
  split at h
  · rfl
  · exact h.elim

theorem o_root_poly : ∀ ds Q E, S_root_poly ds Q E → m_root_poly (ev0 N_root_poly ds) { nx := fun _ => Q .non, rt := fun d _ => Q d, ex := fun x _ => E x } := by
  intro ds Q E h
  unfold S_root_poly at h
  split at h
  · rename_i xs
    obtain ⟨ns, rfl, hh, h⟩ := h
    have th : Th 60 (.tup (ns.map D.int)) := Th.ints (by have := hh.l2; omega)
    simp [m_root_poly, ev0, -List.map_map, th, hh.heap]
    exact ⟨ns, rfl, hh.l2, fun n hn => by have := hh.r n hn; omega, h⟩
  · exact h.elim
theorem l_root_poly : ∀ ds Q E, S_root_poly ds Q E → ds.length = 1 := by
  intro ds Q E h
  unfold S_root_poly at h
  split at h
  · rfl
  · exact h.elim

theorem o_check_both : ∀ ds Q E, S_check_both ds Q E → m_check_both (ev0 N_check_both ds) { nx := fun _ => Q .non, rt := fun d _ => Q d, ex := fun x _ => E x } := by
  intro ds Q E h
  unfold S_check_both at h
  split at h
  · rename_i d1 d2
    obtain ⟨ht1, ht2, h1, h2⟩ := h
    simp [m_check_both, ev0, ht1, ht2]
    cases z1 : d1.heap <;> cases z2 : d2.heap <;> simp_all
  · exact h.elim
theorem l_check_both : ∀ ds Q E, S_check_both ds Q E → ds.length = 2 := by
  intro ds Q E h
  unfold S_check_both at h
  split at h
  · rfl
  · exact h.elim

theorem o_check_two : ∀ ds Q E, S_check_two ds Q E → m_check_two (ev0 N_check_two ds) { nx := fun _ => Q .non, rt := fun d _ => Q d, ex := fun x _ => E x } := by
  intro ds Q E h
  unfold S_check_two at h
  split at h
  · rename_i d1 d2
    obtain ⟨ht1, ht2, h1, h2⟩ := h
    simp [m_check_two, ev0, ht1, ht2]
    refine ⟨fun z1 z2 => ?_, fun z => h2 (by cases y1 : d1.heap <;> cases y2 : d2.heap <;> simp_all)⟩
    obtain ⟨ns, rfl, hn⟩ := heap_of z1
    obtain ⟨ms, rfl, hm⟩ := heap_of z2
    obtain ⟨g1, g2⟩ := h1 z1 z2
    simp [D.lenT] at g1 g2 ⊢
    by_cases z : ns.length = ms.length
    · rw [if_pos (by omega)]
      exact g1 z
    · rw [if_neg (by omega)]
      exact g2 z
  · exact h.elim
theorem l_check_two : ∀ ds Q E, S_check_two ds Q E → ds.length = 2 := by
  intro ds Q E h
  unfold S_check_two at h
  split at h
  · rfl
  · exact h.elim

theorem o_trimmed : ∀ ds Q E, S_trimmed ds Q E → m_trimmed (ev0 N_trimmed ds) { nx := fun _ => Q .non, rt := fun d _ => Q d, ex := fun x _ => E x } := by
  intro ds Q E h
  unfold S_trimmed at h
  split at h
  · obtain ⟨ns, rfl, l1, l2, h⟩ := h
    simp [m_trimmed, ev0, -List.map_map]
    refine while_ind (fun v ρ => ∃ zs : List Int, v = zs.length ∧ ((zs = [] ∧ cutL ns = [0]) ∨ (zs ≠ [] ∧ cutL zs = cutL ns)) ∧ ρ = [some (.lst (ns.map D.int), .sh), some (.lst (zs.map D.int), .ow)]) ?_ ns.length _ ⟨ns, rfl, .inr ⟨pos_ne l1, rfl⟩, rfl⟩
    rintro v ρ F ⟨zs, rfl, e, rfl⟩ hF
    rcases e with ⟨rfl, e⟩ | ⟨ne, e⟩
    · rw [if_pos e] at h
      simp
      exact h
    · obtain ⟨ws, z, rfl⟩ : ∃ ws z, zs = ws ++ [z] := ⟨_, _, (List.dropLast_concat_getLast ne).symm⟩
      have eq : (ws ++ [z]).map D.int = ws.map D.int ++ [.int z] := by rw [List.map_append]; rfl
      rw [eq]
      have am : atI (ws.map D.int ++ [D.int z]) (-1) = some (.int z) := by
        unfold atI ixN
        simp
        rw [if_pos (by omega)]
        show (List.map D.int ws ++ [D.int z])[(-1 + ((ws.length : Int) + 1)).toNat]? = _
        rw [show (-1 + ((ws.length : Int) + 1)).toNat = (ws.map D.int).length by simp; omega]
        simp
      simp [-List.map_map, am]
      by_cases hz : z = 0
      · rw [if_pos hz]
        subst hz
        cases ws with
        | nil => exact hF 0 _ (by simp) ⟨[], rfl, .inl ⟨rfl, e.symm⟩, rfl⟩
        | cons y r =>
          rw [cut_0 _ (by simp)] at e
          exact hF _ _ (by simp) ⟨y :: r, rfl, .inr ⟨by simp, e⟩, rfl⟩
      · rw [cut_nz hz] at e
        have n0 : cutL ns ≠ [0] := fun q => by
          rw [q] at e
          cases ws with
          | nil => exact hz (by simpa using e)
          | cons y r => simp at e
        rw [if_neg n0, ← e] at h
        rw [if_neg hz]
        simpa using h
  · exact h.elim
theorem l_trimmed : ∀ ds Q E, S_trimmed ds Q E → ds.length = 1 := by
  intro ds Q E h
  unfold S_trimmed at h
  split at h
  · rfl
  · exact h.elim

theorem o_raw_root_gap : ∀ ds Q E, S_raw_root_gap ds Q E → m_raw_root_gap (ev0 N_raw_root_gap ds) { nx := fun _ => Q .non, rt := fun d _ => Q d, ex := fun x _ => E x } := by
  intro ds Q E h
  unfold S_raw_root_gap at h
  split at h
  · rename_i xs ys
    obtain ⟨ns, ms, rfl, rfl, h1, h2, l, h⟩ := h
    have sm : ∀ {ns : List Int}, HeapI ns → ∀ n ∈ ns, n.natAbs < 2 ^ 20 := fun h n hn => by have := h.r n hn; omega
    have n2 := h1.l2
    have gl := gp_len l
    unfold m_raw_root_gap
    refine seq_cut (fun ρ => ρ = [some (.tup (ns.map D.int), .sh), some (.tup (ms.map D.int), .sh), some (.tup ((if cutL (gpL ns ms) = [0] then [] else cutL (gpL ns ms)).map D.int), .sh), none, none]) ?_ ?_
    case refine_2 =>
      intro B hB
      simp [ev0, -List.map_map]
      refine ⟨ns, rfl, n2, sm h1, ms, rfl, h2.l2, sm h2, ?_⟩
      refine zip_sub l (fun x y R hR => by simp; exact hR) (by omega) ?_
      exact ⟨_, rfl, by omega, by omega, hB _ rfl⟩
    rintro ρ rfl
    by_cases z : cutL (gpL ns ms) = [0]
    · rw [if_pos z]
      rw [z] at h
      simp
      exact h
    · rw [if_neg z]
      have := cut_pos (ns := gpL ns ms) (by omega)
      simp [-List.map_map, this]
      rw [if_pos (by omega)]
      exact h
  · exact h.elim
theorem l_raw_root_gap : ∀ ds Q E, S_raw_root_gap ds Q E → ds.length = 2 := by
  intro ds Q E h
  unfold S_raw_root_gap at h
  split at h
  · rfl
  · exact h.elim

theorem o_root_gap : ∀ ds Q E, S_root_gap ds Q E → m_root_gap (ev0 N_root_gap ds) { nx := fun _ => Q .non, rt := fun d _ => Q d, ex := fun x _ => E x } := by
  intro ds Q E h
  unfold S_root_gap at h
  split at h
  · rename_i xs ys
    obtain ⟨ns, ms, rfl, rfl, h1, h2, l, h⟩ := h
    have t1 : Th 60 (.tup (ns.map D.int)) := Th.ints (by have := h1.l2; omega)
    have t2 : Th 60 (.tup (ms.map D.int)) := Th.ints (by have := h2.l2; omega)
    simp [m_root_gap, ev0, -List.map_map, t1, t2, h1.heap, h2.heap, D.lenT, l]
    exact ⟨ns, rfl, ms, rfl, h1, h2, l, h⟩
  · exact h.elim
theorem l_root_gap : ∀ ds Q E, S_root_gap ds Q E → ds.length = 2 := by
  intro ds Q E h
  unfold S_root_gap at h
  split at h
  · rfl
  · exact h.elim

theorem o_gap_degree : ∀ ds Q E, S_gap_degree ds Q E → m_gap_degree (ev0 N_gap_degree ds) { nx := fun _ => Q .non, rt := fun d _ => Q d, ex := fun x _ => E x } := by
  intro ds Q E h
  unfold S_gap_degree at h
  split at h
  · rename_i xs ys
    obtain ⟨ns, ms, rfl, rfl, h1, h2, l, h⟩ := h
    have t1 : Th 60 (.tup (ns.map D.int)) := Th.ints (by have := h1.l2; omega)
    have t2 : Th 60 (.tup (ms.map D.int)) := Th.ints (by have := h2.l2; omega)
    unfold m_gap_degree
    refine seq_cut (fun ρ => ρ = [some (.tup (ns.map D.int), .sh), some (.tup (ms.map D.int), .sh), none]) ?_ ?_
    case refine_2 =>
      intro B hB
      simp [ev0, -List.map_map, t1, t2, h1.heap, h2.heap, D.lenT, l]
      exact hB _ rfl
    rintro ρ rfl
    refine seq_cut (fun ρ => ρ = [some (.tup (ns.map D.int), .sh), some (.tup (ms.map D.int), .sh), some (.tup ((cutL (gpL ns ms)).map D.int), .sh)]) ?_ ?_
    case refine_2 =>
      intro B hB
      simp [-List.map_map]
      exact ⟨ns, rfl, ms, rfl, h1, h2, l, hB _ rfl⟩
    rintro ρ rfl
    have eq := eqv_tints (as := cutL (gpL ns ms)) (bs := [0])
    have eq : D.eqv (.tup ((cutL (gpL ns ms)).map D.int)) (.tup [.int 0]) = decide (cutL (gpL ns ms) = [0]) := eq
    simp [-List.map_map]
    refine ⟨Pl_tints, Pl_tints (ns := [0]), ?_⟩
    rw [eq]
    by_cases z : cutL (gpL ns ms) = [0]
    · rw [if_pos z] at h
      simp [z]
      exact h
    · rw [if_neg z] at h
      simp [z, -List.map_map]
      exact h
  · exact h.elim
theorem l_gap_degree : ∀ ds Q E, S_gap_degree ds Q E → ds.length = 2 := by
  intro ds Q E h
  unfold S_gap_degree at h
  split at h
  · rfl
  · exact h.elim

theorem o_check_number : ∀ ds Q E, S_check_number ds Q E → m_check_number (ev0 N_check_number ds) { nx := fun _ => Q .non, rt := fun d _ => Q d, ex := fun x _ => E x } := by
  intro ds Q E h
  unfold S_check_number at h
  split at h
  · rename_i d lo hi
    obtain ⟨ht, h1, h2⟩ := h
    simp [m_check_number, ev0, ht]
    cases z : d.inR lo hi <;> simp_all
  · exact h.elim
theorem l_check_number : ∀ ds Q E, S_check_number ds Q E → ds.length = 3 := by
  intro ds Q E h
  unfold S_check_number at h
  split at h
  · rfl
  · exact h.elim

theorem o_is_poly : ∀ ds Q E, S_is_poly ds Q E → m_is_poly (ev0 N_is_poly ds) { nx := fun _ => Q .non, rt := fun d _ => Q d, ex := fun x _ => E x } := by
  intro ds Q E h
  unfold S_is_poly at h
  split at h
  · obtain ⟨ns, rfl, l1, l2, hb, h⟩ := h
    obtain ⟨ks, hks⟩ : ∃ ks, ks = ns ++ [1] := ⟨_, rfl⟩
    have kl : ks.length = ns.length + 1 := by rw [hks]; simp
    have kb : ∀ x ∈ ks, x.natAbs < 1000000000000000000000000000000000000000000000000000000000000 := fun x hx => by
      rw [hks] at hx
      rcases List.mem_append.mp hx with q | q
      · exact hb x q
      · rw [List.mem_singleton.mp q]
        decide
    have am : atI (ks.map D.int) (-1) = some (.int 1) := by
      rw [hks, List.map_append]
      unfold atI ixN
      simp
      rw [if_pos (by omega)]
      show (List.map D.int ns ++ [D.int 1])[(-1 + ((ns.length : Int) + 1)).toNat]? = _
      rw [show (-1 + ((ns.length : Int) + 1)).toNat = (ns.map D.int).length by simp; omega]
      simp
    rw [← hks]
    simp [m_is_poly, ev0, -List.map_map, am]
    rw [if_pos (by omega), if_pos (by omega)]
    refine lc_enc D.int (fun _ => .bl true) ks (by rw [sizeLine_val]; omega) (fun x hx R hR => ?_) ?_
    · simp
      exact hR
    · simp
      refine lc_enc D.int (fun _ => .bl true) ks (by rw [sizeLine_val]; omega) (fun x hx R hR => ?_) ?_
      · have b := kb x hx
        have e : (if x < 0 then -x else x) < 1000000000000000000000000000000000000000000000000000000000000 := by split <;> omega
        simp
        rw [decide_eq_true e]
        exact hR
      · simp
        rw [show (ks.all fun _ => true) = true by simp]
        exact h
  · exact h.elim
theorem l_is_poly : ∀ ds Q E, S_is_poly ds Q E → ds.length = 1 := by
  intro ds Q E h
  unfold S_is_poly at h
  split at h
  · rfl
  · exact h.elim

theorem o_newton_sums : ∀ ds Q E, S_newton_sums ds Q E → m_newton_sums (ev0 N_newton_sums ds) { nx := fun _ => Q .non, rt := fun d _ => Q d, ex := fun x _ => E x } := by
  intro ds Q E h
  unfold S_newton_sums at h
  split at h
  · rename_i xs K
    obtain ⟨ns, rfl, l1, l2, hb, k0, k1, hs, h⟩ := h
    obtain ⟨K, rfl⟩ : ∃ m : Nat, K = (m : Int) := ⟨K.toNat, by omega⟩
    rw [Int.toNat_natCast] at h hs
    obtain ⟨n, hn⟩ : ∃ n, n = ns.length := ⟨_, rfl⟩
    rw [← hn] at h hs
    have cat : ∀ j : Nat, j ≤ n → atI ((ns ++ [1]).map D.int) ((n : Int) - (j : Int)) = some (.int (ldF ns j)) := fun j hj => by
      rw [show (n : Int) - (j : Int) = ((n - j : Nat) : Int) by omega, atI_nat, List.getElem?_map]
      have lt : n - j < (ns ++ [1]).length := by simp; omega
      unfold ldF
      rw [← hn, gd_in lt, List.getElem?_eq_getElem lt]
      rfl
    have big : ∀ (j : Nat) (prev : List Int), 1 ≤ j → j ≤ n → (∀ v ∈ prev, v ∈ nwL (ldF ns) n K) → ∀ v ∈ prev, MulOk (ldF ns j) v := fun j prev j1 j2 hp v hv => by
      have lt : n - j < ns.length := by omega
      have m : ldF ns j ∈ ns := by
        unfold ldF
        rw [← hn, List.getD_eq_getElem?_getD, List.getElem?_append_left lt, List.getElem?_eq_getElem lt]
        exact List.getElem_mem lt
      rcases hs with q | q
      · have := q _ m
        exact mul_small (.inl ⟨by omega, by omega⟩)
      · have a := hb _ m
        have b := q v (hp v hv)
        exact mul_k (k := 200) (l := 5000) (by omega) b (by decide) (by decide) (by decide)
    unfold m_newton_sums
    refine seq_cut (fun ρ => ρ = [some (.tup ((ns ++ [1]).map D.int), .sh), some (.int (K : Int), .sh), none, none, none, none, none]) ?_ ?_
    case refine_2 =>
      intro B hB
      simp [ev0, -List.map_map, -List.map_append]
      exact ⟨ns, rfl, l1, l2, hb, hB _ rfl⟩
    rintro ρ rfl
    refine seq_cut (fun ρ => ρ = [some (.tup ((ns ++ [1]).map D.int), .sh), some (.int (K : Int), .sh), none, none, none, none, none]) ?_ ?_
    case refine_2 =>
      intro B hB
      simp [-List.map_map, -List.map_append]
      exact ⟨fun _ _ => hB _ rfl, fun q => absurd (q (by omega)) (by omega)⟩
    rintro ρ rfl
    refine seq_cut (fun ρ => ρ = [some (.tup ((ns ++ [1]).map D.int), .sh), some (.int (K : Int), .sh), some (.int (n : Int), .sh), some (.lst [], .ow), none, none, none]) ?_ ?_
    case refine_2 =>
      intro B hB
      simp [-List.map_map, -List.map_append, putAll]
      exact hB _ (by rw [hn])
    rintro ρ rfl
    simp [-List.map_map, -List.map_append]
    refine ⟨by omega, ?_⟩
    refine forL_range 1 K (fun k ρ => ∃ a b c : Slot, ρ = [some (.tup ((ns ++ [1]).map D.int), .sh), some (.int (K : Int), .sh), some (.int (n : Int), .sh), some (.lst ((nwL (ldF ns) n k).map D.int), .ow), a, b, c]) (fun ρ hρ => ?_) ?_ _ ⟨none, none, none, rfl⟩
    · obtain ⟨a, b, c, rfl⟩ := hρ
      simp [-List.map_map]
      exact h
    rintro k ρ F hk ⟨a, b, c, rfl⟩ hF
    obtain ⟨prev, hprev⟩ : ∃ prev, prev = nwL (ldF ns) n k := ⟨_, rfl⟩
    have pl : prev.length = k := by rw [hprev, nw_len]
    rw [← hprev]
    have pm : ∀ v ∈ prev, v ∈ nwL (ldF ns) n K := fun v hv => by
      have up : ∀ t, v ∈ nwL (ldF ns) n (k + t) := fun t => by
        induction t with
        | zero => rw [hprev] at hv; exact hv
        | succ t ih => exact List.mem_append_left _ ih
      have := up (K - k)
      rwa [show k + (K - k) = K by omega] at this
    show sSeq _ _ [some (.tup ((ns ++ [1]).map D.int), .sh), some (.int (K : Int), .sh), some (.int (n : Int), .sh), some (.lst (prev.map D.int), .ow), some (.int (1 + (k : Int)), .sh), b, c] _
    obtain ⟨I0, hI0⟩ : ∃ I0 : Int, I0 = if k + 1 ≤ n then -((k + 1 : Nat) : Int) * ldF ns (k + 1) else 0 := ⟨_, rfl⟩
    refine seq_cut (fun ρ => ρ = [some (.tup ((ns ++ [1]).map D.int), .sh), some (.int (K : Int), .sh), some (.int (n : Int), .sh), some (.lst (prev.map D.int), .ow), some (.int (1 + (k : Int)), .sh), some (.int I0, .sh), c]) ?_ ?_
    case refine_2 =>
      intro B hB
      by_cases z : k + 1 ≤ n
      · have c1 : atI ((ns ++ [1]).map D.int) ((n : Int) - (1 + (k : Int))) = some (.int (ldF ns (k + 1))) := by
          have := cat (k + 1) z
          rwa [show ((k + 1 : Nat) : Int) = 1 + (k : Int) by omega] at this
        rw [if_pos z] at hI0
        simp [-List.map_map, -List.map_append]
        rw [if_pos (by omega), c1]
        refine ⟨mul_small (.inl ⟨by omega, by omega⟩), hB _ ?_⟩
        rw [hI0, show ((k + 1 : Nat) : Int) = 1 + (k : Int) by omega]
      · rw [if_neg z] at hI0
        simp [-List.map_map, -List.map_append]
        rw [if_neg (by omega)]
        exact hB _ (by rw [hI0])
    rintro ρ rfl
    obtain ⟨m, hm⟩ : ∃ m, m = min k n := ⟨_, rfl⟩
    refine seq_cut (fun ρ => ∃ c : Slot, ρ = [some (.tup ((ns ++ [1]).map D.int), .sh), some (.int (K : Int), .sh), some (.int (n : Int), .sh), some (.lst (prev.map D.int), .ow), some (.int (1 + (k : Int)), .sh), some (.int (I0 - nwT (ldF ns) n (k + 1) prev m), .sh), c]) ?_ ?_
    case refine_2 =>
      intro B hB
      have em : (if (n : Int) < 1 + (k : Int) - 1 then (n : Int) else 1 + (k : Int) - 1) = (m : Int) := by split <;> omega
      simp [-List.map_map, -List.map_append]
      rw [em, Int.toNat_natCast]
      refine ⟨⟨by omega, by omega⟩, ?_⟩
      refine forL_range 1 m (fun t ρ => ∃ c : Slot, ρ = [some (.tup ((ns ++ [1]).map D.int), .sh), some (.int (K : Int), .sh), some (.int (n : Int), .sh), some (.lst (prev.map D.int), .ow), some (.int (1 + (k : Int)), .sh), some (.int (I0 - nwT (ldF ns) n (k + 1) prev t), .sh), c]) (fun ρ hρ => ?_) ?_ _ ⟨c, by unfold nwT; simp⟩
      · obtain ⟨c, rfl⟩ := hρ
        exact hB _ ⟨c, rfl⟩
      · rintro t ρ G ht ⟨c, rfl⟩ hG
        have c1 : atI ((ns ++ [1]).map D.int) ((n : Int) - (1 + (t : Int))) = some (.int (ldF ns (t + 1))) := by
          have := cat (t + 1) (by omega)
          rwa [show ((t + 1 : Nat) : Int) = 1 + (t : Int) by omega] at this
        have lt : k - t - 1 < prev.length := by omega
        have c2 : atI (prev.map D.int) (1 + (k : Int) - (1 + (t : Int)) - 1) = some (.int (prev[k - t - 1])) := by
          rw [show 1 + (k : Int) - (1 + (t : Int)) - 1 = ((k - t - 1 : Nat) : Int) by omega, atI_nat, List.getElem?_map, List.getElem?_eq_getElem lt]
          rfl
        have mo := big (t + 1) prev (by omega) (by omega) pm _ (List.getElem_mem lt)
        simp [-List.map_map, -List.map_append, c1, c2, mo]
        refine hG _ ⟨some (.int (1 + (t : Int)), .sh), ?_⟩
        rw [nwT_s, show k + 1 - (t + 1) - 1 = k - t - 1 by omega, gd_in lt, Int.sub_sub]
    rintro ρ ⟨c, rfl⟩
    have fin : prev.map D.int ++ [D.int (I0 - nwT (ldF ns) n (k + 1) prev m)] = (nwL (ldF ns) n (k + 1)).map D.int := by
      rw [nwL, ← hprev, List.map_append, hI0, hm]
      rfl
    simp [-List.map_map, -List.map_append]
    refine ⟨by omega, ?_⟩
    rw [fin]
    exact hF _ ⟨_, _, _, rfl⟩
  · exact h.elim
theorem l_newton_sums : ∀ ds Q E, S_newton_sums ds Q E → ds.length = 2 := by
  intro ds Q E h
  unfold S_newton_sums at h
  split at h
  · rfl
  · exact h.elim

theorem o_law_hand : ∀ ds Q E, S_hand ds Q E → m_law_hand (ev0 N_law_hand ds) { nx := fun _ => Q .non, rt := fun d _ => Q d, ex := fun x _ => E x } := by
  rintro ds Q E ⟨ns, rfl, hl, h⟩
  have ms : ∀ (i j : Int), -(2 ^ 64) < i → i < 2 ^ 64 → MulOk i j := fun i j a b => mul_small (.inl ⟨a, b⟩)
  simp [m_law_hand, ev0]
  rw [cutG_map]
  have hlen := @cutG_len _ ns none (some 63)
  generalize cutG ns none (some 63) = xs at hlen
  refine lc_map (fun d => match d with
    | .int i => .int (absI i)
    | d => d) _ (by rw [List.length_map, sizeLine_val]; omega) (fun x hx R hR => ?_) ?_
  · obtain ⟨i, hi, rfl⟩ := List.mem_map.mp hx
    simp [absI] at hR ⊢
    first
    | exact hR
    | exact ⟨by unfold CPow; decide, hR⟩
  · have e : (xs.map D.int).map (fun d => match d with
      | .int i => .int (absI i)
      | d => d) = (xs.map absI).map D.int := by rw [List.map_map, List.map_map]; rfl
    rw [e]
    simp only [List.length_map]
    refine ⟨ms _ _ (by decide) (by decide), h _ _ _ _ _ ⟨fun z hz => ?_, by rw [List.length_map]; omega, by omega, by omega, by omega, by omega, by omega⟩⟩
    obtain ⟨i, _, rfl⟩ := List.mem_map.mp hz
    exact absI_nn i
theorem l_law_hand : ∀ ds Q E, S_hand ds Q E → ds.length = 1 := by
  rintro ds Q E ⟨ns, rfl, _⟩; rfl

theorem zipD_self (xs : List D) : zipD xs xs = xs.map fun x => .tup [x, x] := by
  unfold zipD
  induction xs with
  | nil => rfl
  | cons x xs ih => simp [ih]
theorem o_law_same (n : Nat) : ∀ ds Q E, S_law_same_ (n + 1) ds Q E → m_law_same (S_law_same_ n) (ev0 N_law_same ds) { nx := fun _ => Q .non, rt := fun d _ => Q d, ex := fun x _ => E x } := by
  intro ds Q E h
  unfold S_law_same_ at h
  split at h
  · rename_i d e
    obtain ⟨rfl, hs, h⟩ := h
    have seq : ∀ xs : List D, (∀ x ∈ xs, Si n x) → xs.length ≤ 16777216 → ∀ (k : List D → Prop) (ρ : Ev), k ((zipD xs xs).map fun _ => .bl true) → (∃ s t, ρ = [s, t, none, none]) →
        lcGo (nTup (nCons (nSet 2) (nCons (nSet 3) nNil))) mYes (mCall (S_law_same_ n) (mCons (mVar 2) (mCons (mVar 3) mNil))) (zipD xs xs) [] ρ k := fun xs hx hl k ρ hk hρ => by
      obtain ⟨s, t, rfl⟩ := hρ
      refine lc_map (fun _ => .bl true) (zipD xs xs) (by rw [zipD_self, List.length_map, sizeLine_val]; exact hl) (fun x hx2 R hR => ?_) hk
      rw [zipD_self] at hx2
      obtain ⟨y, hy, rfl⟩ := List.mem_map.mp hx2
      simp
      exact ⟨hx y hy, hR⟩
    have al : ∀ xs : List D, (D.bls ((zipD xs xs).map fun _ => .bl true)) = some (xs.map fun _ => true) := fun xs => by
      rw [zipD_self, List.map_map]
      exact (congrArg D.bls (by rw [List.map_map]; rfl)).trans (bls_map (xs.map fun _ => true))
    cases d with
    | non => simp [m_law_same, ev0]; exact h
    | bl b => simp [m_law_same, ev0]; exact h
    | int i => simp [m_law_same, ev0]; exact h
    | str s => simp [m_law_same, ev0]; exact h
    | tup xs =>
      obtain ⟨hl, hx⟩ := hs
      simp [m_law_same, ev0]
      refine seq xs hx hl _ _ ?_ ⟨_, _, rfl⟩
      rw [al]
      simp
      rw [show (xs.all fun _ => true) = true by simp]
      exact h
    | lst xs =>
      obtain ⟨hl, hx⟩ := hs
      simp [m_law_same, ev0]
      refine seq xs hx hl _ _ ?_ ⟨_, _, rfl⟩
      rw [al]
      simp
      rw [show (xs.all fun _ => true) = true by simp]
      exact h
    | _ => exact hs.elim
  · exact h.elim
theorem l_law_same (n : Nat) : ∀ ds Q E, S_law_same_ n ds Q E → ds.length = 2 := by
  intro ds Q E h
  unfold S_law_same_ at h
  split at h
  · rfl
  · exact h.elim
theorem n_law_same : ∀ ds Q E, S_law_same_ 0 ds Q E → False := by
  intro ds Q E h
  unfold S_law_same_ at h
  split at h
  · exact h.2.1
  · exact h

theorem o_law_draw : ∀ cells p r x n z, HdC cells p r x n → 0 < z → z < 2 ^ 200 → m_law_draw (some (hdD cells p r x n, .ow) :: some (.int z, .sh) :: List.replicate (N_law_draw.length - 2) none)
    { nx := fun _ => False, rt := fun d ρ => ∃ y cells p r x n, d = .int y ∧ 0 ≤ y ∧ y < z ∧ HdC cells p r x n ∧ ρ.get 0 = some (hdD cells p r x n, .ow), ex := fun _ _ => False } := by
  intro cells p r x n z hc z0 z1
  have dz : ∀ i, CDivW i z := fun i => div_small z0 z1
  have ms : ∀ (i j : Int), -(2 ^ 64) < j → j < 2 ^ 64 → MulOk i j := fun i j a b => mul_small (.inr ⟨a, b⟩)
  have zr : ∀ i : Int, 0 ≤ i % z ∧ i % z < z := fun i => ⟨Int.emod_nonneg _ (by omega), Int.emod_lt_of_pos _ z0⟩
  unfold m_law_draw
  refine seq_cut (fun ρ => ∃ cells p r x n s, ρ = [some (hdD cells p r x n, .ow), some (.int z, .sh), s, none, none] ∧ HdC cells p r x n) ?_ ?_
  · rintro ρ ⟨cells, p, r, x, n, s, rfl, hc⟩
    have h0 := hc.x0
    have h1 := hc.x1
    have h2 := hc.n0
    refine seq_cut (fun ρ => ρ = [some (hdD cells p r x n, .ow), some (.int z, .sh), s, none, none]) ?_ ?_
    · rintro ρ rfl
      simp
      refine ⟨mul_small (.inl (by decide)), ms _ _ (by decide) (by decide), div_small (by decide) (by decide), ms _ _ (by omega) (by omega), div_small (by decide) (by decide), ms _ _ (by omega) (by omega), div_small (by decide) (by decide), z0, (zr _).1, (zr _).2, cells, p, r, x, n + 1, ⟨hc.nn, hc.len, hc.p0, hc.r0, hc.x0, hc.x1, by omega⟩, rfl, rfl, rfl, rfl, rfl⟩
    · intro B hB
      simp
      by_cases hr : 0 < r
      · rw [if_pos hr]
        exact ⟨z0, dz _, (zr _).1, (zr _).2, cells, p, r / z, x, n, ⟨hc.nn, hc.len, hc.p0, Int.ediv_nonneg (by omega) (by omega), hc.x0, hc.x1, hc.n0⟩, rfl, rfl, rfl, rfl, rfl⟩
      · rw [if_neg hr]
        exact hB _ rfl
  · intro B hB
    simp
    by_cases hr : r = 0
    · rw [if_pos hr]
      by_cases hp : p < cells.length
      · rw [if_pos hp]
        have hp0 := hc.p0
        have e : atI (cells.map D.int) p = some (.int (cells[p.toNat]'(by omega))) := by rw [atI_at hp0 (by rw [List.length_map]; exact hp), List.getElem_map]
        have hcell : 0 ≤ cells[p.toNat]'(by omega) := hc.nn _ (List.getElem_mem _)
        rw [e]
        generalize cells[p.toNat]'(by omega) = cl at hcell
        simp
        have pw : CPow 10 18 := by unfold CPow; decide
        have hx : ∀ y : Int, 0 ≤ y % 2147483629 ∧ y % 2147483629 < 2147483648 := fun y => by omega
        have q1 : ∀ k, HdC cells (p + 1) r (k % 2147483629) n := fun k => ⟨hc.nn, hc.len, by omega, hc.r0, (hx k).1, (hx k).2, hc.n0⟩
        have q2 : ∀ k, HdC cells (p + 1) cl (k % 2147483629) n := fun k => ⟨hc.nn, hc.len, by omega, hcell, (hx k).1, (hx k).2, hc.n0⟩
        by_cases hg : 1000000000000000000 ≤ cl
        · simp only [if_pos hg]
          simp [ms, pw]
          exact hB _ ⟨_, _, _, _, _, _, rfl, q2 _⟩
        · simp only [if_neg hg]
          simp [ms, pw]
          exact hB _ ⟨_, _, _, _, _, _, rfl, q1 _⟩
      · rw [if_neg hp]
        exact hB _ ⟨_, _, _, _, _, _, rfl, hc⟩
    · rw [if_neg hr]
      exact hB _ ⟨_, _, _, _, _, _, rfl, hc⟩

theorem o_law_any : ∀ ds Q E, S_law_any ds Q E → m_law_any (ev0 N_law_any ds) { nx := fun _ => Q .non, rt := fun d _ => Q d, ex := fun x _ => E x } := by
  intro ds Q E h
  unfold S_law_any at h
  split at h
  · rename_i xs
    obtain ⟨h0, h1, h⟩ := h
    simp [m_law_any, ev0, S_draw]
    refine ⟨by omega, by omega, fun r r0 r1 => ?_⟩
    rw [atI_at r0 r1]
    exact h _ (List.getElem_mem _)
  · exact h.elim
theorem l_law_any : ∀ ds Q E, S_law_any ds Q E → ds.length = 2 := by
  intro ds Q E h
  unfold S_law_any at h
  split at h
  · rfl
  · exact h.elim

theorem o_law_drawn : ∀ ds Q E, S_law_drawn ds Q E → m_law_drawn (ev0 N_law_drawn ds) { nx := fun _ => Q .non, rt := fun d _ => Q d, ex := fun x _ => E x } := by
  intro ds Q E h
  unfold S_law_drawn at h
  split at h
  · rename_i most
    obtain ⟨m0, m1, h⟩ := h
    unfold m_law_drawn
    refine seq_cut (fun ρ => ∃ w : Int, 0 ≤ w ∧ w ≤ 1000 ∧ ρ = [some (.ob 0, .sh), some (.int most, .sh), some (.int w, .sh), none]) ?_ ?_
    case refine_2 =>
      intro B hB
      simp [ev0]
      exact ⟨hB _ ⟨2, by decide, by decide, rfl⟩, hB _ ⟨9, by decide, by decide, rfl⟩, hB _ ⟨30, by decide, by decide, rfl⟩, hB _ ⟨1000, by decide, by decide, rfl⟩⟩
    rintro ρ ⟨w, w0, w1, rfl⟩
    simp [S_draw]
    refine ⟨by omega, by omega, fun r r0 r1 => ⟨by omega, ?_⟩⟩
    refine lc_all (rangeL 0 (1 + r).toNat) (fun d => ∃ n : Int, d = .int n ∧ n.natAbs ≤ 1000) (by rw [rangeL_length, sizeLine_val]; omega) (fun x hx R hR => ?_) (fun ys hl hy => ?_)
    · simp [S_draw]
      exact ⟨mul_small (.inl ⟨by decide, by decide⟩), by omega, by omega, fun q q0 q1 => hR _ ⟨q - w, rfl, by omega⟩⟩
    · obtain ⟨ks, rfl, hk⟩ := ints_ex hy
      rw [rangeL_length, List.length_map] at hl
      simp [-List.map_map]
      exact h (isort ks) (by rw [isort_len]; omega) (by rw [isort_len]; omega) (fun x hx => hk x ((isort_perm ks).mem_iff.mp hx)) (isort_idem ks).symm
  · exact h.elim
theorem l_law_drawn : ∀ ds Q E, S_law_drawn ds Q E → ds.length = 2 := by
  intro ds Q E h
  unfold S_law_drawn at h
  split at h
  · rfl
  · exact h.elim

theorem o_law_less : ∀ ds Q E, S_law_less ds Q E → m_law_less (ev0 N_law_less ds) { nx := fun _ => Q .non, rt := fun d _ => Q d, ex := fun x _ => E x } := by
  intro ds Q E h
  unfold S_law_less at h
  split at h
  · rename_i xs ys
    obtain ⟨ns, ms, rfl, rfl, n1, m1, h⟩ := h
    simp [m_law_less, ev0, -List.map_map, putAll]
    have fin : ∀ (d0 d1 : D) (Q : D → Prop), Q (.tup [.lst ((lsF ns (ns, ms)).1.map D.int), .lst ((lsF ns (ns, ms)).2.map D.int)]) → ∀ (t : Nat) (ρ : Ev), (t ≤ ns.length ∧ ∃ (p : List Int × List Int) (b : Slot), Ls ns ms (ns.drop t) p ∧ lsF (ns.drop t) p = lsF ns (ns, ms) ∧ ρ = [some (d0, .sh), some (d1, .sh), some (.lst (p.1.map D.int), .ow), some (.lst (p.2.map D.int), .ow), b]) → t = ns.length → ∃ (p : List Int × List Int) (b : Slot), p = lsF ns (ns, ms) ∧ ρ = [some (d0, .sh), some (d1, .sh), some (.lst (p.1.map D.int), .ow), some (.lst (p.2.map D.int), .ow), b] := fun d0 d1 Q q t ρ hρ ht => by
      obtain ⟨_, p, b, _, e, rfl⟩ := hρ
      rw [ht, List.drop_length] at e
      exact ⟨p, b, e, rfl⟩
    refine forL_ix (ns.map D.int) (fun t ρ => t ≤ ns.length ∧ ∃ (p : List Int × List Int) (b : Slot), Ls ns ms (ns.drop t) p ∧ lsF (ns.drop t) p = lsF ns (ns, ms) ∧ ρ = [_, _, some (.lst (p.1.map D.int), .ow), some (.lst (p.2.map D.int), .ow), b]) (fun ρ hρ => ?_) ?_ _ ⟨Nat.zero_le _, (ns, ms), none, ls_0 ns ms, rfl, rfl⟩
    · obtain ⟨p, b, e, rfl⟩ := fin _ _ Q h _ ρ hρ (List.length_map _)
      simp [-List.map_map]
      rw [e]
      exact h
    · rintro t y ρ G ht hy ⟨_, p, b, hls, e, rfl⟩ hG
      rw [List.length_map] at ht
      obtain ⟨x, hx⟩ : ∃ x, x = ns[t] := ⟨_, rfl⟩
      have hd : ns.drop t = x :: ns.drop (t + 1) := by rw [hx]; exact List.drop_eq_getElem_cons ht
      rw [List.getElem?_map, List.getElem?_eq_getElem ht, ← hx] at hy
      obtain rfl : D.int x = y := Option.some.inj hy
      rw [hd] at hls e
      have st := hls.step
      have pl : Pl 60 (.lst (p.2.map D.int)) := Pl_ints
      simp [-List.map_map, dInL]
      refine ⟨pl, ?_⟩
      rw [show lsF (x :: ns.drop (t + 1)) p = if x ∈ p.2 then lsF (ns.drop (t + 1)) (p.1.erase x, p.2.erase x) else lsF (ns.drop (t + 1)) p from rfl] at e
      by_cases z : x ∈ p.2
      · rw [if_pos z] at e ⊢
        obtain ⟨zf, st⟩ := st.1 z
        obtain ⟨j, a1, a2, a3⟩ := rem_ex zf
        obtain ⟨j2, b1, b2, b3⟩ := rem_ex z
        refine ⟨j, a1, a2, j2, b1, b2, ?_⟩
        rw [a3, b3]
        exact hG _ ⟨ht, (p.1.erase x, p.2.erase x), _, st, e, rfl⟩
      · rw [if_neg z] at e ⊢
        exact hG _ ⟨ht, p, _, st.2 z, e, rfl⟩
  · rename_i xs ys
    obtain ⟨ns, ms, rfl, rfl, n1, m1, h⟩ := h
    simp [m_law_less, ev0, -List.map_map, putAll]
    have fin : ∀ (d0 d1 : D) (Q : D → Prop), Q (.tup [.lst ((lsF ns (ns, ms)).1.map D.int), .lst ((lsF ns (ns, ms)).2.map D.int)]) → ∀ (t : Nat) (ρ : Ev), (t ≤ ns.length ∧ ∃ (p : List Int × List Int) (b : Slot), Ls ns ms (ns.drop t) p ∧ lsF (ns.drop t) p = lsF ns (ns, ms) ∧ ρ = [some (d0, .sh), some (d1, .sh), some (.lst (p.1.map D.int), .ow), some (.lst (p.2.map D.int), .ow), b]) → t = ns.length → ∃ (p : List Int × List Int) (b : Slot), p = lsF ns (ns, ms) ∧ ρ = [some (d0, .sh), some (d1, .sh), some (.lst (p.1.map D.int), .ow), some (.lst (p.2.map D.int), .ow), b] := fun d0 d1 Q q t ρ hρ ht => by
      obtain ⟨_, p, b, _, e, rfl⟩ := hρ
      rw [ht, List.drop_length] at e
      exact ⟨p, b, e, rfl⟩
    refine forL_ix (ns.map D.int) (fun t ρ => t ≤ ns.length ∧ ∃ (p : List Int × List Int) (b : Slot), Ls ns ms (ns.drop t) p ∧ lsF (ns.drop t) p = lsF ns (ns, ms) ∧ ρ = [_, _, some (.lst (p.1.map D.int), .ow), some (.lst (p.2.map D.int), .ow), b]) (fun ρ hρ => ?_) ?_ _ ⟨Nat.zero_le _, (ns, ms), none, ls_0 ns ms, rfl, rfl⟩
    · obtain ⟨p, b, e, rfl⟩ := fin _ _ Q h _ ρ hρ (List.length_map _)
      simp [-List.map_map]
      rw [e]
      exact h
    · rintro t y ρ G ht hy ⟨_, p, b, hls, e, rfl⟩ hG
      rw [List.length_map] at ht
      obtain ⟨x, hx⟩ : ∃ x, x = ns[t] := ⟨_, rfl⟩
      have hd : ns.drop t = x :: ns.drop (t + 1) := by rw [hx]; exact List.drop_eq_getElem_cons ht
      rw [List.getElem?_map, List.getElem?_eq_getElem ht, ← hx] at hy
      obtain rfl : D.int x = y := Option.some.inj hy
      rw [hd] at hls e
      have st := hls.step
      have pl : Pl 60 (.lst (p.2.map D.int)) := Pl_ints
      simp [-List.map_map, dInL]
      refine ⟨pl, ?_⟩
      rw [show lsF (x :: ns.drop (t + 1)) p = if x ∈ p.2 then lsF (ns.drop (t + 1)) (p.1.erase x, p.2.erase x) else lsF (ns.drop (t + 1)) p from rfl] at e
      by_cases z : x ∈ p.2
      · rw [if_pos z] at e ⊢
        obtain ⟨zf, st⟩ := st.1 z
        obtain ⟨j, a1, a2, a3⟩ := rem_ex zf
        obtain ⟨j2, b1, b2, b3⟩ := rem_ex z
        refine ⟨j, a1, a2, j2, b1, b2, ?_⟩
        rw [a3, b3]
        exact hG _ ⟨ht, (p.1.erase x, p.2.erase x), _, st, e, rfl⟩
      · rw [if_neg z] at e ⊢
        exact hG _ ⟨ht, p, _, st.2 z, e, rfl⟩
  · exact h.elim
theorem l_law_less : ∀ ds Q E, S_law_less ds Q E → ds.length = 2 := by
  intro ds Q E h
  unfold S_law_less at h
  split at h
  · rfl
  · rfl
  · exact h.elim

theorem o_law_grown : ∀ ds Q E, S_law_grown ds Q E → m_law_grown (ev0 N_law_grown ds) { nx := fun _ => Q .non, rt := fun d _ => Q d, ex := fun x _ => E x } := by
  intro ds Q E h
  unfold S_law_grown at h
  split at h
  · rename_i xs ys a
    obtain ⟨ns, ms, rfl, rfl, n1, m1, h⟩ := h
    have nz : ns.length ≤ sizeLine := by rw [sizeLine_val]; omega
    have mz : ms.length ≤ sizeLine := by rw [sizeLine_val]; omega
    simp [m_law_grown, ev0, -List.map_map, -S_law_less]
    refine lc_ints (fun x => x + a) ms mz (fun x hx R hR => by simpa using hR) ?_
    have e1 : ns.map D.int ++ (ms.map fun x => x + a).map D.int = (ns ++ adds a ms).map D.int := by rw [List.map_append]; rfl
    have e2 : ms.map D.int ++ (ns.map fun x => x + a).map D.int = (ms ++ adds a ns).map D.int := by rw [List.map_append]; rfl
    rw [e1, ints_map]
    simp [-List.map_map, -S_law_less]
    refine ⟨by omega, ?_⟩
    refine lc_ints (fun x => x + a) ns nz (fun x hx R hR => by simpa using hR) ?_
    rw [e2, ints_map]
    simp [-List.map_map, -S_law_less]
    refine ⟨by omega, ?_⟩
    simp only [S_law_less]
    have l1 := grA_len (a := a) (ns := ns) (ms := ms)
    have l2 := grA_len (a := a) (ns := ms) (ms := ns)
    exact ⟨grA a ns ms, grA a ms ns, rfl, rfl, by omega, by omega, h⟩
  · rename_i xs ys a
    obtain ⟨ns, ms, rfl, rfl, n1, m1, h⟩ := h
    have nz : ns.length ≤ sizeLine := by rw [sizeLine_val]; omega
    have mz : ms.length ≤ sizeLine := by rw [sizeLine_val]; omega
    simp [m_law_grown, ev0, -List.map_map, -S_law_less]
    refine lc_ints (fun x => x + a) ms mz (fun x hx R hR => by simpa using hR) ?_
    have e1 : ns.map D.int ++ (ms.map fun x => x + a).map D.int = (ns ++ adds a ms).map D.int := by rw [List.map_append]; rfl
    have e2 : ms.map D.int ++ (ns.map fun x => x + a).map D.int = (ms ++ adds a ns).map D.int := by rw [List.map_append]; rfl
    rw [e1, ints_map]
    simp [-List.map_map, -S_law_less]
    refine ⟨by omega, ?_⟩
    refine lc_ints (fun x => x + a) ns nz (fun x hx R hR => by simpa using hR) ?_
    rw [e2, ints_map]
    simp [-List.map_map, -S_law_less]
    refine ⟨by omega, ?_⟩
    simp only [S_law_less]
    have l1 := grA_len (a := a) (ns := ns) (ms := ms)
    have l2 := grA_len (a := a) (ns := ms) (ms := ns)
    exact ⟨grA a ns ms, grA a ms ns, rfl, rfl, by omega, by omega, h⟩
  · exact h.elim
theorem l_law_grown : ∀ ds Q E, S_law_grown ds Q E → ds.length = 3 := by
  intro ds Q E h
  unfold S_law_grown at h
  split at h
  · rfl
  · rfl
  · exact h.elim

theorem o_law_pair : ∀ ds Q E, S_law_pair ds Q E → m_law_pair (ev0 N_law_pair ds) { nx := fun _ => Q .non, rt := fun d _ => Q d, ex := fun x _ => E x } := by
  intro ds Q E h
  unfold S_law_pair at h
  split at h
  · unfold m_law_pair
    refine seq_cut (fun ρ => ∃ ns ms : List Int, Pr ns ms 4 11 ∧ ρ = [some (.ob 0, .sh), some (.lst (ns.map D.int), .sh), some (.lst (ms.map D.int), .sh), none, none, none, none, none, none, none, none, none, none]) ?_ ?_
    case refine_2 =>
      intro B hB
      simp [ev0]
      exact ⟨hB _ ⟨[0], [1], pr_mk rfl (by decide) (by decide) (by decide) (by decide), rfl⟩, hB _ ⟨[0, 3], [1, 2], pr_mk rfl (by decide) (by decide) (by decide) (by decide), rfl⟩, hB _ ⟨[1, 5, 6], [2, 3, 7], pr_mk rfl (by decide) (by decide) (by decide) (by decide), rfl⟩, hB _ ⟨[0, 4, 5], [1, 2, 6], pr_mk rfl (by decide) (by decide) (by decide) (by decide), rfl⟩, hB _ ⟨[0, 4, 7, 11], [1, 2, 9, 10], pr_mk rfl (by decide) (by decide) (by decide) (by decide), rfl⟩⟩
    rintro ρ ⟨ns, ms, hp, rfl⟩
    refine seq_cut (fun ρ => ∃ (ns ms : List Int) (a : Slot), Pr ns ms 16 29 ∧ ρ = [some (.ob 0, .sh), some (.lst (ns.map D.int), .sh), some (.lst (ms.map D.int), .sh), a, none, none, none, none, none, none, none, none, none]) ?_ ?_
    case refine_2 =>
      intro B hB
      simp [S_draw, -List.map_map]
      intro r r0 r1
      refine ⟨by omega, ?_⟩
      refine forL_range 0 r.toNat (fun t ρ => t ≤ 2 ∧ ∃ (ns ms : List Int) (a : Slot), Pr ns ms (4 * 2 ^ t) (11 + 9 * t) ∧ ρ = [some (.ob 0, .sh), some (.lst (ns.map D.int), .sh), some (.lst (ms.map D.int), .sh), a, none, none, none, none, none, none, none, none, none]) (fun ρ hρ => ?_) ?_ _ ⟨by omega, ns, ms, none, hp, rfl⟩
      · obtain ⟨t2, ns, ms, a, hp, rfl⟩ := hρ
        have pw : 4 * 2 ^ r.toNat ≤ 4 * 2 ^ 2 := Nat.mul_le_mul_left _ (Nat.pow_le_pow_right (by decide) t2)
        exact hB _ ⟨ns, ms, a, ⟨hp.q, Nat.le_trans hp.l pw, fun x hx => by have := hp.b1 x hx; omega, fun x hx => by have := hp.b2 x hx; omega⟩, rfl⟩
      · rintro t ρ G ht ⟨t2, ns, ms, a, hp, rfl⟩ hG
        have t3 : t ≤ 1 := by omega
        have pw : 4 * 2 ^ t ≤ 4 * 2 ^ 1 := Nat.mul_le_mul_left _ (Nat.pow_le_pow_right (by decide) t3)
        have nl := Nat.le_trans hp.l pw
        have ml : ms.length ≤ 200 := by
          obtain ⟨p, q⟩ := hp.q
          have := q.l
          omega
        simp [S_draw, -List.map_map]
        intro q q0 q1
        refine ⟨ns, rfl, ms, rfl, by omega, ml, ?_⟩
        have g := hp.grown (a := 1 + q) (by omega) (by omega)
        refine hG _ ⟨by omega, _, _, some (.int (t : Int), .sh), ?_, rfl⟩
        rw [show 4 * 2 ^ (t + 1) = 2 * (4 * 2 ^ t) by rw [Nat.pow_succ]; omega, show 11 + 9 * (t + 1) = 11 + 9 * t + 9 by omega]
        exact g
    rintro ρ ⟨ns, ms, a, hp, rfl⟩
    obtain ⟨⟨p0, fq⟩, nl, b1, b2⟩ := hp
    have ne := fq.ne
    have ll := fq.l
    refine seq_cut (fun ρ => ∃ b f : Int, b.natAbs ≤ 3 ∧ f.natAbs ≤ 20 ∧ ρ = [some (.ob 0, .sh), some (.lst (ns.map D.int), .sh), some (.lst (ms.map D.int), .sh), a, some (.int b, .sh), some (.int f, .sh), none, none, none, none, none, none, none]) ?_ ?_
    case refine_2 =>
      intro B hB
      simp [S_draw, -List.map_map]
      exact ⟨fun r r0 r1 => hB _ ⟨1, r - 20, by decide, by omega, rfl⟩, fun r r0 r1 => hB _ ⟨2, r - 20, by decide, by omega, rfl⟩, fun r r0 r1 => hB _ ⟨-1, r - 20, by decide, by omega, rfl⟩, fun r r0 r1 => hB _ ⟨-3, r - 20, by decide, by omega, rfl⟩⟩
    rintro ρ ⟨b, f, hb, hf, rfl⟩
    refine seq_cut (fun ρ => ∃ sh : List Int, sh.length ≤ 2 ∧ (∀ x ∈ sh, x.natAbs ≤ 20) ∧ ρ = [some (.ob 0, .sh), some (.lst (ns.map D.int), .sh), some (.lst (ms.map D.int), .sh), a, some (.int b, .sh), some (.int f, .sh), some (.lst (sh.map D.int), .sh), none, none, none, none, none, none]) ?_ ?_
    case refine_2 =>
      intro B hB
      simp [S_draw, -List.map_map]
      intro r r0 r1
      refine ⟨by omega, ?_⟩
      refine lc_all (rangeL 0 r.toNat) (fun d => ∃ n : Int, d = .int n ∧ n.natAbs ≤ 20) (by rw [rangeL_length, sizeLine_val]; omega) (fun x hx R hR => ?_) (fun ys hl hy => ?_)
      · simp [S_draw]
        exact fun q q0 q1 => hR _ ⟨q - 10, rfl, by omega⟩
      · obtain ⟨ks, rfl, hk⟩ := ints_ex hy
        rw [rangeL_length, List.length_map] at hl
        exact hB _ ⟨ks, by omega, hk, rfl⟩
    rintro ρ ⟨sh, sl, hsh, rfl⟩
    let aff : List Int → List Int := fun l => isort ((l.map fun x => b * x + f) ++ sh)
    have afl : ∀ l : List Int, (aff l).length = l.length + sh.length := fun l => by
      show (isort _).length = _
      rw [isort_len, List.length_append, List.length_map]
    have afb : ∀ l : List Int, (∀ x ∈ l, 0 ≤ x ∧ x ≤ 29) → ∀ x ∈ aff l, x.natAbs ≤ 1020 := fun l hl x hx => by
      have hx := (isort_perm _).mem_iff.mp hx
      rcases List.mem_append.mp hx with z | z
      · obtain ⟨y, hy, rfl⟩ := List.mem_map.mp z
        have := hl y hy
        have m : (b * y).natAbs ≤ 3 * 29 := by
          rw [Int.natAbs_mul]
          exact Nat.mul_le_mul hb (by omega)
        omega
      · have := hsh x z
        omega
    have afh : ∀ l : List Int, 1 ≤ l.length → l.length ≤ 16 → (∀ x ∈ l, 0 ≤ x ∧ x ≤ 29) → HeapI (aff l) := fun l h1 h2 h3 => ⟨by rw [afl]; omega, by rw [afl]; omega, fun x hx => by have := afb l h3 x hx; omega, (isort_idem _).symm⟩
    refine seq_cut (fun ρ => ρ = [some (.ob 0, .sh), some (.lst (ns.map D.int), .sh), some (.lst (ms.map D.int), .sh), a, some (.int b, .sh), some (.int f, .sh), some (.lst (sh.map D.int), .sh), some (.lst [.tup ((aff ns).map D.int), .tup ((aff ms).map D.int)], .sh), none, none, none, none, none]) ?_ ?_
    case refine_2 =>
      intro B hB
      simp [-List.map_map]
      refine lc_map (fun d => .tup ((aff (lints d)).map D.int)) [.lst (ns.map D.int), .lst (ms.map D.int)] (by rw [sizeLine_val]; simp) (fun x hx R hR => ?_) ?_
      · obtain ⟨l, h1, rfl⟩ : ∃ l : List Int, l.length ≤ 16 ∧ x = .lst (l.map D.int) := by
          simp only [List.mem_cons, List.not_mem_nil, or_false] at hx
          rcases hx with rfl | rfl
          · exact ⟨ns, nl, rfl⟩
          · exact ⟨ms, by omega, rfl⟩
        rw [lints_lst] at hR
        simp [-List.map_map]
        refine lc_ints (fun x => b * x + f) l (by rw [sizeLine_val]; omega) (fun x hx R hR => ?_) ?_
        · simp
          exact ⟨mul_small (.inl ⟨by omega, by omega⟩), hR⟩
        · rw [← List.map_append, ints_map]
          simp [-List.map_map]
          exact ⟨by omega, hR⟩
      · rw [List.map_cons, List.map_cons, List.map_nil, lints_lst, lints_lst]
        exact hB _ rfl
    rintro ρ rfl
    have hA := afh ns ne nl b1
    have hC := afh ms (by omega) (by omega) b2
    obtain ⟨A, hAe⟩ : ∃ A, A = aff ns := ⟨_, rfl⟩
    obtain ⟨C, hCe⟩ : ∃ C, C = aff ms := ⟨_, rfl⟩
    have lA : A.length = C.length := by rw [hAe, hCe, afl, afl, ll]
    have lA2 : A.length ≤ 18 := by rw [hAe, afl]; omega
    have bA := afb ns b1
    have bC := afb ms b2
    rw [← hAe] at hA bA
    rw [← hCe] at hC bC
    rw [← hAe, ← hCe]
    obtain ⟨o1, ho1⟩ : ∃ o, o = D.lst (ns.map D.int) := ⟨_, rfl⟩
    obtain ⟨o2, ho2⟩ : ∃ o, o = D.lst (ms.map D.int) := ⟨_, rfl⟩
    obtain ⟨o3, ho3⟩ : ∃ o, o = D.lst (sh.map D.int) := ⟨_, rfl⟩
    rw [← ho1, ← ho2, ← ho3]
    refine seq_cut (fun ρ => ∃ ds : List Int, 1 ≤ ds.length ∧ ds.length ≤ 8 ∧ (∀ x ∈ ds, x.natAbs ≤ 1000) ∧ ds = isort ds ∧ ρ = [some (.ob 0, .sh), some (o1, .sh), some (o2, .sh), a, some (.int b, .sh), some (.int f, .sh), some (o3, .sh), some (.lst [.tup (A.map D.int), .tup (C.map D.int)], .sh), some (.tup (ds.map D.int), .sh), none, none, none, none]) ?_ ?_
    case refine_2 =>
      intro B hB
      simp [-List.map_map]
      exact fun ds d1 d2 d3 d4 => hB _ ⟨ds, d1, by omega, d3, d4, rfl⟩
    rintro ρ ⟨ds, d1, d2, d3, d4, rfl⟩
    refine seq_cut (fun ρ => ∃ es : List Int, es.length = ds.length ∧ (∀ x ∈ es, x.natAbs ≤ 1000) ∧ es = isort es ∧ ρ = [some (.ob 0, .sh), some (o1, .sh), some (o2, .sh), a, some (.int b, .sh), some (.int f, .sh), some (o3, .sh), some (.lst [.tup (A.map D.int), .tup (C.map D.int)], .sh), some (.tup (ds.map D.int), .sh), some (.tup (es.map D.int), .sh), none, none, none]) ?_ ?_
    case refine_2 =>
      intro B hB
      simp [S_draw, -List.map_map, cutG_from]
      intro r r0 r1
      have e : (ds.map D.int).tail ++ [D.int (r - 10)] = (ds.tail ++ [r - 10]).map D.int := by
        rw [List.map_append, List.map_tail]
        rfl
      rw [e, ints_map]
      simp [-List.map_map]
      refine ⟨by omega, hB _ ⟨isort (ds.tail ++ [r - 10]), ?_, fun x hx => ?_, (isort_idem _).symm, rfl⟩⟩
      · rw [isort_len, List.length_append, List.length_tail]
        simp
        omega
      · have hx := (isort_perm _).mem_iff.mp hx
        rcases List.mem_append.mp hx with z | z
        · exact d3 x (List.mem_of_mem_tail z)
        · rw [List.mem_singleton.mp z]
          omega
    rintro ρ ⟨es, e1, e2, e3, rfl⟩
    have mk : ∀ l : List Int, 1 ≤ l.length → l.length ≤ 8 → (∀ x ∈ l, x.natAbs ≤ 1000) → l = isort l → HeapI l := fun l h1 h2 h3 h4 => ⟨h1, by omega, fun x hx => by have := h3 x hx; omega, h4⟩
    have hD := mk ds d1 d2 d3 d4
    have hE := mk es (by omega) (by omega) e2 e3
    have k1 := h A C hA hC lA lA2 bA bC
    have k2 := h C A hC hA lA.symm (by omega) bC bA
    have k3 := h ds es hD hE e1.symm (by omega) (fun x hx => by have := d3 x hx; omega) (fun x hx => by have := e2 x hx; omega)
    have k4 := h ds ds hD hD rfl (by omega) (fun x hx => by have := d3 x hx; omega) (fun x hx => by have := d3 x hx; omega)
    simp [-List.map_map]
    exact ⟨k1, k3, k4, k2⟩
  · exact h.elim
theorem l_law_pair : ∀ ds Q E, S_law_pair ds Q E → ds.length = 1 := by
  intro ds Q E h
  unfold S_law_pair at h
  split at h
  · rfl
  · exact h.elim

theorem o_raw_power : ∀ ds Q E, S_raw_power ds Q E → m_raw_power (ev0 N_raw_power ds) { nx := fun _ => Q .non, rt := fun d _ => Q d, ex := fun x _ => E x } := by
  intro ds Q E h
  unfold S_raw_power at h
  split at h
  · rename_i n k
    obtain ⟨k0, k1, hn, h⟩ := h
    simp [m_raw_power, ev0]
    refine ⟨by omega, ?_⟩
    refine forL_range 0 k.toNat (fun i ρ => ∃ s, ρ = [some (.int n, .sh), some (.int k, .sh), some (.int (n ^ i), .sh), s]) (fun ρ hρ => ?_) ?_ _ ⟨none, by simp⟩
    · obtain ⟨s, rfl⟩ := hρ
      exact h
    · rintro i ρ F hi ⟨s, rfl⟩ hF
      simp
      refine ⟨mul_k (pow_nat hn i) hn (Nat.succ_pos _) (by decide) (by omega), ?_⟩
      rw [← Int.pow_succ]
      exact hF _ ⟨_, rfl⟩
  · exact h.elim
theorem l_raw_power : ∀ ds Q E, S_raw_power ds Q E → ds.length = 2 := by
  intro ds Q E h
  unfold S_raw_power at h
  split at h
  · rfl
  · exact h.elim

theorem o_raw_sum : ∀ ds Q E, S_raw_sum ds Q E → m_raw_sum (ev0 N_raw_sum ds) { nx := fun _ => Q .non, rt := fun d _ => Q d, ex := fun x _ => E x } := by
  intro ds Q E h
  unfold S_raw_sum at h
  split at h
  · rename_i xs k
    obtain ⟨ns, rfl, hl, hb, k0, k1, h⟩ := h
    simp [m_raw_sum, ev0, -List.map_map]
    refine lc_map (fun d => match d with
      | .int n => .int (n ^ k.toNat)
      | d => d) (ns.map D.int) (by rw [List.length_map, sizeLine_val]; omega) (fun x hx R hR => ?_) ?_
    · obtain ⟨n, hn, rfl⟩ := List.mem_map.mp hx
      have := hb n hn
      simp at hR ⊢
      exact ⟨k0, k1, this, hR⟩
    · have e : (ns.map D.int).map (fun d => match d with
        | .int n => .int (n ^ k.toNat)
        | d => d) = (ns.map fun n => n ^ k.toNat).map D.int := by
        rw [List.map_map, List.map_map]
        rfl
      rw [e, ints_map]
      exact h
  · exact h.elim
theorem l_raw_sum : ∀ ds Q E, S_raw_sum ds Q E → ds.length = 2 := by
  intro ds Q E h
  unfold S_raw_sum at h
  split at h
  · rfl
  · exact h.elim

theorem o_power_sums : ∀ ds Q E, S_power_sums ds Q E → m_power_sums (ev0 N_power_sums ds) { nx := fun _ => Q .non, rt := fun d _ => Q d, ex := fun x _ => E x } := by
  intro ds Q E h
  unfold S_power_sums at h
  split at h
  · rename_i xs m
    obtain ⟨ns, rfl, hh, m0, m1, h⟩ := h
    have th : Th 60 (.tup (ns.map D.int)) := Th.ints (by have := hh.l2; omega)
    simp [m_power_sums, ev0, -List.map_map, th, hh.heap, m0, m1]
    refine ⟨by omega, ?_⟩
    refine lc_map (fun d => match d with
      | .int i => .int (psum ns i.toNat)
      | d => d) (rangeL 1 m.toNat) (by rw [rangeL_length, sizeLine_val]; omega) (fun x hx R hR => ?_) ?_
    · rw [rangeL_ints] at hx
      obtain ⟨i, hi, rfl⟩ := List.mem_map.mp hx
      obtain ⟨t, ht, rfl⟩ := List.mem_map.mp hi
      have ht := List.mem_range.mp ht
      simp [-List.map_map] at hR ⊢
      have l2 := hh.l2
      exact ⟨ns, rfl, by omega, fun n hn => by have := hh.r n hn; exact lt400 (by omega), by omega, by omega, hR⟩
    · have e : (rangeL 1 m.toNat).map (fun d => match d with
        | .int i => .int (psum ns i.toNat)
        | d => d) = (fl (pS (lf ns) ns.length) m.toNat).map D.int := by
        rw [rangeL_ints, List.map_map]
        unfold fl
        rw [List.map_map, List.map_map]
        refine List.map_congr_left fun i hi => ?_
        show D.int (psum ns (1 + (i : Int)).toNat) = D.int (pS (lf ns) ns.length (i + 1))
        rw [show (1 + (i : Int)).toNat = i + 1 by omega]
        unfold psum
        rw [psum_pS]
      rw [e]
      exact h
  · exact h.elim
theorem l_power_sums : ∀ ds Q E, S_power_sums ds Q E → ds.length = 2 := by
  intro ds Q E h
  unfold S_power_sums at h
  split at h
  · rfl
  · exact h.elim

theorem o_as_heap : ∀ ds Q E, S_as_heap ds Q E → m_as_heap (ev0 N_as_heap ds) { nx := fun _ => Q .non, rt := fun d _ => Q d, ex := fun x _ => E x } := by
  intro ds Q E h
  unfold S_as_heap at h
  split at h
  · rename_i xs
    obtain ⟨ns, rfl, l1, l2, hb, h⟩ := h
    have th : Th 60 (.tup ((isort ns).map D.int)) := Th.ints (by rw [isort_len]; omega)
    have it : D.items (.tup ((isort ns).map D.int)) = true := items_ints (by rw [isort_len]; exact l1) (by rw [isort_len]; exact l2) fun i hi => hb i ((isort_perm ns).mem_iff.mp hi)
    simp [m_as_heap, ev0, -List.map_map, th, it]
    exact h
  · rename_i xs
    obtain ⟨ns, rfl, l1, l2, hb, h⟩ := h
    have th : Th 60 (.tup ((isort ns).map D.int)) := Th.ints (by rw [isort_len]; omega)
    have it : D.items (.tup ((isort ns).map D.int)) = true := items_ints (by rw [isort_len]; exact l1) (by rw [isort_len]; exact l2) fun i hi => hb i ((isort_perm ns).mem_iff.mp hi)
    simp [m_as_heap, ev0, -List.map_map, th, it]
    exact h
  · exact h.elim
theorem l_as_heap : ∀ ds Q E, S_as_heap ds Q E → ds.length = 1 := by
  intro ds Q E h
  unfold S_as_heap at h
  split at h
  · rfl
  · rfl
  · exact h.elim

theorem o_joined : ∀ ds Q E, S_joined ds Q E → m_joined (ev0 N_joined ds) { nx := fun _ => Q .non, rt := fun d _ => Q d, ex := fun x _ => E x } := by
  intro ds Q E h
  unfold S_joined at h
  split at h
  · rename_i xs ys
    obtain ⟨ns, ms, rfl, rfl, h1, h2, l, h⟩ := h
    have t1 : Th 60 (.tup (ns.map D.int)) := Th.ints (by have := h1.l2; omega)
    have t2 : Th 60 (.tup (ms.map D.int)) := Th.ints (by have := h2.l2; omega)
    have e := h1.l1
    simp [m_joined, ev0, -List.map_map, t1, t2, h1.heap, h2.heap]
    rw [← List.map_append]
    refine ⟨by omega, ns ++ ms, rfl, by rw [List.length_append]; omega, by rw [List.length_append]; omega, fun x hx => ?_, h⟩
    rcases List.mem_append.mp hx with q | q
    · exact h1.r x q
    · exact h2.r x q
  · exact h.elim
theorem l_joined : ∀ ds Q E, S_joined ds Q E → ds.length = 2 := by
  intro ds Q E h
  unfold S_joined at h
  split at h
  · rfl
  · exact h.elim

theorem o_law_power : ∀ ds Q E, S_law_power ds Q E → m_law_power (ev0 N_law_power ds) { nx := fun _ => Q .non, rt := fun d _ => Q d, ex := fun x _ => E x } := by
  intro ds Q E h
  unfold S_law_power at h
  split at h
  · rename_i n k
    obtain ⟨k0, k1, hn, h⟩ := h
    simp [m_law_power, ev0]
    refine ⟨by omega, ?_⟩
    refine forL_range 0 k.toNat (fun i ρ => ∃ s, ρ = [some (.int n, .sh), some (.int k, .sh), some (.int (n ^ i), .sh), s]) (fun ρ hρ => ?_) ?_ _ ⟨none, by simp⟩
    · obtain ⟨s, rfl⟩ := hρ
      exact h
    · rintro i ρ F hi ⟨s, rfl⟩ hF
      simp
      refine ⟨mul_k (pow_nat hn i) hn (Nat.succ_pos _) (by decide) (by omega), ?_⟩
      rw [← Int.pow_succ]
      exact hF _ ⟨_, rfl⟩
  · exact h.elim
theorem l_law_power : ∀ ds Q E, S_law_power ds Q E → ds.length = 2 := by
  intro ds Q E h
  unfold S_law_power at h
  split at h
  · rfl
  · exact h.elim

theorem o_law_sum : ∀ ds Q E, S_law_sum ds Q E → m_law_sum (ev0 N_law_sum ds) { nx := fun _ => Q .non, rt := fun d _ => Q d, ex := fun x _ => E x } := by
  intro ds Q E h
  unfold S_law_sum at h
  split at h
  · rename_i xs k
    obtain ⟨ns, rfl, k0, k1, hl, hb, h⟩ := h
    simp [m_law_sum, ev0]
    refine lc_map (fun d => match d with
      | .int n => .int (n ^ k.toNat)
      | d => d) (ns.map D.int) (by rw [List.length_map, sizeLine_val]; omega) (fun x hx R hR => ?_) ?_
    · obtain ⟨n, hn, rfl⟩ := List.mem_map.mp hx
      simp at hR ⊢
      exact ⟨k0, k1, hb n hn, hR⟩
    · have e3 : (ns.map D.int).map (fun d => match d with
        | .int n => .int (n ^ k.toNat)
        | d => d) = (ns.map fun n => n ^ k.toNat).map D.int := by rw [List.map_map, List.map_map]; rfl
      rw [e3, ints_map]
      exact h
  · exact h.elim
theorem l_law_sum : ∀ ds Q E, S_law_sum ds Q E → ds.length = 2 := by
  intro ds Q E h
  unfold S_law_sum at h
  split at h
  · rfl
  · exact h.elim

theorem o_law_roots : ∀ ds Q E, S_law_roots ds Q E → m_law_roots (ev0 N_law_roots ds) { nx := fun _ => Q .non, rt := fun d _ => Q d, ex := fun x _ => E x } := by
  intro ds Q E h
  unfold S_law_roots at h
  split at h
  · obtain ⟨ns, rfl, l2, hb, h⟩ := h
    simp [m_law_roots, ev0, -List.map_map]
    refine forL_enc D.int ns (fun j ρ => ∃ a b c : Slot, ρ = [some (.tup (ns.map D.int), .sh), some (.lst ((fl0 (rS (lf ns) j) j).map D.int), .sh), a, b, c]) (fun ρ hρ => ?_) ?_ _ ⟨none, none, none, by simp [fl0, rS, ng, eS]⟩
    · obtain ⟨a, b, c, rfl⟩ := hρ
      simp [-List.map_map]
      exact h
    rintro j hj ρ F ⟨a, b, c, rfl⟩ hF
    obtain ⟨x, hx⟩ : ∃ x, x = ns[j] := ⟨_, rfl⟩
    have hx2 : x = lf ns (j + 1) := by
      rw [hx]
      unfold lf
      rw [List.getD_eq_getElem?_getD, show j + 1 - 1 = j by omega, List.getElem?_eq_getElem hj]
      rfl
    have xb := hb x (by rw [hx]; exact List.getElem_mem hj)
    rw [← hx]
    obtain ⟨f1, hf1⟩ : ∃ f1 : Nat → Int, f1 = fun k => if k = 0 then 0 else rS (lf ns) j (k - 1) := ⟨_, rfl⟩
    obtain ⟨f2, hf2⟩ : ∃ f2 : Nat → Int, f2 = fun k => if k < j + 1 then rS (lf ns) j k else 0 := ⟨_, rfl⟩
    have e1 : D.int 0 :: (fl0 (rS (lf ns) j) j).map D.int = ((List.range (j + 2)).map f1).map D.int := by
      rw [fl0_cons, hf1]
      rfl
    have e2 : (fl0 (rS (lf ns) j) j).map D.int ++ [D.int 0] = ((List.range (j + 2)).map f2).map D.int := by
      have : fl0 f2 (j + 1) = fl0 (rS (lf ns) j) j ++ [0] := by
        rw [fl0_s, hf2]
        rw [fl0_congr (g := rS (lf ns) j) fun k hk => if_pos (by omega)]
        simp
      show _ = (fl0 f2 (j + 1)).map D.int
      rw [this, List.map_append]
      rfl
    simp [-List.map_map]
    refine ⟨by rw [fl0_len]; omega, by rw [fl0_len]; omega, ?_⟩
    rw [e1, e2]
    refine lc_zip f1 f2 (fun k => f1 k - x * f2 k) (List.range (j + 2)) (by rw [List.length_range, sizeLine_val]; omega) (fun k hk R hR => ?_) ?_
    · simp
      exact ⟨mul_small (.inl ⟨by omega, by omega⟩), hR⟩
    · have e3 : (List.range (j + 2)).map (fun k => f1 k - x * f2 k) = fl0 (rS (lf ns) (j + 1)) (j + 1) := by
        show fl0 (fun k => f1 k - x * f2 k) (j + 1) = _
        refine fl0_congr fun k hk => ?_
        rw [hf1, hf2]
        show (if k = 0 then 0 else rS (lf ns) j (k - 1)) - x * (if k < j + 1 then rS (lf ns) j k else 0) = _
        unfold rS
        by_cases y : k = j + 1
        · subst y
          rw [if_neg (by omega), if_neg (by omega), Nat.sub_self, eS_z, show j - (j + 1 - 1) = 0 by omega, eS_z]
          simp
        · obtain ⟨t, ht⟩ : ∃ t, j - k = t := ⟨_, rfl⟩
          rw [if_pos (show k < j + 1 by omega), show j + 1 - k = t + 1 by omega, ht]
          show _ = ng (t + 1) * (eS (lf ns) j (t + 1) + lf ns (j + 1) * eS (lf ns) j t)
          rw [← hx2, ng_s]
          by_cases z : k = 0
          · rw [if_pos z, eS_hi (lf ns) j (t + 1) (by omega)]
            grind
          · rw [if_neg z, show j - (k - 1) = t + 1 by omega, ng_s]
            grind
      rw [e3]
      exact hF _ ⟨_, _, _, rfl⟩
  · exact h.elim
theorem l_law_roots : ∀ ds Q E, S_law_roots ds Q E → ds.length = 1 := by
  intro ds Q E h
  unfold S_law_roots at h
  split at h
  · rfl
  · exact h.elim

theorem o_law_newton : ∀ ds Q E, S_law_newton ds Q E → m_law_newton (ev0 N_law_newton ds) { nx := fun _ => Q .non, rt := fun d _ => Q d, ex := fun x _ => E x } := by
  intro ds Q E h
  unfold S_law_newton at h
  split at h
  · rename_i xs K
    obtain ⟨ns, rfl, l1, l2, hb, k0, k1, h⟩ := h
    obtain ⟨K, rfl⟩ : ∃ m : Nat, K = (m : Int) := ⟨K.toNat, by omega⟩
    rw [Int.toNat_natCast] at h
    obtain ⟨n, hn⟩ : ∃ n, n = ns.length := ⟨_, rfl⟩
    rw [← hn] at h
    have cat : ∀ j : Nat, j ≤ n → atI ((ns ++ [1]).map D.int) ((n : Int) - (j : Int)) = some (.int (ldF ns j)) := fun j hj => by
      rw [show (n : Int) - (j : Int) = ((n - j : Nat) : Int) by omega, atI_nat, List.getElem?_map]
      have lt : n - j < (ns ++ [1]).length := by simp; omega
      unfold ldF
      rw [← hn, gd_in lt, List.getElem?_eq_getElem lt]
      rfl
    have lb : ∀ j, (ldF ns j).natAbs < 2 ^ 60 := fun j => by
      unfold ldF
      by_cases z : ns.length - j < (ns ++ [1]).length
      · rw [gd_in z]
        rcases List.mem_append.mp (List.getElem_mem z) with q | q
        · exact hb _ q
        · rw [List.mem_singleton.mp q]
          decide
      · rw [gd_out (by omega)]
        decide
    unfold m_law_newton
    refine seq_cut (fun ρ => ρ = [some (.tup ((ns ++ [1]).map D.int), .sh), some (.int (K : Int), .sh), some (.int (n : Int), .sh), some (.lst [], .ow), none, none, none, none]) ?_ ?_
    case refine_2 =>
      intro B hB
      simp [ev0, -List.map_map, -List.map_append, putAll]
      exact hB _ (by rw [hn])
    rintro ρ rfl
    obtain ⟨T, hT⟩ : ∃ T, T = (ns ++ [1]).map D.int := ⟨_, rfl⟩
    rw [← hT] at cat ⊢
    have latI : ∀ j : Nat, j ≤ n → atI ((fl0 (ldF ns) n).map D.int) (j : Int) = some (.int (ldF ns j)) := fun j hj => fl0_at (by omega) (by omega)
    refine seq_cut (fun ρ => ρ = [some (.tup T, .sh), some (.int (K : Int), .sh), some (.int (n : Int), .sh), some (.lst [], .ow), some (.lst ((fl0 (ldF ns) n).map D.int), .sh), none, none, none]) ?_ ?_
    case refine_2 =>
      intro B hB
      simp [-List.map_map]
      refine ⟨by omega, ?_⟩
      rw [rangeL_enc]
      refine lc_enc (fun j : Nat => D.int (j : Int)) (fun j => .int (ldF ns j)) (List.range (n + 1)) (by rw [List.length_range, sizeLine_val]; omega) (fun j hj R hR => ?_) ?_
      · have hj := List.mem_range.mp hj
        have c1 := cat j (by omega)
        simp [-List.map_map, c1]
        exact hR
      · rw [map_ints]
        exact hB _ rfl
    rintro ρ rfl
    obtain ⟨Z, hZ⟩ : ∃ Z, Z = (fl0 (ldF ns) n).map D.int := ⟨_, rfl⟩
    rw [← hZ] at latI ⊢
    simp [-List.map_map]
    refine ⟨by omega, ?_⟩
    refine forL_range 1 K (fun k ρ => ∃ a b : Slot, ρ = [some (.tup T, .sh), some (.int (K : Int), .sh), some (.int (n : Int), .sh), some (.lst ((nwL (ldF ns) n k).map D.int), .ow), some (.lst Z, .sh), a, b, none]) (fun ρ hρ => ?_) ?_ _ ⟨none, none, rfl⟩
    · obtain ⟨a, b, rfl⟩ := hρ
      simp [-List.map_map]
      exact h
    rintro k ρ F hk ⟨a, b, rfl⟩ hF
    obtain ⟨prev, hprev⟩ : ∃ prev, prev = nwL (ldF ns) n k := ⟨_, rfl⟩
    have pl : prev.length = k := by rw [hprev, nw_len]
    rw [← hprev]
    obtain ⟨m, hm⟩ : ∃ m, m = min k n := ⟨_, rfl⟩
    have em : (if (n : Int) < 1 + (k : Int) - 1 then (n : Int) else 1 + (k : Int) - 1) = (m : Int) := by split <;> omega
    show sSeq _ _ [some (.tup T, .sh), some (.int (K : Int), .sh), some (.int (n : Int), .sh), some (.lst (prev.map D.int), .ow), some (.lst Z, .sh), some (.int (1 + (k : Int)), .sh), b, none] _
    refine seq_cut (fun ρ => ρ = [some (.tup T, .sh), some (.int (K : Int), .sh), some (.int (n : Int), .sh), some (.lst (prev.map D.int), .ow), some (.lst Z, .sh), some (.int (1 + (k : Int)), .sh), some (.int (0 - nwT (ldF ns) n (k + 1) prev m), .sh), none]) ?_ ?_
    case refine_2 =>
      intro B hB
      simp [-List.map_map]
      rw [em, Int.toNat_natCast]
      refine ⟨⟨by omega, by omega⟩, ?_⟩
      rw [rangeL_ints, List.map_map]
      refine lc_enc (D.int ∘ fun i : Nat => 1 + (i : Int)) (fun i => .int (ldF ns (i + 1) * prev.getD (k + 1 - (i + 1) - 1) 0)) (List.range m) (by rw [List.length_range, sizeLine_val]; omega) (fun i hi R hR => ?_) ?_
      · have hi := List.mem_range.mp hi
        have c1 : atI Z (1 + (i : Int)) = some (.int (ldF ns (i + 1))) := by
          have := latI (i + 1) (by omega)
          rwa [show ((i + 1 : Nat) : Int) = 1 + (i : Int) by omega] at this
        have lt : k - i - 1 < prev.length := by omega
        have c2 : atI (prev.map D.int) (1 + (k : Int) - (1 + (i : Int)) - 1) = some (.int (prev[k - i - 1])) := by
          rw [show 1 + (k : Int) - (1 + (i : Int)) - 1 = ((k - i - 1 : Nat) : Int) by omega, atI_nat, List.getElem?_map, List.getElem?_eq_getElem lt]
          rfl
        have b0 := lb (i + 1)
        rw [show k + 1 - (i + 1) - 1 = k - i - 1 by omega, gd_in lt] at hR
        simp [-List.map_map, c1, c2]
        exact ⟨mul_small (.inl ⟨by omega, by omega⟩), hR⟩
      · rw [map_ints]
        obtain ⟨u, hu⟩ : ∃ u, u = (List.range m).map fun i => ldF ns (i + 1) * prev.getD (k + 1 - (i + 1) - 1) 0 := ⟨_, rfl⟩
        have su : u.sum = nwT (ldF ns) n (k + 1) prev m := by rw [hu]; rfl
        rw [← hu]
        simp [-List.map_map]
        rw [su]
        exact hB _ (by rw [Int.zero_sub])
    rintro ρ rfl
    have fin : prev.map D.int ++ [D.int (nwV (ldF ns) n (k + 1) prev)] = (nwL (ldF ns) n (k + 1)).map D.int := by
      rw [nwL, ← hprev, List.map_append]
      rfl
    have ev : nwV (ldF ns) n (k + 1) prev = (if k + 1 ≤ n then -((k + 1 : Nat) : Int) * ldF ns (k + 1) else 0) - nwT (ldF ns) n (k + 1) prev m := by rw [hm]; rfl
    by_cases z : k + 1 ≤ n
    · have c1 : atI Z (1 + (k : Int)) = some (.int (ldF ns (k + 1))) := by
        have := latI (k + 1) z
        rwa [show ((k + 1 : Nat) : Int) = 1 + (k : Int) by omega] at this
      rw [if_pos z] at ev
      simp [-List.map_map]
      rw [if_pos (by omega), c1]
      refine ⟨mul_small (.inl ⟨by omega, by omega⟩), by omega, ?_⟩
      rw [show -nwT (ldF ns) n (k + 1) prev m - (1 + (k : Int)) * ldF ns (k + 1) = nwV (ldF ns) n (k + 1) prev by
        rw [ev, show ((k + 1 : Nat) : Int) = 1 + (k : Int) by omega, Int.neg_mul]
        omega, fin]
      exact hF _ ⟨_, _, rfl⟩
    · rw [if_neg z] at ev
      simp [-List.map_map]
      rw [if_neg (by omega)]
      refine ⟨by omega, ?_⟩
      rw [show -nwT (ldF ns) n (k + 1) prev m = nwV (ldF ns) n (k + 1) prev by rw [ev]; omega, fin]
      exact hF _ ⟨_, _, rfl⟩
  · exact h.elim
theorem l_law_newton : ∀ ds Q E, S_law_newton ds Q E → ds.length = 2 := by
  intro ds Q E h
  unfold S_law_newton at h
  split at h
  · rfl
  · exact h.elim

theorem o_law_is_heap_right : ∀ ds Q E, S_law_is_heap_right ds Q E → m_law_is_heap_right (ev0 N_law_is_heap_right ds) { nx := fun _ => Q .non, rt := fun d _ => Q d, ex := fun x _ => E x } := by
  intro ds Q E h
  unfold S_law_is_heap_right at h
  split at h
  · rename_i X
    obtain ⟨ns, hX, hh, hl, hb, h⟩ := h
    have sm : ∀ n ∈ ns, n.natAbs < 2 ^ 20 := fun n hn => by have := hb n hn; omega
    have l1 := hh.l1
    obtain ⟨R, hR⟩ : ∃ R, R = (rP ns).map D.int := ⟨_, rfl⟩
    unfold m_law_is_heap_right
    refine seq_cut (fun ρ => ∃ K : Nat, 1 ≤ K ∧ K ≤ 60 ∧ ρ = [some (.ob 0, .sh), some (.tup X, .sh), some (.lst R, .sh), some (.int (K : Int), .sh), none, none, none, none, none, none, none, none, none, none]) ?_ ?_
    case refine_2 =>
      intro B hB
      simp [ev0, S_draw, -List.map_map, putAll]
      refine ⟨ns, hX, by omega, sm, ?_⟩
      rw [← hR]
      have k : ∀ r : Int, 0 ≤ r → r < 60 → B [some (.ob 0, .sh), some (.tup X, .sh), some (.lst R, .sh), some (.int (1 + r), .sh), none, none, none, none, none, none, none, none, none, none] := fun r r0 r1 => hB _ ⟨(1 + r).toNat, by omega, by omega, by rw [show (((1 + r).toNat : Nat) : Int) = 1 + r by omega]⟩
      exact ⟨fun r r0 r1 => k r r0 (by omega), fun r r0 r1 => k r r0 (by omega), fun r r0 r1 => k r r0 (by omega)⟩
    rintro ρ ⟨K, K1, K2, rfl⟩
    obtain ⟨U, hU⟩ : ∃ U, U = (fl (pS (lf ns) ns.length) K).map D.int := ⟨_, rfl⟩
    have tK : ((K : Nat) : Int).toNat = K := Int.toNat_natCast K
    refine seq_cut (fun ρ => ρ = [some (.ob 0, .sh), some (.tup X, .sh), some (.lst R, .sh), some (.int (K : Int), .sh), some (.tup U, .sh), none, none, none, none, none, none, none, none, none]) ?_ ?_
    case refine_2 =>
      intro B hB
      simp [-List.map_map]
      refine ⟨by omega, ?_⟩
      rw [rangeL_ints, List.map_map]
      refine lc_enc (D.int ∘ fun i : Nat => 1 + (i : Int)) (fun i => .int (pS (lf ns) ns.length (i + 1))) (List.range K) (by rw [List.length_range, sizeLine_val]; omega) (fun i hi R hR => ?_) ?_
      · have hi := List.mem_range.mp hi
        simp [-List.map_map]
        refine ⟨ns, hX, by omega, by omega, by omega, hh.big, ?_⟩
        rw [show (1 + (i : Int)).toNat = i + 1 by omega]
        rw [← psum_pS] at hR
        exact hR
      · rw [map_ints]
        exact hB _ (by rw [hU]; rfl)
    rintro ρ rfl
    have rq : R = (rQ ns ++ [1]).map D.int := by rw [hR, rP_one]; rfl
    have ql := rQ_len ns
    refine seq_cut (fun ρ => ρ = [some (.ob 0, .sh), some (.tup X, .sh), some (.lst R, .sh), some (.int (K : Int), .sh), some (.tup U, .sh), none, none, none, none, none, none, none, none, none]) ?_ ?_
    case refine_2 =>
      intro B hB
      simp [-List.map_map, -List.map_append, -S_law_same_]
      refine ⟨ns, hX, hh, ?_⟩
      rw [show (fl0 (rS (lf ns) ns.length) ns.length).map D.int = R from hR.symm]
      refine ⟨rQ ns, rq, by omega, by omega, rQ_bd hl hb, by omega, by omega, .inr ?_, ?_⟩
      · rw [ql, nw_root]
        exact pS_bd hl hb K2
      rw [ql, nw_root, ← hU]
      have u1 : U.length ≤ 60 := by rw [hU, List.length_map, fl_len]; exact K2
      have r1 : R.length ≤ 60 := by rw [hR, List.length_map, rP_len]; omega
      have iu : ∀ x ∈ U, Si 1 x := fun x hx => by rw [hU] at hx; obtain ⟨i, _, rfl⟩ := List.mem_map.mp hx; trivial
      have ir : ∀ x ∈ R, Si 1 x := fun x hx => by rw [hR] at hx; obtain ⟨i, _, rfl⟩ := List.mem_map.mp hx; trivial
      have si : Si 3 (.lst [.tup R, .tup U]) := ⟨by simp, fun x hx => by
        simp only [List.mem_cons, List.not_mem_nil, or_false] at hx
        rcases hx with rfl | rfl
        · exact ⟨by omega, ir⟩
        · exact ⟨by omega, iu⟩⟩
      simp [-List.map_map, si]
      refine ⟨ns, hX, hh, by omega, by omega, ?_⟩
      rw [← hU]
      have pU : Pl 60 (.tup U) := by rw [hU]; exact Pl_tints
      have eU : D.eqv (.tup U) (.tup U) = true := by rw [hU, eqv_tints, decide_eq_true rfl]
      refine ⟨pU, pU, ?_⟩
      rw [eU]
      simp
      exact hB _ rfl
    rintro ρ rfl
    refine seq_cut (fun ρ => ∃ ks : List Int, 1 ≤ ks.length ∧ ks.length ≤ 6 ∧ (∀ x ∈ ks, x.natAbs ≤ 10) ∧ ρ = [some (.ob 0, .sh), some (.tup X, .sh), some (.lst R, .sh), some (.int (K : Int), .sh), some (.tup U, .sh), some (.tup ((ks ++ [1]).map D.int), .sh), none, none, none, none, none, none, none, none]) ?_ ?_
    case refine_2 =>
      intro B hB
      simp [S_draw, -List.map_map]
      intro r r0 r1
      refine ⟨by omega, ?_⟩
      refine lc_all (rangeL 0 (1 + r).toNat) (fun d => ∃ n : Int, d = .int n ∧ n.natAbs ≤ 10) (by rw [rangeL_length, sizeLine_val]; omega) (fun x hx R hR => ?_) (fun ys hl hy => ?_)
      · simp [S_draw]
        exact fun q q0 q1 => hR _ ⟨_, rfl, by omega⟩
      · obtain ⟨ks, rfl, hk⟩ := ints_ex hy
        rw [rangeL_length, List.length_map] at hl
        simp [-List.map_map]
        refine ⟨by omega, hB _ ⟨ks, by omega, by omega, hk, ?_⟩⟩
        rw [List.map_append]
        rfl
    rintro ρ ⟨ks, k1, k2, kb, rfl⟩
    refine seq_cut (fun ρ => ρ = [some (.ob 0, .sh), some (.tup X, .sh), some (.lst R, .sh), some (.int (K : Int), .sh), some (.tup U, .sh), some (.tup ((ks ++ [1]).map D.int), .sh), none, none, none, none, none, none, none, none]) ?_ ?_
    case refine_2 =>
      intro B hB
      have si : Si 3 (.tup ((nwL (ldF ks) ks.length K).map D.int)) := ⟨by rw [List.length_map, nw_len]; omega, fun x hx => by obtain ⟨i, _, rfl⟩ := List.mem_map.mp hx; trivial⟩
      simp [-List.map_map, -List.map_append]
      refine ⟨ks, rfl, k1, by omega, fun x hx => by have := kb x hx; omega, by omega, by omega, .inl fun x hx => by have := kb x hx; omega, ks, rfl, k1, by omega, fun x hx => by have := kb x hx; omega, by omega, by omega, rfl, si, hB _ rfl⟩
    rintro ρ rfl
    obtain ⟨Z, hZ⟩ : ∃ Z, Z = (ks ++ [1]).map D.int := ⟨_, rfl⟩
    rw [← hZ]
    refine seq_cut (fun ρ => ∃ ms : List Int, HeapI ms ∧ ms.length ≤ 4 ∧ (∀ x ∈ ms, x.natAbs ≤ 1000) ∧ ρ = [some (.ob 0, .sh), some (.tup X, .sh), some (.lst R, .sh), some (.int (K : Int), .sh), some (.tup U, .sh), some (.tup Z, .sh), some (.tup (ms.map D.int), .sh), none, none, none, none, none, none, none]) ?_ ?_
    case refine_2 =>
      intro B hB
      simp [-List.map_map]
      exact fun ms a b c d => hB _ ⟨ms, ⟨by omega, by omega, fun x hx => by have := c x hx; omega, d⟩, by omega, c, rfl⟩
    rintro ρ ⟨ms, hm, ml, mb, rfl⟩
    have smm : ∀ n ∈ ms, n.natAbs < 2 ^ 20 := fun n hn => by have := mb n hn; omega
    have a1 : 1 ≤ (rP ns).length := by rw [rP_len]; omega
    have a2 : 1 ≤ (rP ms).length := by rw [rP_len]; omega
    have pl := mul_len a2 a1
    obtain ⟨N, hN⟩ : ∃ N, N = (mulL (rP ns) (rP ms)).length := ⟨_, rfl⟩
    have n1 := rP_len ns
    have n2 := rP_len ms
    have hN2 : N = ns.length + ms.length + 1 := by omega
    obtain ⟨V, hV⟩ : ∃ V, V = ms.map D.int := ⟨_, rfl⟩
    rw [← hV]
    refine seq_cut (fun ρ => ρ = [some (.ob 0, .sh), some (.tup X, .sh), some (.lst R, .sh), some (.int (K : Int), .sh), some (.tup U, .sh), some (.tup Z, .sh), some (.tup V, .sh), some (.lst (((List.range N).map fun m => (mulL ((rP ns).take 0) (rP ms)).getD m 0).map D.int), .ow), none, none, none, none, none, none]) ?_ ?_
    case refine_2 =>
      intro B hB
      have lX : X.length = ns.length := by rw [hX, List.length_map]
      have lV : V.length = ms.length := by rw [hV, List.length_map]
      simp [-List.map_map, lX, lV]
      rw [show ((ns.length : Int) + (ms.length : Int) + 1).toNat = N by omega, rep_range, show ((List.range N).map fun _ => (0 : Int)) = (List.range N).map fun m => (mulL ((rP ns).take 0) (rP ms)).getD m 0 from List.map_congr_left fun m _ => by simp [mulL]]
      exact ⟨⟨by omega, by omega, by omega⟩, hB _ rfl⟩
    rintro ρ rfl
    refine seq_cut (fun ρ => ∃ a b c d : Slot, ρ = [some (.ob 0, .sh), some (.tup X, .sh), some (.lst R, .sh), some (.int (K : Int), .sh), some (.tup U, .sh), some (.tup Z, .sh), some (.tup V, .sh), some (.lst ((mulL (rP ns) (rP ms)).map D.int), .ow), a, b, c, d, none, none]) ?_ ?_
    case refine_2 =>
      intro B hB
      simp [-List.map_map, -List.take_zero, -List.getD_eq_getElem?_getD]
      refine ⟨ns, hX, hh, ?_⟩
      rw [show (fl0 (rS (lf ns) ns.length) ns.length) = rP ns from rfl, enum_ints]
      refine forL_enc (enI (rP ns)) (List.range (rP ns).length) (fun i ρ => ∃ a b c d : Slot, ρ = [some (.ob 0, .sh), some (.tup X, .sh), some (.lst R, .sh), some (.int (K : Int), .sh), some (.tup U, .sh), some (.tup Z, .sh), some (.tup V, .sh), some (.lst (((List.range N).map fun m => (mulL ((rP ns).take i) (rP ms)).getD m 0).map D.int), .ow), a, b, c, d, none, none]) (fun ρ hρ => ?_) ?_ _ ⟨none, none, none, none, rfl⟩
      · obtain ⟨a, b, c, d, rfl⟩ := hρ
        rw [List.length_range, List.take_length, getD_list hN.symm]
        exact hB _ ⟨a, b, c, d, rfl⟩
      · rintro i hi ρ F ⟨a, b, c, d, rfl⟩ hF
        rw [List.length_range] at hi
        rw [List.getElem_range]
        simp [enI, -List.map_map, -List.getD_eq_getElem?_getD]
        refine ⟨ms, hV, hm, ?_⟩
        rw [show (fl0 (rS (lf ms) ms.length) ms.length) = rP ms from rfl, enum_ints]
        have tk : (rP ns).take (i + 1) = (rP ns).take i ++ [(rP ns).getD i 0] := by
          rw [List.take_succ_eq_append_getElem hi, gd_in hi]
        have tl : ((rP ns).take i).length = i := by rw [List.length_take]; omega
        refine forL_enc (enI (rP ms)) (List.range (rP ms).length) (fun j ρ => ∃ c d : Slot, ρ = [some (.ob 0, .sh), some (.tup X, .sh), some (.lst R, .sh), some (.int (K : Int), .sh), some (.tup U, .sh), some (.tup Z, .sh), some (.tup V, .sh), some (.lst (((List.range N).map fun m => (mulL ((rP ns).take i) (rP ms)).getD m 0 + if i ≤ m ∧ m < i + j then (rP ns).getD i 0 * (rP ms).getD (m - i) 0 else 0).map D.int), .ow), some (.int (i : Int), .sh), some (.int ((rP ns).getD i 0), .sh), c, d, none, none]) (fun ρ hρ => ?_) ?_ _ ⟨c, d, ?_⟩
        · obtain ⟨c, d, rfl⟩ := hρ
          rw [List.length_range]
          refine hF _ ⟨some (.int (i : Int), .sh), some (.int ((rP ns).getD i 0), .sh), c, d, ?_⟩
          have : (List.range N).map (fun m => (mulL ((rP ns).take i) (rP ms)).getD m 0 + if i ≤ m ∧ m < i + (rP ms).length then (rP ns).getD i 0 * (rP ms).getD (m - i) 0 else 0) = (List.range N).map fun m => (mulL ((rP ns).take (i + 1)) (rP ms)).getD m 0 := by
            refine List.map_congr_left fun m hm => ?_
            rw [tk, mul_snoc, tl]
            by_cases z : i ≤ m
            · by_cases y : m < i + (rP ms).length
              · rw [if_pos ⟨z, y⟩, if_pos z]
              · rw [if_neg (fun q => y q.2), if_pos z, gd_out (show (rP ms).length ≤ m - i by omega)]
                simp
            · rw [if_neg (fun q => z q.1), if_neg z]
          rw [this]
        · rintro j hj ρ G ⟨c, d, rfl⟩ hG
          rw [List.length_range] at hj
          rw [List.getElem_range]
          have e : (i : Int) + (j : Int) = ((i + j : Nat) : Int) := by omega
          have lt : i + j < N := by omega
          obtain ⟨f, hf⟩ : ∃ f : Nat → Int, f = fun m => (mulL ((rP ns).take i) (rP ms)).getD m 0 + if i ≤ m ∧ m < i + j then (rP ns).getD i 0 * (rP ms).getD (m - i) 0 else 0 := ⟨_, rfl⟩
          rw [← hf]
          have ha : atI (((List.range N).map f).map D.int) ((i : Int) + (j : Int)) = some (.int (f (i + j))) := by
            rw [e]
            exact at_range f lt
          have hi2 : ixN N ((i : Int) + (j : Int)) = some (i + j) := by
            rw [e, ixN_nat, if_pos lt]
          have fin : ((List.range N).map fun m => if m = i + j then f (i + j) + (rP ns).getD i 0 * (rP ms).getD j 0 else f m) = (List.range N).map fun m => (mulL ((rP ns).take i) (rP ms)).getD m 0 + if i ≤ m ∧ m < i + (j + 1) then (rP ns).getD i 0 * (rP ms).getD (m - i) 0 else 0 := by
            refine List.map_congr_left fun m hm => ?_
            have fe : ∀ m, f m = (mulL ((rP ns).take i) (rP ms)).getD m 0 + if i ≤ m ∧ m < i + j then (rP ns).getD i 0 * (rP ms).getD (m - i) 0 else 0 := fun m => by rw [hf]
            rw [fe, fe]
            by_cases z : m = i + j
            · subst z
              rw [if_pos rfl, if_neg (fun q => by omega), if_pos ⟨by omega, by omega⟩, show i + j - i = j by omega]
              omega
            · rw [if_neg z]
              by_cases y : i ≤ m ∧ m < i + j
              · rw [if_pos y, if_pos ⟨y.1, by omega⟩]
              · rw [if_neg y, if_neg (fun q => y ⟨q.1, by omega⟩)]
          have mo : MulOk ((rP ns).getD i 0) ((rP ms).getD j 0) := mul_k (k := 200) (l := 200) (rP_bd hl hb i) (rP_bd (by omega) mb j) (by decide) (by decide) (by decide)
          simp [enI, -List.map_map, -List.getD_eq_getElem?_getD, ha, hi2, mo]
          rw [set_range f lt, fin]
          exact hG _ ⟨_, _, rfl⟩
        · have : (List.range N).map (fun m => (mulL ((rP ns).take i) (rP ms)).getD m 0 + if i ≤ m ∧ m < i + 0 then (rP ns).getD i 0 * (rP ms).getD (m - i) 0 else 0) = (List.range N).map fun m => (mulL ((rP ns).take i) (rP ms)).getD m 0 := List.map_congr_left fun m hm => by
            rw [if_neg (fun q => by omega)]
            omega
          rw [this]
    rintro ρ ⟨a, b, c, d, rfl⟩
    have ej : rP (isort (ns ++ ms)) = mulL (rP ns) (rP ms) := ev_ext (by rw [rP_len, isort_len, List.length_append]; omega) fun t => by
      rw [ev_rP, ev_mul, ev_rP, ev_rP, px_perm _ (isort_perm _), px_app]
    have hj : HeapI (isort (ns ++ ms)) := HeapI.of_sort (by rw [List.length_append]; omega) (by rw [List.length_append]; omega) fun x hx => by
      rcases List.mem_append.mp hx with q | q
      · exact hh.r x q
      · exact hm.r x q
    simp [-List.map_map]
    refine ⟨ns, hX, ms, hV, hh, hm, by omega, _, rfl, hj, ?_⟩
    rw [show fl0 (rS (lf (isort (ns ++ ms))) (isort (ns ++ ms)).length) (isort (ns ++ ms)).length = mulL (rP ns) (rP ms) from ej]
    refine ⟨Pl_tints, Pl_tints, ?_⟩
    rw [eqv_tints, decide_eq_true rfl]
    exact h
  · exact h.elim
theorem l_law_is_heap_right : ∀ ds Q E, S_law_is_heap_right ds Q E → ds.length = 2 := by
  intro ds Q E h
  unfold S_law_is_heap_right at h
  split at h
  · rfl
  · exact h.elim

theorem o_first_unlike : ∀ ds Q E, S_first_unlike ds Q E → m_first_unlike (ev0 N_first_unlike ds) { nx := fun _ => Q .non, rt := fun d _ => Q d, ex := fun x _ => E x } := by
  intro ds Q E h
  unfold S_first_unlike at h
  split at h
  · obtain ⟨ns, ms, rfl, rfl, l1, l2, b1, b2, h⟩ := h
    simp [m_first_unlike, ev0, -List.map_map]
    refine ⟨Pl_tints, Pl_tints, ?_⟩
    rw [eqv_tints]
    rcases h with ⟨rfl, h⟩ | ⟨ne, p, p1, hp, h⟩
    · rw [decide_eq_true rfl]
      simpa using h
    · rw [decide_eq_false ne]
      simp [-List.map_map]
      refine while_ind (fun v ρ => ∃ q : Nat, v = p - q ∧ 1 ≤ q ∧ q ≤ p ∧ ρ = [some (.tup (ns.map D.int), .sh), some (.tup (ms.map D.int), .sh), some (.int (q : Int), .sh)]) ?_ (p - 1) _ ⟨1, rfl, Nat.le_refl _, hp.p1, rfl⟩
      rintro v ρ F ⟨q, rfl, q1, q2, rfl⟩ hF
      simp [-List.map_map]
      refine ⟨ns, rfl, l1, b1, by omega, ms, rfl, l2, b2, by omega, ?_⟩
      by_cases z : q = p
      · subst z
        rw [if_neg hp.un]
        exact h
      · rw [if_pos (hp.lo q q1 (by omega))]
        exact hF (p - (q + 1)) _ (by omega) ⟨q + 1, rfl, by omega, by omega, by simp⟩
  · exact h.elim
theorem l_first_unlike : ∀ ds Q E, S_first_unlike ds Q E → ds.length = 2 := by
  intro ds Q E h
  unfold S_first_unlike at h
  split at h
  · rfl
  · exact h.elim

theorem o_like_far : ∀ ds Q E, S_like_far ds Q E → m_like_far (ev0 N_like_far ds) { nx := fun _ => Q .non, rt := fun d _ => Q d, ex := fun x _ => E x } := by
  intro ds Q E h
  unfold S_like_far at h
  split at h
  · obtain ⟨ns, ms, rfl, rfl, h1, h2, hl, h⟩ := h
    have g1 := h1.l2
    have g2 := h2.l2
    unfold m_like_far
    refine seq_cut (fun ρ => ρ = [some (.tup (ns.map D.int), .sh), some (.tup (ms.map D.int), .sh), none]) ?_ ?_
    case refine_2 =>
      intro B hB
      simp [ev0, -List.map_map, h1.th, h2.th, h1.heap, h2.heap, D.lenT, hl]
      exact hB _ rfl
    rintro ρ rfl
    simp [-List.map_map, -S_first_unlike]
    simp only [S_first_unlike]
    refine ⟨ns, ms, rfl, rfl, by omega, by omega, h1.big, h2.big, ?_⟩
    rcases h with ⟨e, h⟩ | ⟨ne, p, p1, hp, h⟩
    · refine .inl ⟨e, ?_⟩
      simp
      exact h
    · refine .inr ⟨ne, p, p1, hp, ?_⟩
      simp
      exact h
  · exact h.elim
theorem l_like_far : ∀ ds Q E, S_like_far ds Q E → ds.length = 2 := by
  intro ds Q E h
  unfold S_like_far at h
  split at h
  · rfl
  · exact h.elim

theorem o_law_is_pair_right : ∀ ds Q E, S_law_is_pair_right ds Q E → m_law_is_pair_right (ev0 N_law_is_pair_right ds) { nx := fun _ => Q .non, rt := fun d _ => Q d, ex := fun x _ => E x } := by
  intro ds Q E h
  unfold S_law_is_pair_right at h
  split at h
  · rename_i xs ys
    obtain ⟨ns, ms, rfl, rfl, h1, h2, l, h⟩ := h
    have sm : ∀ {ns : List Int}, HeapI ns → ∀ n ∈ ns, n.natAbs < 2 ^ 20 := fun h n hn => by have := h.r n hn; omega
    have n1 := h1.l2
    have n0 := h1.l1
    have gl := gp_len l
    obtain ⟨C, hC⟩ : ∃ C, C = cutL (gpL ns ms) := ⟨_, rfl⟩
    have cl : C.length ≤ ns.length + 1 := by rw [hC]; have := cut_len (gpL ns ms); omega
    have c1 : 1 ≤ C.length := by rw [hC]; exact cut_pos (by omega)
    unfold m_law_is_pair_right
    refine seq_cut (fun ρ => ρ = [some (.tup (ns.map D.int), .sh), some (.tup (ms.map D.int), .sh), some (.lst ((gpL ns ms).map D.int), .sh), none, none, none, none]) ?_ ?_
    case refine_2 =>
      intro B hB
      simp [ev0, -List.map_map]
      refine ⟨ns, rfl, n1, sm h1, ms, rfl, h2.l2, sm h2, ?_⟩
      exact zip_sub l (fun x y R hR => by simp; exact hR) (by omega) (hB _ rfl)
    rintro ρ rfl
    refine seq_cut (fun ρ => ρ = [some (.tup (ns.map D.int), .sh), some (.tup (ms.map D.int), .sh), some (.lst (C.map D.int), .sh), none, none, none, none]) ?_ ?_
    case refine_2 =>
      intro B hB
      refine while_ind (fun v ρ => ∃ zs : List Int, v = zs.length ∧ 1 ≤ zs.length ∧ zs.length ≤ ns.length + 1 ∧ cutL zs = C ∧ ρ = [some (.tup (ns.map D.int), .sh), some (.tup (ms.map D.int), .sh), some (.lst (zs.map D.int), .sh), none, none, none, none]) ?_ (gpL ns ms).length _ ⟨gpL ns ms, rfl, by omega, by omega, hC.symm, rfl⟩
      rintro v ρ F ⟨zs, rfl, z1, z2, e, rfl⟩ hF
      obtain ⟨ws, z, rfl⟩ : ∃ ws z, zs = ws ++ [z] := ⟨_, _, (List.dropLast_concat_getLast (pos_ne z1)).symm⟩
      have eq : (ws ++ [z]).map D.int = ws.map D.int ++ [.int z] := by rw [List.map_append]; rfl
      rw [eq]
      have am : atI (ws.map D.int ++ [D.int z]) (-1) = some (.int z) := by
        unfold atI ixN
        simp
        rw [if_pos (by omega)]
        show (List.map D.int ws ++ [D.int z])[(-1 + ((ws.length : Int) + 1)).toNat]? = _
        rw [show (-1 + ((ws.length : Int) + 1)).toNat = (ws.map D.int).length by simp; omega]
        simp
      simp [-List.map_map, am, cut_m1]
      cases ws with
      | nil =>
        simp
        have e : [z] = C := e
        rw [← e] at hB
        exact hB _ rfl
      | cons y r =>
        rw [if_pos (by simp; omega)]
        by_cases hz : z = 0
        · subst hz
          rw [cut_0 _ (by simp)] at e
          rw [if_pos rfl]
          exact hF _ _ (by simp) ⟨y :: r, rfl, by simp, by simp at z2 ⊢; omega, e, rfl⟩
        · rw [cut_nz hz] at e
          rw [if_neg hz, ← eq, e]
          exact hB _ rfl
    rintro ρ rfl
    obtain ⟨dg, hdg⟩ : ∃ dg : D, dg = if ns = ms then .non else .int ((C.length : Int) - 1) := ⟨_, rfl⟩
    refine seq_cut (fun ρ => ρ = [some (.tup (ns.map D.int), .sh), some (.tup (ms.map D.int), .sh), some (.lst (C.map D.int), .sh), some (dg, .sh), none, none, none]) ?_ ?_
    case refine_2 =>
      intro B hB
      simp [-List.map_map]
      refine ⟨Pl_tints, Pl_tints, ?_⟩
      rw [eqv_tints]
      by_cases z : ns = ms
      · rw [if_pos z] at hdg
        rw [decide_eq_true z]
        simp [-List.map_map]
        exact hB _ (by rw [hdg])
      · rw [if_neg z] at hdg
        rw [decide_eq_false z]
        simp [-List.map_map]
        exact hB _ (by rw [hdg])
    rintro ρ rfl
    have gd : (if C = [0] then D.non else .int ((C.length : Int) - 1)) = dg := by
      rw [hdg]
      by_cases z : ns = ms
      · rw [if_pos z, if_pos (by rw [hC, ← z]; exact gp_self ns)]
      · obtain ⟨p, tl⟩ := tl_ex h1 h2 l z
        rw [if_neg z, if_neg (by rw [hC]; exact tl.n)]
    have sd : Si 2 dg := by
      rw [hdg]
      split <;> trivial
    refine seq_cut (fun ρ => ρ = [some (.tup (ns.map D.int), .sh), some (.tup (ms.map D.int), .sh), some (.lst (C.map D.int), .sh), some (dg, .sh), none, none, none]) ?_ ?_
    case refine_2 =>
      intro B hB
      have si : Si 3 (.lst [.tup (C.map D.int), dg]) := ⟨by simp, fun x hx => by
        simp only [List.mem_cons, List.not_mem_nil, or_false] at hx
        rcases hx with rfl | rfl
        · exact ⟨by rw [List.length_map]; omega, fun x hx => by obtain ⟨i, _, rfl⟩ := List.mem_map.mp hx; trivial⟩
        · exact sd⟩
      simp [-List.map_map, -S_law_same_]
      refine ⟨ns, rfl, ms, rfl, h1, h2, l, ns, rfl, ms, rfl, h1, h2, l, ?_⟩
      rw [← hC, gd]
      simp [-List.map_map, si]
      exact hB _ rfl
    rintro ρ rfl
    by_cases z : ns = ms
    · have cz : C = [0] := by rw [hC, ← z]; exact gp_self ns
      have eq := eqv_ints (as := [0]) (bs := [0])
      rw [decide_eq_true rfl] at eq
      have eq : D.eqv (.lst [.int 0]) (.lst [.int 0]) = true := eq
      have pz : Pl 60 (.lst [.int 0]) := Pl_ints (ns := [0])
      simp [-List.map_map]
      refine ⟨Pl_tints, Pl_tints, ?_⟩
      rw [eqv_tints, decide_eq_true z, cz]
      simp [eq, pz]
      exact h
    · obtain ⟨p, tl⟩ := tl_ex h1 h2 l z
      rw [if_neg z] at hdg
      have tc := tl.c
      have tp := tl.f.p1
      have tl2 := tl.l
      rw [← hC] at tc
      subst hdg
      simp [-List.map_map, -S_like_far]
      refine ⟨Pl_tints, Pl_tints, ?_⟩
      rw [eqv_tints, decide_eq_false z]
      simp [-List.map_map, -S_like_far]
      refine ⟨by omega, ?_⟩
      rw [rangeL_enc]
      refine lc_enc (fun k : Nat => D.int (k : Int)) (fun _ => .bl true) (List.range ns.length) (by rw [List.length_range, sizeLine_val]; omega) (fun k hk R hR => ?_) ?_
      · have hk := List.mem_range.mp hk
        simp [-List.map_map, -S_like_far]
        simp only [S_like_far]
        refine ⟨ns, ms, rfl, rfl, h1, h2, l, .inr ⟨z, p, by omega, tl.f, ?_⟩⟩
        simp [-List.map_map]
        have e : (decide ((k : Int) ≤ (p : Int) - 1) == decide ((C.length : Int) ≤ (ns.length : Int) - (k : Int))) = true := by
          rw [beq_iff_eq]
          exact decide_eq_decide.mpr (by omega)
        rw [e]
        exact hR
      · simp
        rw [show ((List.range ns.length).all fun _ => true) = true by simp]
        exact h
  · exact h.elim
theorem l_law_is_pair_right : ∀ ds Q E, S_law_is_pair_right ds Q E → ds.length = 2 := by
  intro ds Q E h
  unfold S_law_is_pair_right at h
  split at h
  · rfl
  · exact h.elim

theorem o0_law : ∀ ns : List Int, ns.length ≤ 63 → m0_law (ev0 N_law [.fl ns]) { nx := fun ρ => ∃ cells p r x n, HdC cells p r x n ∧ ρ.get 1 = some (hdD cells p r x n, .sh) ∧ ρ.length = N_law.length, rt := fun _ _ => False, ex := fun _ _ => False } := by
  intro ns hl
  simp [m0_law, ev0, S_hand]
  refine ⟨hl, fun cells p r x n hc => ⟨cells, p, r, x, n, hc, rfl, rfl, rfl, rfl, rfl⟩⟩
theorem o_law : m_law (ev1 N_law) { nx := fun _ => False, rt := fun d _ => d = .bl true, ex := fun _ _ => False } := by
  unfold m_law ev1
  have hp : ∀ hs : List Int, 1 ≤ hs.length → hs.length ≤ 6 → (∀ n ∈ hs, n.natAbs ≤ 99) → hs.Pairwise (· ≤ ·) → HeapI hs := fun hs a b c d => ⟨a, by omega, fun i hi => by have := c i hi; omega, (isort_sorted d).symm⟩
  have a1 := hp [0, 3] (by decide) (by decide) (by decide) (by decide)
  have a2 := hp [1, 2] (by decide) (by decide) (by decide) (by decide)
  have a3 := hp [1, 5, 6] (by decide) (by decide) (by decide) (by decide)
  have a4 := hp [2, 3, 7] (by decide) (by decide) (by decide) (by decide)
  have a5 := hp [4] (by decide) (by decide) (by decide) (by decide)
  have e1 : fl0 (rS (lf [1, 5, 6]) ([1, 5, 6] : List Int).length) ([1, 5, 6] : List Int).length = [-30, 41, -12, 1] := by decide +kernel
  have e2 : cutL (gpL [1, 5, 6] [2, 3, 7]) = [12] := by decide +kernel
  have e3 : cutL (gpL [0, 3] [1, 2]) = [-2] := by decide +kernel
  have e4 : cutL (gpL [4] [4]) = [0] := by decide +kernel
  have e5 : nwL (ldF [-30, 41, -12]) ([-30, 41, -12] : List Int).length (3 : Int).toNat = [12, 62, 342] := by decide +kernel
  have e6 : nwL (ldF [1, 0]) ([1, 0] : List Int).length (4 : Int).toNat = [0, -2, 0, 2] := by decide +kernel
  obtain ⟨L, hL⟩ : ∃ L : List D, L = [.tup [.int (-30), .int 41, .int (-12), .int 1], .tup [.int 12], .int 0, .tup [.int 0], .non, .tup [.int 12, .int 62, .int 342], .tup [.int 0, .int (-2), .int 0, .int 2]] := ⟨_, rfl⟩
  refine seq_cut (fun ρ => ρ = [none, some (.ob 0, .sh), some (.lst L, .sh), none, none, none]) ?_ ?_
  case refine_2 =>
    intro B hB
    simp [-List.map_map, -S_root_poly, -S_root_gap, -S_gap_degree, -S_newton_sums]
    simp only [S_root_poly]
    refine ⟨[1, 5, 6], rfl, a3, ?_⟩
    rw [e1]
    simp only [S_root_gap]
    refine ⟨[1, 5, 6], [2, 3, 7], rfl, rfl, a3, a4, rfl, ?_⟩
    rw [e2]
    simp only [S_gap_degree]
    refine ⟨[0, 3], [1, 2], rfl, rfl, a1, a2, rfl, ?_⟩
    rw [e3, if_neg (by decide)]
    refine ⟨[4], [4], rfl, rfl, a5, a5, rfl, ?_⟩
    rw [e4]
    refine ⟨[4], [4], rfl, rfl, a5, a5, rfl, ?_⟩
    rw [e4, if_pos rfl]
    simp only [S_newton_sums]
    refine ⟨[-30, 41, -12], rfl, by decide, by decide, by decide, by decide, by decide, .inl (by decide), ?_⟩
    rw [e5]
    refine ⟨[1, 0], rfl, by decide, by decide, by decide, by decide, by decide, .inl (by decide), ?_⟩
    rw [e6]
    refine hB _ ?_
    rw [hL]
    rfl
  rintro ρ rfl
  refine seq_cut (fun ρ => ρ = [none, some (.ob 0, .sh), some (.lst L, .sh), none, none, none]) ?_ ?_
  case refine_2 =>
    intro B hB
    rw [hL] at hB ⊢
    simp [Si]
    exact hB _ rfl
  rintro ρ rfl
  refine seq_cut (fun ρ => True) ?_ ?_
  · rintro ρ _
    simp
  intro B hB
  simp only [sFor, iR1, mCons, mC, mNil, asI1, asI]
  refine ⟨by decide, ?_⟩
  refine forL_range 0 6 (fun _ ρ => ∃ a b c : Slot, ρ = [none, some (.ob 0, .sh), some (.lst L, .sh), a, b, c]) (fun ρ _ => hB _ trivial) ?_ _ ⟨_, _, _, rfl⟩
  rintro q0 ρ F hq ⟨a, b, c, rfl⟩ hF
  simp only [nSet, Ev.put]
  refine seq_cut (fun ρ => ∃ ns ms : List Int, HeapI ns ∧ HeapI ms ∧ ns.length = ms.length ∧ ρ = [none, some (.ob 0, .sh), some (.lst L, .sh), some (.int (0 + (q0 : Int)), .sh), some (.tup (ns.map D.int), .sh), some (.tup (ms.map D.int), .sh)]) ?_ ?_
  case refine_2 =>
    intro B hB
    simp [-List.map_map]
    intro ns ms h1 h2 h3 h4 h5 h6
    refine hB _ ⟨ns, ms, h1, h2, h3, ?_⟩
    rw [Int.zero_add]
  rintro ρ ⟨ns, ms, h1, h2, h3, rfl⟩
  simp [-List.map_map, -S_law_is_heap_right, -S_law_is_pair_right]
  intro xs x1 x2 x3 x4
  simp only [S_law_is_heap_right]
  refine ⟨xs, rfl, ⟨x1, by omega, fun i hi => by have := x3 i hi; omega, x4⟩, by omega, x3, ?_⟩
  simp [-List.map_map, -S_law_is_pair_right]
  simp only [S_law_is_pair_right]
  refine ⟨ns, ms, rfl, rfl, h1, h2, h3, ?_⟩
  simp
  exact hF _ ⟨_, _, _, rfl⟩


def top (i : Nat) : Stmt := PySem.Challenge.pw_powersalike_k08_whole_products_and_newto.main.body.getD i (.Pass ⟨0, 0, 0, 0⟩)
structure Txt (K : PySem.W.Frag) (mg : Str → Option Value) : Prop where
  d_is_integer : HasDef K mg "is_integer" (top 11) ["thing"]
  d_is_within : HasDef K mg "is_within" (top 12) ["thing", "low", "high"]
  d_are_items : HasDef K mg "are_items" (top 13) ["thing"]
  d_is_heap : HasDef K mg "is_heap" (top 14) ["thing"]
  d_check_heap : HasDef K mg "check_heap" (top 15) ["thing"]
  d_raw_roots : HasDef K mg "raw_roots" (top 30) ["heap"]
  d_root_poly : HasDef K mg "root_poly" (top 31) ["heap"]
  d_check_both : HasDef K mg "check_both" (top 21) ["one", "other"]
  d_check_two : HasDef K mg "check_two" (top 26) ["one", "other"]
  d_trimmed : HasDef K mg "trimmed" (top 29) ["terms"]
  d_raw_root_gap : HasDef K mg "raw_root_gap" (top 32) ["one", "other"]
  d_root_gap : HasDef K mg "root_gap" (top 33) ["one", "other"]
  d_gap_degree : HasDef K mg "gap_degree" (top 34) ["one", "other"]
  d_check_number : HasDef K mg "check_number" (top 16) ["thing", "low", "high"]
  d_is_poly : HasDef K mg "is_poly" (top 35) ["thing"]
  d_newton_sums : HasDef K mg "newton_sums" (top 36) ["poly", "most"]
  d_law_hand : HasDef K mg "_law_hand" (top 38) ["script"]
  d_law_same : HasDef K mg "_law_same" (top 41) ["one", "due"]
  d_law_draw : HasDef K mg "_law_draw" (top 39) ["hand", "many"]
  d_law_any : HasDef K mg "_law_any" (top 40) ["hand", "some"]
  d_law_drawn : HasDef K mg "_law_drawn" (top 42) ["hand", "most"]
  d_law_less : HasDef K mg "_law_less" (top 45) ["one", "other"]
  d_law_grown : HasDef K mg "_law_grown" (top 46) ["one", "other", "by"]
  d_law_pair : HasDef K mg "_law_pair" (top 47) ["hand"]
  d_raw_power : HasDef K mg "raw_power" (top 18) ["number", "times"]
  d_raw_sum : HasDef K mg "raw_sum" (top 19) ["heap", "k"]
  d_power_sums : HasDef K mg "power_sums" (top 20) ["heap", "most"]
  d_as_heap : HasDef K mg "as_heap" (top 17) ["numbers"]
  d_joined : HasDef K mg "joined" (top 22) ["one", "other"]
  d_law_power : HasDef K mg "_law_power" (top 43) ["number_here", "k"]
  d_law_sum : HasDef K mg "_law_sum" (top 44) ["heap", "k"]
  d_law_roots : HasDef K mg "_law_roots" (top 48) ["heap"]
  d_law_newton : HasDef K mg "_law_newton" (top 49) ["terms", "most"]
  d_law_is_heap_right : HasDef K mg "_law_is_heap_right" (top 50) ["hand", "heap"]
  d_first_unlike : HasDef K mg "first_unlike" (top 27) ["one", "other"]
  d_like_far : HasDef K mg "like_far" (top 28) ["one", "other"]
  d_law_is_pair_right : HasDef K mg "_law_is_pair_right" (top 51) ["one", "other"]
  n_abs : mg "abs" = none
  n_all : mg "all" = none
  n_bool : mg "bool" = none
  n_enumerate : mg "enumerate" = none
  n_int : mg "int" = none
  n_isinstance : mg "isinstance" = none
  n_len : mg "len" = none
  n_list : mg "list" = none
  n_min : mg "min" = none
  n_range : mg "range" = none
  n_sorted : mg "sorted" = none
  n_sum : mg "sum" = none
  n_tuple : mg "tuple" = none
  n_zip : mg "zip" = none
  g_MOST_HEAP : ∃ t, mg "MOST_HEAP" = some (.int 40 t)
  g_MOST_ITEM : ∃ t, mg "MOST_ITEM" = some (.int 100000 t)
  g_MOST_POWER : ∃ t, mg "MOST_POWER" = some (.int 60 t)
  g_MOST_TERM : ∃ t, mg "MOST_TERM" = some (.int 1000000000000000000000000000000000000000000000000000000000000 t)
  g_MOST_TERMS : ∃ t, mg "MOST_TERMS" = some (.int 41 t)
  e_NoHeap : HasExc K mg "NoHeap"
  e_NoNumber : HasExc K mg "NoNumber"
  e_NoNumbers : HasExc K mg "NoNumbers"
  e_NoPoly : HasExc K mg "NoPoly"
  e_Unlike : HasExc K mg "Unlike"
section
variable {P : Program} {w : World} {K : PySem.W.Frag} {mg : Str → Option Value} {base : Heap}
theorem sc_is_integer : FnScope N_is_integer ["thing"] (defScope (top 11)) := ⟨rfl, rfl, rfl, by decide +kernel, rfl, by decide +kernel, by decide +kernel⟩
theorem d_is_integer (T : Txt K mg)  (hl : ∀ ds Q E, S_is_integer ds Q E → ds.length = 1)
   (o1 : ∀ ds Q E, S_is_integer ds Q E → m_is_integer (ev0 N_is_integer ds) { nx := fun _ => Q .non, rt := fun d _ => Q d, ex := fun x _ => E x }) : DefAt P w K mg base 1 "is_integer" S_is_integer :=
  def_at (k := 0) T.d_is_integer sc_is_integer (fun f cdv A outer s H E c W hr hf np tk => (sb_one (ss_ret (ee_and hf (ee_isi hf T.n_isinstance (ab_v 0 (ab_s (ee_ty T.n_int) ab_nil))) (ee_one (ee_not hf (EE.eb (ee_isi hf T.n_isinstance (ab_v 0 (ab_s (ee_ty T.n_bool) ab_nil)))))))))) hl o1
theorem sc_is_within : FnScope N_is_within ["thing", "low", "high"] (defScope (top 12)) := ⟨rfl, rfl, rfl, by decide +kernel, rfl, by decide +kernel, by decide +kernel⟩
theorem d_is_within (T : Txt K mg) (F_is_integer : DefAt P w K mg base 1 "is_integer" S_is_integer) (hl : ∀ ds Q E, S_is_within ds Q E → ds.length = 3)
   (o1 : ∀ ds Q E, S_is_within ds Q E → m_is_within (ev0 N_is_within ds) { nx := fun _ => Q .non, rt := fun d _ => Q d, ex := fun x _ => E x }) : DefAt P w K mg base 2 "is_within" S_is_within :=
  def_at (k := 1) T.d_is_within sc_is_within (fun f cdv A outer s H E c W hr hf np tk => (sb_one (ss_ret (ee_and hf (ee_call hf np tk (F_is_integer.call hr) (as_cons (ee_var 0) as_nil)) (ee_one (ch_lele (ee_var 1) (ee_var 0) (ee_var 2))))))) hl o1
theorem sc_are_items : FnScope N_are_items ["thing"] (defScope (top 13)) := ⟨rfl, rfl, rfl, by decide +kernel, rfl, by decide +kernel, by decide +kernel⟩
theorem d_are_items (T : Txt K mg) (F_is_within : DefAt P w K mg base 2 "is_within" S_is_within) (hl : ∀ ds Q E, S_are_items ds Q E → ds.length = 1)
   (o1 : ∀ ds Q E, S_are_items ds Q E → m_are_items (ev0 N_are_items ds) { nx := fun _ => Q .non, rt := fun d _ => Q d, ex := fun x _ => E x }) : DefAt P w K mg base 3 "are_items" S_are_items :=
  def_at (k := 2) T.d_are_items sc_are_items (fun f cdv A outer s H E c W hr hf np tk => (sb_cons (ss_if (EW.et (ew_or (et_not (et_tru hf (EE.eb (ee_isi hf T.n_isinstance (ab_v 0 (ab_s (ee_ty T.n_tuple) ab_nil)))))) (ew_or1 (et_not (ct_lele ee_int (ee_len hf T.n_len (ab_v 0 ab_nil)) (ee_glob (glob_int T.g_MOST_HEAP.choose_spec))))))) (sb_one (ss_ret ee_bl)) sb_nil) (sb_one (ss_ret (ee_all hf rfl T.n_all (ab_s (EF.ee (ef_lc (own := [("one", 1)]) (is := [1]) rfl sc_are_items.nd (sib_name 0 hf) (show BlkOk N_are_items (defScope (top 13)) _ _ from ⟨rfl, by decide +kernel, by decide +kernel, by decide +kernel, by decide +kernel⟩) (by decide) (fun _ => (sg_name 1 sc_are_items.nd)) (fun _ => ets_nil) (fun _ => (ee_call (Fit.blk hf) np takes_no (F_is_within.call hr) (as_cons (ee_var 1) (as_cons (ee_neg (ee_glob (glob_int T.g_MOST_ITEM.choose_spec))) (as_cons (ee_glob (glob_int T.g_MOST_ITEM.choose_spec)) as_nil))))))) ab_nil)))))) hl o1
theorem sc_is_heap : FnScope N_is_heap ["thing"] (defScope (top 14)) := ⟨rfl, rfl, rfl, by decide +kernel, rfl, by decide +kernel, by decide +kernel⟩
theorem d_is_heap (T : Txt K mg) (F_are_items : DefAt P w K mg base 3 "are_items" S_are_items) (hl : ∀ ds Q E, S_is_heap ds Q E → ds.length = 1)
   (o1 : ∀ ds Q E, S_is_heap ds Q E → m_is_heap (ev0 N_is_heap ds) { nx := fun _ => Q .non, rt := fun d _ => Q d, ex := fun x _ => E x }) : DefAt P w K mg base 4 "is_heap" S_is_heap :=
  def_at (k := 3) T.d_is_heap sc_is_heap (fun f cdv A outer s H E c W hr hf np tk => (sb_one (ss_ret (ee_and hf (ee_call hf np tk (F_are_items.call hr) (as_cons (ee_var 0) as_nil)) (ee_one (ee_eq hf hr.units (e2_s (EF.ee (ef_list hf T.n_list (ab_v 0 ab_nil))) (EE.eb (EF.ee (ef_sort3 hf hr T.n_sorted (ab_v 0 ab_nil))))))))))) hl o1
theorem sc_check_heap : FnScope N_check_heap ["thing"] (defScope (top 15)) := ⟨rfl, rfl, rfl, by decide +kernel, rfl, by decide +kernel, by decide +kernel⟩
theorem d_check_heap (T : Txt K mg) (F_is_heap : DefAt P w K mg base 4 "is_heap" S_is_heap) (hl : ∀ ds Q E, S_check_heap ds Q E → ds.length = 1)
   (o1 : ∀ ds Q E, S_check_heap ds Q E → m_check_heap (ev0 N_check_heap ds) { nx := fun _ => Q .non, rt := fun d _ => Q d, ex := fun x _ => E x }) : DefAt P w K mg base 5 "check_heap" S_check_heap :=
  def_at (k := 4) T.d_check_heap sc_check_heap (fun f cdv A outer s H E c W hr hf np tk => (sb_one (ss_if (et_not (et_tru hf (EE.eb (ee_call hf np tk (F_is_heap.call hr) (as_cons (ee_var 0) as_nil))))) (sb_one (ss_raise hf tk T.e_NoHeap)) sb_nil))) hl o1
theorem sc_raw_roots : FnScope N_raw_roots ["heap"] (defScope (top 30)) := ⟨rfl, rfl, rfl, by decide +kernel, rfl, by decide +kernel, by decide +kernel⟩
theorem d_raw_roots (T : Txt K mg)  (hl : ∀ ds Q E, S_raw_roots ds Q E → ds.length = 1)
   (o1 : ∀ ds Q E, S_raw_roots ds Q E → m_raw_roots (ev0 N_raw_roots ds) { nx := fun _ => Q .non, rt := fun d _ => Q d, ex := fun x _ => E x }) : DefAt P w K mg base 1 "raw_roots" S_raw_roots :=
  def_at (k := 0) T.d_raw_roots sc_raw_roots (fun f cdv A outer s H E c W hr hf np tk => (sb_cons (ss_set 1 sc_raw_roots.nd (EF.ee (ef_lst (as_cons ee_int as_nil)))) (sb_cons (ss_for (passes_of rfl) rfl (si_var 0 hf) (sg_name 2 sc_raw_roots.nd) (sb_cons (ss_setF 3 np sc_raw_roots.nd (ef_add (e2_s (EF.ee (ef_lst (as_cons ee_int as_nil))) (eb_var 1)))) (sb_cons (ss_for (passes_of rfl) rfl (si_enum hf T.n_enumerate (as_cons (ee_var 1) as_nil)) (sg_tup hf rfl (sgs_cons (sg_name 4 sc_raw_roots.nd) (sgs_cons (sg_name 5 sc_raw_roots.nd) sgs_nil))) (sb_one (ss_augix 3 ip_sub (ee_var 4) (ee_mul (e2_v 2 (eb_var 5)))))) (sb_one (ss_set 1 sc_raw_roots.nd (ee_var 3)))))) (sb_one (ss_ret (ee_var 1)))))) hl o1
theorem sc_root_poly : FnScope N_root_poly ["heap"] (defScope (top 31)) := ⟨rfl, rfl, rfl, by decide +kernel, rfl, by decide +kernel, by decide +kernel⟩
theorem d_root_poly (T : Txt K mg) (F_check_heap : DefAt P w K mg base 5 "check_heap" S_check_heap) (F_raw_roots : DefAt P w K mg base 1 "raw_roots" S_raw_roots) (hl : ∀ ds Q E, S_root_poly ds Q E → ds.length = 1)
   (o1 : ∀ ds Q E, S_root_poly ds Q E → m_root_poly (ev0 N_root_poly ds) { nx := fun _ => Q .non, rt := fun d _ => Q d, ex := fun x _ => E x }) : DefAt P w K mg base 6 "root_poly" S_root_poly :=
  def_at (k := 5) T.d_root_poly sc_root_poly (fun f cdv A outer s H E c W hr hf np tk => (sb_cons (ss_expr (ee_call hf np tk (F_check_heap.call hr) (as_cons (ee_var 0) as_nil))) (sb_one (ss_ret (ee_tuple hf T.n_tuple (ab_s (ee_call hf np tk (F_raw_roots.call hr) (as_cons (ee_var 0) as_nil)) ab_nil)))))) hl o1
theorem sc_check_both : FnScope N_check_both ["one", "other"] (defScope (top 21)) := ⟨rfl, rfl, rfl, by decide +kernel, rfl, by decide +kernel, by decide +kernel⟩
theorem d_check_both (T : Txt K mg) (F_check_heap : DefAt P w K mg base 5 "check_heap" S_check_heap) (hl : ∀ ds Q E, S_check_both ds Q E → ds.length = 2)
   (o1 : ∀ ds Q E, S_check_both ds Q E → m_check_both (ev0 N_check_both ds) { nx := fun _ => Q .non, rt := fun d _ => Q d, ex := fun x _ => E x }) : DefAt P w K mg base 6 "check_both" S_check_both :=
  def_at (k := 5) T.d_check_both sc_check_both (fun f cdv A outer s H E c W hr hf np tk => (sb_cons (ss_expr (ee_call hf np tk (F_check_heap.call hr) (as_cons (ee_var 0) as_nil))) (sb_one (ss_expr (ee_call hf np tk (F_check_heap.call hr) (as_cons (ee_var 1) as_nil)))))) hl o1
theorem sc_check_two : FnScope N_check_two ["one", "other"] (defScope (top 26)) := ⟨rfl, rfl, rfl, by decide +kernel, rfl, by decide +kernel, by decide +kernel⟩
theorem d_check_two (T : Txt K mg) (F_check_both : DefAt P w K mg base 6 "check_both" S_check_both) (hl : ∀ ds Q E, S_check_two ds Q E → ds.length = 2)
   (o1 : ∀ ds Q E, S_check_two ds Q E → m_check_two (ev0 N_check_two ds) { nx := fun _ => Q .non, rt := fun d _ => Q d, ex := fun x _ => E x }) : DefAt P w K mg base 7 "check_two" S_check_two :=
  def_at (k := 6) T.d_check_two sc_check_two (fun f cdv A outer s H E c W hr hf np tk => (sb_cons (ss_expr (ee_call hf np tk (F_check_both.call hr) (as_cons (ee_var 0) (as_cons (ee_var 1) as_nil)))) (sb_one (ss_if (et_ne hf hr.units (e2_s (ee_len hf T.n_len (ab_v 0 ab_nil)) (EE.eb (ee_len hf T.n_len (ab_v 1 ab_nil))))) (sb_one (ss_raise hf tk T.e_Unlike)) sb_nil)))) hl o1
theorem sc_trimmed : FnScope N_trimmed ["terms"] (defScope (top 29)) := ⟨rfl, rfl, rfl, by decide +kernel, rfl, by decide +kernel, by decide +kernel⟩
theorem d_trimmed (T : Txt K mg)  (hl : ∀ ds Q E, S_trimmed ds Q E → ds.length = 1)
   (o1 : ∀ ds Q E, S_trimmed ds Q E → m_trimmed (ev0 N_trimmed ds) { nx := fun _ => Q .non, rt := fun d _ => Q d, ex := fun x _ => E x }) : DefAt P w K mg base 1 "trimmed" S_trimmed :=
  def_at (k := 0) T.d_trimmed sc_trimmed (fun f cdv A outer s H E c W hr hf np tk => (sb_cons (ss_setF 1 np sc_trimmed.nd (ef_list hf T.n_list (ab_v 0 ab_nil))) (sb_cons (ss_while (passes_of rfl) (EW.et (ew_and (et_gt (e2_s (ee_len hf T.n_len (ab_v 1 ab_nil)) (EE.eb ee_int))) (ew_and1 (et_eq hf hr.units (e2_s (ee_ix hf (e2_v 1 (EE.eb (ee_neg ee_int)))) (EE.eb ee_int)))))) (sb_one (ss_expr (ee_pop 1)))) (sb_one (ss_ret (ee_tuple hf T.n_tuple (ab_v 1 ab_nil))))))) hl o1
theorem sc_raw_root_gap : FnScope N_raw_root_gap ["one", "other"] (defScope (top 32)) := ⟨rfl, rfl, rfl, by decide +kernel, rfl, by decide +kernel, by decide +kernel⟩
theorem d_raw_root_gap (T : Txt K mg) (F_raw_roots : DefAt P w K mg base 1 "raw_roots" S_raw_roots) (F_trimmed : DefAt P w K mg base 1 "trimmed" S_trimmed) (hl : ∀ ds Q E, S_raw_root_gap ds Q E → ds.length = 2)
   (o1 : ∀ ds Q E, S_raw_root_gap ds Q E → m_raw_root_gap (ev0 N_raw_root_gap ds) { nx := fun _ => Q .non, rt := fun d _ => Q d, ex := fun x _ => E x }) : DefAt P w K mg base 2 "raw_root_gap" S_raw_root_gap :=
  def_at (k := 1) T.d_raw_root_gap sc_raw_root_gap (fun f cdv A outer s H E c W hr hf np tk => (sb_cons (ss_set 2 sc_raw_root_gap.nd (ee_call hf np tk (F_trimmed.call hr) (as_cons (EF.ee (ef_lc (own := [("mine", 3), ("its", 4)]) (is := [3, 4]) rfl sc_raw_root_gap.nd (SI.sib (si_zip hf rfl T.n_zip (as_cons (ee_call hf np tk (F_raw_roots.call hr) (as_cons (ee_var 0) as_nil)) (as_cons (ee_call hf np tk (F_raw_roots.call hr) (as_cons (ee_var 1) as_nil)) as_nil)))) (show BlkOk N_raw_root_gap (defScope (top 32)) _ _ from ⟨rfl, by decide +kernel, by decide +kernel, by decide +kernel, by decide +kernel⟩) (by decide) (fun _ => (sg_tup (Fit.blk hf) rfl (sgs_cons (sg_name 3 sc_raw_root_gap.nd) (sgs_cons (sg_name 4 sc_raw_root_gap.nd) sgs_nil)))) (fun _ => ets_nil) (fun _ => (ee_sub (e2_v 3 (eb_var 4)))))) as_nil))) (sb_one (ss_ret (ee_if (et_gt (e2_s (ee_len hf T.n_len (ab_v 2 ab_nil)) (EE.eb ee_int))) (ee_var 2) (ee_tup (as_cons ee_int as_nil))))))) hl o1
theorem sc_root_gap : FnScope N_root_gap ["one", "other"] (defScope (top 33)) := ⟨rfl, rfl, rfl, by decide +kernel, rfl, by decide +kernel, by decide +kernel⟩
theorem d_root_gap (T : Txt K mg) (F_check_two : DefAt P w K mg base 7 "check_two" S_check_two) (F_raw_root_gap : DefAt P w K mg base 2 "raw_root_gap" S_raw_root_gap) (hl : ∀ ds Q E, S_root_gap ds Q E → ds.length = 2)
   (o1 : ∀ ds Q E, S_root_gap ds Q E → m_root_gap (ev0 N_root_gap ds) { nx := fun _ => Q .non, rt := fun d _ => Q d, ex := fun x _ => E x }) : DefAt P w K mg base 8 "root_gap" S_root_gap :=
  def_at (k := 7) T.d_root_gap sc_root_gap (fun f cdv A outer s H E c W hr hf np tk => (sb_cons (ss_expr (ee_call hf np tk (F_check_two.call hr) (as_cons (ee_var 0) (as_cons (ee_var 1) as_nil)))) (sb_one (ss_ret (ee_call hf np tk (F_raw_root_gap.call hr) (as_cons (ee_var 0) (as_cons (ee_var 1) as_nil))))))) hl o1
theorem sc_gap_degree : FnScope N_gap_degree ["one", "other"] (defScope (top 34)) := ⟨rfl, rfl, rfl, by decide +kernel, rfl, by decide +kernel, by decide +kernel⟩
theorem d_gap_degree (T : Txt K mg) (F_check_two : DefAt P w K mg base 7 "check_two" S_check_two) (F_raw_root_gap : DefAt P w K mg base 2 "raw_root_gap" S_raw_root_gap) (hl : ∀ ds Q E, S_gap_degree ds Q E → ds.length = 2)
   (o1 : ∀ ds Q E, S_gap_degree ds Q E → m_gap_degree (ev0 N_gap_degree ds) { nx := fun _ => Q .non, rt := fun d _ => Q d, ex := fun x _ => E x }) : DefAt P w K mg base 8 "gap_degree" S_gap_degree :=
  def_at (k := 7) T.d_gap_degree sc_gap_degree (fun f cdv A outer s H E c W hr hf np tk => (sb_cons (ss_expr (ee_call hf np tk (F_check_two.call hr) (as_cons (ee_var 0) (as_cons (ee_var 1) as_nil)))) (sb_cons (ss_set 2 sc_gap_degree.nd (ee_call hf np tk (F_raw_root_gap.call hr) (as_cons (ee_var 0) (as_cons (ee_var 1) as_nil)))) (sb_one (ss_ret (ee_if (et_eq hf hr.units (e2_v 2 (EE.eb (ee_tup (as_cons ee_int as_nil))))) ee_non (ee_sub (e2_s (ee_len hf T.n_len (ab_v 2 ab_nil)) (EE.eb ee_int))))))))) hl o1
theorem sc_check_number : FnScope N_check_number ["thing", "low", "high"] (defScope (top 16)) := ⟨rfl, rfl, rfl, by decide +kernel, rfl, by decide +kernel, by decide +kernel⟩
theorem d_check_number (T : Txt K mg) (F_is_within : DefAt P w K mg base 2 "is_within" S_is_within) (hl : ∀ ds Q E, S_check_number ds Q E → ds.length = 3)
   (o1 : ∀ ds Q E, S_check_number ds Q E → m_check_number (ev0 N_check_number ds) { nx := fun _ => Q .non, rt := fun d _ => Q d, ex := fun x _ => E x }) : DefAt P w K mg base 3 "check_number" S_check_number :=
  def_at (k := 2) T.d_check_number sc_check_number (fun f cdv A outer s H E c W hr hf np tk => (sb_one (ss_if (et_not (et_tru hf (EE.eb (ee_call hf np tk (F_is_within.call hr) (as_cons (ee_var 0) (as_cons (ee_var 1) (as_cons (ee_var 2) as_nil))))))) (sb_one (ss_raise hf tk T.e_NoNumber)) sb_nil))) hl o1
theorem sc_is_poly : FnScope N_is_poly ["thing"] (defScope (top 35)) := ⟨rfl, rfl, rfl, by decide +kernel, rfl, by decide +kernel, by decide +kernel⟩
theorem d_is_poly (T : Txt K mg) (F_is_integer : DefAt P w K mg base 1 "is_integer" S_is_integer) (hl : ∀ ds Q E, S_is_poly ds Q E → ds.length = 1)
   (o1 : ∀ ds Q E, S_is_poly ds Q E → m_is_poly (ev0 N_is_poly ds) { nx := fun _ => Q .non, rt := fun d _ => Q d, ex := fun x _ => E x }) : DefAt P w K mg base 2 "is_poly" S_is_poly :=
  def_at (k := 1) T.d_is_poly sc_is_poly (fun f cdv A outer s H E c W hr hf np tk => (sb_cons (ss_if (EW.et (ew_or (et_not (et_tru hf (EE.eb (ee_isi hf T.n_isinstance (ab_v 0 (ab_s (ee_ty T.n_tuple) ab_nil)))))) (ew_or (et_not (ct_lele ee_int (ee_len hf T.n_len (ab_v 0 ab_nil)) (ee_glob (glob_int T.g_MOST_TERMS.choose_spec)))) (ew_or1 (et_not (et_tru hf (EE.eb (ee_all hf rfl T.n_all (ab_s (EF.ee (ef_lc (own := [("one", 1)]) (is := [1]) rfl sc_is_poly.nd (sib_name 0 hf) (show BlkOk N_is_poly (defScope (top 35)) _ _ from ⟨rfl, by decide +kernel, by decide +kernel, by decide +kernel, by decide +kernel⟩) (by decide) (fun _ => (sg_name 1 sc_is_poly.nd)) (fun _ => ets_nil) (fun _ => (ee_call (Fit.blk hf) np takes_no (F_is_integer.call hr) (as_cons (ee_var 1) as_nil))))) ab_nil))))))))) (sb_one (ss_ret ee_bl)) sb_nil) (sb_one (ss_ret (ee_and hf (ee_eq hf hr.units (e2_s (ee_ix hf (e2_v 0 (EE.eb (ee_neg ee_int)))) (EE.eb ee_int))) (ee_one (ee_all hf rfl T.n_all (ab_s (EF.ee (ef_lc (own := [("one", 1)]) (is := [1]) rfl sc_is_poly.nd (sib_name 0 hf) (show BlkOk N_is_poly (defScope (top 35)) _ _ from ⟨rfl, by decide +kernel, by decide +kernel, by decide +kernel, by decide +kernel⟩) (by decide) (fun _ => (sg_name 1 sc_is_poly.nd)) (fun _ => ets_nil) (fun _ => (ee_lt (e2_s (ee_abs T.n_abs (ab_v 1 ab_nil)) (EE.eb (ee_glob (glob_int T.g_MOST_TERM.choose_spec)))))))) ab_nil)))))))) hl o1
theorem sc_newton_sums : FnScope N_newton_sums ["poly", "most"] (defScope (top 36)) := ⟨rfl, rfl, rfl, by decide +kernel, rfl, by decide +kernel, by decide +kernel⟩
theorem d_newton_sums (T : Txt K mg) (F_check_number : DefAt P w K mg base 3 "check_number" S_check_number) (F_is_poly : DefAt P w K mg base 2 "is_poly" S_is_poly) (hl : ∀ ds Q E, S_newton_sums ds Q E → ds.length = 2)
   (o1 : ∀ ds Q E, S_newton_sums ds Q E → m_newton_sums (ev0 N_newton_sums ds) { nx := fun _ => Q .non, rt := fun d _ => Q d, ex := fun x _ => E x }) : DefAt P w K mg base 4 "newton_sums" S_newton_sums :=
  def_at (k := 3) T.d_newton_sums sc_newton_sums (fun f cdv A outer s H E c W hr hf np tk => (sb_cons (ss_if (et_not (et_tru hf (EE.eb (ee_call hf np tk (F_is_poly.call hr) (as_cons (ee_var 0) as_nil))))) (sb_one (ss_raise hf tk T.e_NoPoly)) sb_nil) (sb_cons (ss_expr (ee_call hf np tk (F_check_number.call hr) (as_cons (ee_var 1) (as_cons ee_int (as_cons (ee_glob (glob_int T.g_MOST_POWER.choose_spec)) as_nil))))) (sb_cons (ss_par 2 3 np rfl sc_newton_sums.nd (ax_sh (ee_sub (e2_s (ee_len hf T.n_len (ab_v 0 ab_nil)) (EE.eb ee_int))) (ax_ow (ef_lst as_nil) ax_nil))) (sb_cons (ss_for (passes_of rfl) rfl (si_r2 T.n_range (as_cons ee_int (as_cons (ee_add hf (e2_v 1 (EE.eb ee_int))) as_nil))) (sg_name 4 sc_newton_sums.nd) (sb_cons (ss_set 5 sc_newton_sums.nd (ee_if (et_le (e2_v 4 (eb_var 2))) (ee_mul (e2_s (ee_neg (ee_var 4)) (EE.eb (ee_ix hf (e2_v 0 (EE.eb (ee_sub (e2_v 2 (eb_var 4))))))))) ee_int)) (sb_cons (ss_for (passes_of rfl) rfl (si_r2 T.n_range (as_cons ee_int (as_cons (ee_add hf (e2_s (ee_min2 rfl T.n_min (ab_s (ee_sub (e2_v 4 (EE.eb ee_int))) (ab_v 2 ab_nil))) (EE.eb ee_int))) as_nil))) (sg_name 6 sc_newton_sums.nd) (sb_one (ss_aug 5 ip_sub sc_newton_sums.nd (ee_mul (e2_s (ee_ix hf (e2_v 0 (EE.eb (ee_sub (e2_v 2 (eb_var 6)))))) (EE.eb (ee_ix hf (e2_v 3 (EE.eb (ee_sub (e2_s (ee_sub (e2_v 4 (eb_var 6))) (EE.eb ee_int)))))))))))) (sb_one (ss_expr (ee_append 3 (ee_var 5))))))) (sb_one (ss_ret (ee_tuple hf T.n_tuple (ab_v 3 ab_nil))))))))) hl o1
theorem sc_law_hand : FnScope N_law_hand ["script"] (defScope (top 38)) := ⟨rfl, rfl, rfl, by decide +kernel, rfl, by decide +kernel, by decide +kernel⟩
theorem d_law_hand (T : Txt K mg)  (hl : ∀ ds Q E, S_hand ds Q E → ds.length = 1)
   (o1 : ∀ ds Q E, S_hand ds Q E → m_law_hand (ev0 N_law_hand ds) { nx := fun _ => Q .non, rt := fun d _ => Q d, ex := fun x _ => E x }) : DefAt P w K mg base 1 "_law_hand" S_hand :=
  def_at (k := 0) T.d_law_hand sc_law_hand (fun f cdv A outer s H E c W hr hf np tk => (sb_cons (ss_lc 1 (own := [("cell", 2)]) (is := [2]) rfl sc_law_hand.nd (SI.sib (si_list hf (ee_slv 0 hf eo_none (eo_some ee_int)))) (show BlkOk N_law_hand (defScope (top 38)) _ _ from ⟨rfl, by decide +kernel, by decide +kernel, by decide +kernel, by decide +kernel⟩) (by decide) (fun _ => (sg_name 2 sc_law_hand.nd)) (fun _ => ets_nil) (fun _ => (ee_abs T.n_abs (ab_s (ee_intc T.n_int (ab_v 2 ab_nil)) ab_nil))) rfl) (sb_one (ss_ret (EF.ee (ef_lst (as_cons (ee_var 1) (as_cons ee_int (as_cons ee_int (as_cons (ee_add hf (e2_s ee_int (EE.eb (ee_mul (e2_s ee_int (EE.eb (ee_len hf T.n_len (ab_v 1 ab_nil)))))))) (as_cons ee_int as_nil))))))))))) hl o1
theorem sc_law_same : FnScope N_law_same ["one", "due"] (defScope (top 41)) := ⟨rfl, rfl, rfl, by decide +kernel, rfl, by decide +kernel, by decide +kernel⟩
theorem d_law_same (T : Txt K mg) {S S2 : FS} {k : Nat} (hk : 1 ≤ k)  (F__law_same : DefAt P w K mg base k "_law_same" S) (hl : ∀ ds Q E, S2 ds Q E → ds.length = 2)
   (o1 : ∀ ds Q E, S2 ds Q E → m_law_same S (ev0 N_law_same ds) { nx := fun _ => Q .non, rt := fun d _ => Q d, ex := fun x _ => E x }) : DefAt P w K mg base (k + 1) "_law_same" S2 :=
  def_at T.d_law_same sc_law_same (fun f cdv A outer s H E c W hr hf np tk => (sb_cons (ss_if (EW.et (ew_or (et_tru hf (EE.eb (ee_isi hf T.n_isinstance (ab_v 1 (ab_s (ee_ty T.n_tuple) ab_nil))))) (ew_or1 (et_tru hf (EE.eb (ee_isi hf T.n_isinstance (ab_v 1 (ab_s (ee_ty T.n_list) ab_nil)))))))) (sb_cons (ss_if (EW.et (ew_or (et_ne hf hr.units (e2_s (ee_isi hf T.n_isinstance (ab_v 0 (ab_s (ee_ty T.n_tuple) ab_nil))) (EE.eb (ee_isi hf T.n_isinstance (ab_v 1 (ab_s (ee_ty T.n_tuple) ab_nil)))))) (ew_or1 (et_ne hf hr.units (e2_s (ee_isi hf T.n_isinstance (ab_v 0 (ab_s (ee_ty T.n_list) ab_nil))) (EE.eb (ee_isi hf T.n_isinstance (ab_v 1 (ab_s (ee_ty T.n_list) ab_nil))))))))) (sb_one (ss_ret ee_bl)) sb_nil) (sb_one (ss_ret (ee_and hf (ee_eq hf hr.units (e2_s (ee_len hf T.n_len (ab_v 0 ab_nil)) (EE.eb (ee_len hf T.n_len (ab_v 1 ab_nil))))) (ee_one (ee_all hf rfl T.n_all (ab_s (EF.ee (ef_lc (own := [("a", 2), ("b", 3)]) (is := [2, 3]) rfl sc_law_same.nd (SI.sib (si_zip hf rfl T.n_zip (as_cons (ee_var 0) (as_cons (ee_var 1) as_nil)))) (show BlkOk N_law_same (defScope (top 41)) _ _ from ⟨rfl, by decide +kernel, by decide +kernel, by decide +kernel, by decide +kernel⟩) (by decide) (fun _ => (sg_tup (Fit.blk hf) rfl (sgs_cons (sg_name 2 sc_law_same.nd) (sgs_cons (sg_name 3 sc_law_same.nd) sgs_nil)))) (fun _ => ets_nil) (fun _ => (ee_call (Fit.blk hf) np takes_no (F__law_same.call hr (by first | exact Nat.le_refl _ | omega)) (as_cons (ee_var 2) (as_cons (ee_var 3) as_nil)))))) ab_nil))))))) sb_nil) (sb_cons (ss_if (EW.et (ew_or (et_ne hf hr.units (e2_s (ee_isi hf T.n_isinstance (ab_v 0 (ab_s (ee_ty T.n_bool) ab_nil))) (EE.eb (ee_isi hf T.n_isinstance (ab_v 1 (ab_s (ee_ty T.n_bool) ab_nil)))))) (ew_or1 (et_ne hf hr.units (e2_s (ee_isN (e2_v 0 (EE.eb ee_non))) (EE.eb (ee_isN (e2_v 1 (EE.eb ee_non))))))))) (sb_one (ss_ret ee_bl)) sb_nil) (sb_one (ss_ret (ee_and hf (ee_eq hf hr.units (e2_s (ee_isi hf T.n_isinstance (ab_v 0 (ab_s (ee_ty T.n_int) ab_nil))) (EE.eb (ee_isi hf T.n_isinstance (ab_v 1 (ab_s (ee_ty T.n_int) ab_nil)))))) (ee_one (ee_eq hf hr.units (e2_v 0 (eb_var 1)))))))))) hl o1
theorem sc_law_draw : FnScope N_law_draw ["hand", "many"] (defScope (top 39)) := ⟨rfl, rfl, rfl, by decide +kernel, rfl, by decide +kernel, by decide +kernel⟩
theorem d_law_draw (T : Txt K mg)  (o1 : ∀ cells p r x n z, HdC cells p r x n → 0 < z → z < 2 ^ 200 → m_law_draw (some (hdD cells p r x n, .ow) :: some (.int z, .sh) :: List.replicate (N_law_draw.length - 2) none) { nx := fun _ => False, rt := fun d ρ => ∃ y cells p r x n, d = .int y ∧ 0 ≤ y ∧ y < z ∧ HdC cells p r x n ∧ ρ.get 0 = some (hdD cells p r x n, .ow), ex := fun _ _ => False }) : DefAt P w K mg base 1 "_law_draw" S_draw :=
  draw_at T.d_law_draw sc_law_draw rfl (by decide) (fun f cdv A outer s H E c W hr hf tk => (sb_cons (ss_if (EW.et (ew_and (et_eq hf hr.units (e2_s (ee_ix hf (e2_v 0 (EE.eb ee_int))) (EE.eb ee_int))) (ew_and1 (et_lt (e2_s (ee_ix hf (e2_v 0 (EE.eb ee_int))) (EE.eb (ee_len hf T.n_len (ab_s (ee_ix hf (e2_v 0 (EE.eb ee_int))) ab_nil)))))))) (sb_cons (ss_set 2 sc_law_draw.nd (ee_ix hf (e2_s (ee_ix hf (e2_v 0 (EE.eb ee_int))) (EE.eb (ee_ix hf (e2_v 0 (EE.eb ee_int))))))) (sb_cons (ss_setix 0 (ee_add hf (e2_s (ee_ix hf (e2_v 0 (EE.eb ee_int))) (EE.eb ee_int))) ee_int) (sb_cons (ss_setix 0 (ee_mod (e2_s (ee_intc T.n_int (ab_s (ee_add hf (e2_s (ee_add hf (e2_s (ee_mul (e2_s (ee_ix hf (e2_v 0 (EE.eb ee_int))) (EE.eb ee_int))) (EE.eb (ee_mul (e2_v 2 (EE.eb ee_int)))))) (EE.eb ee_int))) ab_nil)) (EE.eb ee_int))) ee_int) (sb_one (ss_if (et_ge (e2_v 2 (EE.eb (ee_pow (e2_s ee_int (EE.eb ee_int)))))) (sb_one (ss_setix 0 (ee_var 2) ee_int)) sb_nil))))) sb_nil) (sb_cons (ss_if (et_gt (e2_s (ee_ix hf (e2_v 0 (EE.eb ee_int))) (EE.eb ee_int))) (sb_cons (ss_set 3 sc_law_draw.nd (ee_mod (e2_s (ee_intc T.n_int (ab_s (ee_ix hf (e2_v 0 (EE.eb ee_int))) ab_nil)) (eb_var 1)))) (sb_cons (ss_setix 0 (ee_floor (e2_s (ee_ix hf (e2_v 0 (EE.eb ee_int))) (eb_var 1))) ee_int) (sb_one (ss_ret (ee_var 3))))) sb_nil) (sb_cons (ss_setix 0 (ee_add hf (e2_s (ee_ix hf (e2_v 0 (EE.eb ee_int))) (EE.eb ee_int))) ee_int) (sb_cons (ss_set 4 sc_law_draw.nd (ee_mod (e2_s (ee_intc T.n_int (ab_s (ee_mul (e2_s (ee_intc T.n_int (ab_s (ee_add hf (e2_s (ee_ix hf (e2_v 0 (EE.eb ee_int))) (EE.eb (ee_mul (e2_s ee_int (EE.eb (ee_ix hf (e2_v 0 (EE.eb ee_int))))))))) ab_nil)) (EE.eb ee_int))) ab_nil)) (EE.eb ee_int)))) (sb_cons (ss_set 4 sc_law_draw.nd (ee_mod (e2_s (ee_intc T.n_int (ab_s (ee_mul (e2_v 4 (EE.eb (ee_add hf (e2_s (ee_floor (e2_v 4 (EE.eb ee_int))) (EE.eb ee_int)))))) ab_nil)) (EE.eb ee_int)))) (sb_cons (ss_set 4 sc_law_draw.nd (ee_mod (e2_s (ee_intc T.n_int (ab_s (ee_mul (e2_v 4 (EE.eb (ee_add hf (e2_s (ee_floor (e2_v 4 (EE.eb ee_int))) (EE.eb ee_int)))))) ab_nil)) (EE.eb ee_int)))) (sb_one (ss_ret (ee_mod (e2_s (ee_intc T.n_int (ab_s (ee_floor (e2_v 4 (EE.eb ee_int))) ab_nil)) (eb_var 1)))))))))))) o1
theorem sc_law_any : FnScope N_law_any ["hand", "some"] (defScope (top 40)) := ⟨rfl, rfl, rfl, by decide +kernel, rfl, by decide +kernel, by decide +kernel⟩
theorem d_law_any (T : Txt K mg) (F__law_draw : DefAt P w K mg base 1 "_law_draw" S_draw) (hl : ∀ ds Q E, S_law_any ds Q E → ds.length = 2)
   (o1 : ∀ ds Q E, S_law_any ds Q E → m_law_any (ev0 N_law_any ds) { nx := fun _ => Q .non, rt := fun d _ => Q d, ex := fun x _ => E x }) : DefAt P w K mg base 2 "_law_any" S_law_any :=
  def_at (k := 1) T.d_law_any sc_law_any (fun f cdv A outer s H E c W hr hf np tk => (sb_one (ss_ret (ee_ix hf (e2_v 1 (EE.eb (ee_call hf np tk (F__law_draw.call hr) (as_cons (ee_var 0) (as_cons (ee_len hf T.n_len (ab_v 1 ab_nil)) as_nil))))))))) hl o1
theorem sc_law_drawn : FnScope N_law_drawn ["hand", "most"] (defScope (top 42)) := ⟨rfl, rfl, rfl, by decide +kernel, rfl, by decide +kernel, by decide +kernel⟩
theorem d_law_drawn (T : Txt K mg) (F__law_draw : DefAt P w K mg base 1 "_law_draw" S_draw) (F__law_any : DefAt P w K mg base 2 "_law_any" S_law_any) (hl : ∀ ds Q E, S_law_drawn ds Q E → ds.length = 2)
   (o1 : ∀ ds Q E, S_law_drawn ds Q E → m_law_drawn (ev0 N_law_drawn ds) { nx := fun _ => Q .non, rt := fun d _ => Q d, ex := fun x _ => E x }) : DefAt P w K mg base 3 "_law_drawn" S_law_drawn :=
  def_at (k := 2) T.d_law_drawn sc_law_drawn (fun f cdv A outer s H E c W hr hf np tk => (sb_cons (ss_set 2 sc_law_drawn.nd (ee_call hf np tk (F__law_any.call hr) (as_cons (ee_var 0) (as_cons (EF.ee (ef_lst (as_cons ee_int (as_cons ee_int (as_cons ee_int (as_cons ee_int as_nil)))))) as_nil)))) (sb_one (ss_ret (ee_tuple hf T.n_tuple (ab_s (EF.ee (ef_sort3 hf hr T.n_sorted (ab_s (EF.ee (ef_lc (own := [("place", 3)]) (is := [3]) rfl sc_law_drawn.nd (SI.sib (si_r1 T.n_range (as_cons (ee_add hf (e2_s ee_int (EE.eb (ee_call hf np tk (F__law_draw.call hr) (as_cons (ee_var 0) (as_cons (ee_var 1) as_nil)))))) as_nil))) (show BlkOk N_law_drawn (defScope (top 42)) _ _ from ⟨rfl, by decide +kernel, by decide +kernel, by decide +kernel, by decide +kernel⟩) (by decide) (fun _ => (sg_name 3 sc_law_drawn.nd)) (fun _ => ets_nil) (fun _ => (ee_sub (e2_s (ee_call (Fit.blk hf) np takes_no (F__law_draw.call hr) (as_cons (ee_var 0) (as_cons (ee_add (Fit.blk hf) (e2_s (ee_mul (e2_s ee_int (eb_var 2))) (EE.eb ee_int))) as_nil))) (eb_var 2)))))) ab_nil))) ab_nil)))))) hl o1
theorem sc_law_less : FnScope N_law_less ["one", "other"] (defScope (top 45)) := ⟨rfl, rfl, rfl, by decide +kernel, rfl, by decide +kernel, by decide +kernel⟩
theorem d_law_less (T : Txt K mg)  (hl : ∀ ds Q E, S_law_less ds Q E → ds.length = 2)
   (o1 : ∀ ds Q E, S_law_less ds Q E → m_law_less (ev0 N_law_less ds) { nx := fun _ => Q .non, rt := fun d _ => Q d, ex := fun x _ => E x }) : DefAt P w K mg base 1 "_law_less" S_law_less :=
  def_at (k := 0) T.d_law_less sc_law_less (fun f cdv A outer s H E c W hr hf np tk => (sb_cons (ss_par 2 3 np rfl sc_law_less.nd (ax_ow (ef_list hf T.n_list (ab_v 0 ab_nil)) (ax_ow (ef_list hf T.n_list (ab_v 1 ab_nil)) ax_nil))) (sb_cons (ss_for (passes_of rfl) rfl (si_var 0 hf) (sg_name 4 sc_law_less.nd) (sb_one (ss_if (et_in hf hr (e2_v 4 (eb_var 3))) (sb_cons (ss_expr (ee_remove 2 (ee_var 4))) (sb_one (ss_expr (ee_remove 3 (ee_var 4))))) sb_nil))) (sb_one (ss_ret (ee_tup (as_cons (ee_var 2) (as_cons (ee_var 3) as_nil)))))))) hl o1
theorem sc_law_grown : FnScope N_law_grown ["one", "other", "by"] (defScope (top 46)) := ⟨rfl, rfl, rfl, by decide +kernel, rfl, by decide +kernel, by decide +kernel⟩
theorem d_law_grown (T : Txt K mg) (F__law_less : DefAt P w K mg base 1 "_law_less" S_law_less) (hl : ∀ ds Q E, S_law_grown ds Q E → ds.length = 3)
   (o1 : ∀ ds Q E, S_law_grown ds Q E → m_law_grown (ev0 N_law_grown ds) { nx := fun _ => Q .non, rt := fun d _ => Q d, ex := fun x _ => E x }) : DefAt P w K mg base 2 "_law_grown" S_law_grown :=
  def_at (k := 1) T.d_law_grown sc_law_grown (fun f cdv A outer s H E c W hr hf np tk => (sb_cons (ss_set 3 sc_law_grown.nd (EF.ee (ef_sort3 hf hr T.n_sorted (ab_s (ee_add hf (e2_s (EF.ee (ef_list hf T.n_list (ab_v 0 ab_nil))) (EE.eb (EF.ee (ef_lc (own := [("number_here", 4)]) (is := [4]) rfl sc_law_grown.nd (sib_name 1 hf) (show BlkOk N_law_grown (defScope (top 46)) _ _ from ⟨rfl, by decide +kernel, by decide +kernel, by decide +kernel, by decide +kernel⟩) (by decide) (fun _ => (sg_name 4 sc_law_grown.nd)) (fun _ => ets_nil) (fun _ => (ee_add (Fit.blk hf) (e2_v 4 (eb_var 2))))))))) ab_nil)))) (sb_one (ss_ret (ee_call hf np tk (F__law_less.call hr) (as_cons (ee_var 3) (as_cons (EF.ee (ef_sort3 hf hr T.n_sorted (ab_s (ee_add hf (e2_s (EF.ee (ef_list hf T.n_list (ab_v 1 ab_nil))) (EE.eb (EF.ee (ef_lc (own := [("number_here", 4)]) (is := [4]) rfl sc_law_grown.nd (sib_name 0 hf) (show BlkOk N_law_grown (defScope (top 46)) _ _ from ⟨rfl, by decide +kernel, by decide +kernel, by decide +kernel, by decide +kernel⟩) (by decide) (fun _ => (sg_name 4 sc_law_grown.nd)) (fun _ => ets_nil) (fun _ => (ee_add (Fit.blk hf) (e2_v 4 (eb_var 2))))))))) ab_nil))) as_nil))))))) hl o1
theorem sc_law_pair : FnScope N_law_pair ["hand"] (defScope (top 47)) := ⟨rfl, rfl, rfl, by decide +kernel, rfl, by decide +kernel, by decide +kernel⟩
theorem d_law_pair (T : Txt K mg) (F__law_draw : DefAt P w K mg base 1 "_law_draw" S_draw) (F__law_any : DefAt P w K mg base 2 "_law_any" S_law_any) (F__law_drawn : DefAt P w K mg base 3 "_law_drawn" S_law_drawn) (F__law_grown : DefAt P w K mg base 2 "_law_grown" S_law_grown) (hl : ∀ ds Q E, S_law_pair ds Q E → ds.length = 1)
   (o1 : ∀ ds Q E, S_law_pair ds Q E → m_law_pair (ev0 N_law_pair ds) { nx := fun _ => Q .non, rt := fun d _ => Q d, ex := fun x _ => E x }) : DefAt P w K mg base 4 "_law_pair" S_law_pair :=
  def_at (k := 3) T.d_law_pair sc_law_pair (fun f cdv A outer s H E c W hr hf np tk => (sb_cons (ss_apart (ee_call hf np tk (F__law_any.call hr) (as_cons (ee_var 0) (as_cons (EF.ee (ef_lst (as_cons (ee_tup (as_cons (EF.ee (ef_lst (as_cons ee_int as_nil))) (as_cons (EF.ee (ef_lst (as_cons ee_int as_nil))) as_nil))) (as_cons (ee_tup (as_cons (EF.ee (ef_lst (as_cons ee_int (as_cons ee_int as_nil)))) (as_cons (EF.ee (ef_lst (as_cons ee_int (as_cons ee_int as_nil)))) as_nil))) (as_cons (ee_tup (as_cons (EF.ee (ef_lst (as_cons ee_int (as_cons ee_int (as_cons ee_int as_nil))))) (as_cons (EF.ee (ef_lst (as_cons ee_int (as_cons ee_int (as_cons ee_int as_nil))))) as_nil))) (as_cons (ee_tup (as_cons (EF.ee (ef_lst (as_cons ee_int (as_cons ee_int (as_cons ee_int as_nil))))) (as_cons (EF.ee (ef_lst (as_cons ee_int (as_cons ee_int (as_cons ee_int as_nil))))) as_nil))) (as_cons (ee_tup (as_cons (EF.ee (ef_lst (as_cons ee_int (as_cons ee_int (as_cons ee_int (as_cons ee_int as_nil)))))) (as_cons (EF.ee (ef_lst (as_cons ee_int (as_cons ee_int (as_cons ee_int (as_cons ee_int as_nil)))))) as_nil))) as_nil))))))) as_nil))) (sg_tup hf rfl (sgs_cons (sg_name 1 sc_law_pair.nd) (sgs_cons (sg_name 2 sc_law_pair.nd) sgs_nil)))) (sb_cons (ss_for (passes_of rfl) rfl (si_r1 T.n_range (as_cons (ee_call hf np tk (F__law_draw.call hr) (as_cons (ee_var 0) (as_cons ee_int as_nil))) as_nil)) (sg_name 3 sc_law_pair.nd) (sb_one (ss_apart (ee_call hf np tk (F__law_grown.call hr) (as_cons (ee_var 1) (as_cons (ee_var 2) (as_cons (ee_add hf (e2_s ee_int (EE.eb (ee_call hf np tk (F__law_draw.call hr) (as_cons (ee_var 0) (as_cons ee_int as_nil)))))) as_nil)))) (sg_tup hf rfl (sgs_cons (sg_name 1 sc_law_pair.nd) (sgs_cons (sg_name 2 sc_law_pair.nd) sgs_nil)))))) (sb_cons (ss_apart (ee_tup (as_cons (ee_call hf np tk (F__law_any.call hr) (as_cons (ee_var 0) (as_cons (EF.ee (ef_lst (as_cons ee_int (as_cons ee_int (as_cons ee_int (as_cons (ee_neg ee_int) (as_cons (ee_neg ee_int) as_nil))))))) as_nil))) (as_cons (ee_sub (e2_s (ee_call hf np tk (F__law_draw.call hr) (as_cons (ee_var 0) (as_cons ee_int as_nil))) (EE.eb ee_int))) as_nil))) (sg_tup hf rfl (sgs_cons (sg_name 4 sc_law_pair.nd) (sgs_cons (sg_name 5 sc_law_pair.nd) sgs_nil)))) (sb_cons (ss_set 6 sc_law_pair.nd (EF.ee (ef_lc (own := [("place", 10)]) (is := [10]) rfl sc_law_pair.nd (SI.sib (si_r1 T.n_range (as_cons (ee_call hf np tk (F__law_draw.call hr) (as_cons (ee_var 0) (as_cons ee_int as_nil))) as_nil))) (show BlkOk N_law_pair (defScope (top 47)) _ _ from ⟨rfl, by decide +kernel, by decide +kernel, by decide +kernel, by decide +kernel⟩) (by decide) (fun _ => (sg_name 10 sc_law_pair.nd)) (fun _ => ets_nil) (fun _ => (ee_sub (e2_s (ee_call (Fit.blk hf) np takes_no (F__law_draw.call hr) (as_cons (ee_var 0) (as_cons ee_int as_nil))) (EE.eb ee_int))))))) (sb_cons (ss_lc 7 (own := [("row", 11)]) (is := [11]) rfl sc_law_pair.nd (SI.sib (si_tup hf (ee_tup (as_cons (ee_var 1) (as_cons (ee_var 2) as_nil))))) (show BlkOk N_law_pair (defScope (top 47)) _ _ from ⟨rfl, by decide +kernel, by decide +kernel, by decide +kernel, by decide +kernel⟩) (by decide) (fun _ => (sg_name 11 sc_law_pair.nd)) (fun _ => ets_nil) (fun _ => (ee_tuple (Fit.blk hf) T.n_tuple (ab_s (EF.ee (ef_sort3 (Fit.blk hf) hr T.n_sorted (ab_s (ee_add (Fit.blk hf) (e2_s (EF.ee (ef_lc (own := [("number_here", 12)]) (is := [12]) rfl sc_law_pair.nd (sib_name 11 (Fit.blk hf)) (blkN (show BlkOk N_law_pair _ _ _ from ⟨rfl, by decide +kernel, by decide +kernel, by decide +kernel, by decide +kernel⟩)) (by decide) (fun _ => (sg_name 12 sc_law_pair.nd)) (fun _ => ets_nil) (fun _ => (ee_add (Fit.blk (Fit.blk hf)) (e2_s (ee_mul (e2_v 4 (eb_var 12))) (eb_var 5)))))) (eb_var 6))) ab_nil))) ab_nil))) rfl) (sb_cons (ss_set 8 sc_law_pair.nd (ee_call hf np tk (F__law_drawn.call hr) (as_cons (ee_var 0) (as_cons ee_int as_nil)))) (sb_cons (ss_set 9 sc_law_pair.nd (ee_tuple hf T.n_tuple (ab_s (EF.ee (ef_sort3 hf hr T.n_sorted (ab_s (ee_add hf (e2_s (ee_slv 8 hf (eo_some ee_int) eo_none) (EE.eb (ee_tup (as_cons (ee_sub (e2_s (ee_call hf np tk (F__law_draw.call hr) (as_cons (ee_var 0) (as_cons ee_int as_nil))) (EE.eb ee_int))) as_nil))))) ab_nil))) ab_nil))) (sb_one (ss_ret (ee_call hf np tk (F__law_any.call hr) (as_cons (ee_var 0) (as_cons (ee_add hf (e2_s (EF.ee (ef_mul (e2_s (EF.ee (ef_lst (as_cons (ee_tup (as_cons (ee_ix hf (e2_v 7 (EE.eb ee_int))) (as_cons (ee_ix hf (e2_v 7 (EE.eb ee_int))) as_nil))) as_nil))) (EE.eb ee_int)))) (EE.eb (EF.ee (ef_lst (as_cons (ee_tup (as_cons (ee_var 8) (as_cons (ee_var 9) as_nil))) (as_cons (ee_tup (as_cons (ee_var 8) (as_cons (ee_var 8) as_nil))) (as_cons (ee_tup (as_cons (ee_ix hf (e2_v 7 (EE.eb ee_int))) (as_cons (ee_ix hf (e2_v 7 (EE.eb ee_int))) as_nil))) as_nil)))))))) as_nil))))))))))))) hl o1
theorem sc_raw_power : FnScope N_raw_power ["number", "times"] (defScope (top 18)) := ⟨rfl, rfl, rfl, by decide +kernel, rfl, by decide +kernel, by decide +kernel⟩
theorem d_raw_power (T : Txt K mg)  (hl : ∀ ds Q E, S_raw_power ds Q E → ds.length = 2)
   (o1 : ∀ ds Q E, S_raw_power ds Q E → m_raw_power (ev0 N_raw_power ds) { nx := fun _ => Q .non, rt := fun d _ => Q d, ex := fun x _ => E x }) : DefAt P w K mg base 1 "raw_power" S_raw_power :=
  def_at (k := 0) T.d_raw_power sc_raw_power (fun f cdv A outer s H E c W hr hf np tk => (sb_cons (ss_set 2 sc_raw_power.nd ee_int) (sb_cons (ss_for (passes_of rfl) rfl (si_r1 T.n_range (as_cons (ee_var 1) as_nil)) (sg_name 3 sc_raw_power.nd) (sb_one (ss_set 2 sc_raw_power.nd (ee_mul (e2_v 2 (eb_var 0)))))) (sb_one (ss_ret (ee_var 2)))))) hl o1
theorem sc_raw_sum : FnScope N_raw_sum ["heap", "k"] (defScope (top 19)) := ⟨rfl, rfl, rfl, by decide +kernel, rfl, by decide +kernel, by decide +kernel⟩
theorem d_raw_sum (T : Txt K mg) (F_raw_power : DefAt P w K mg base 1 "raw_power" S_raw_power) (hl : ∀ ds Q E, S_raw_sum ds Q E → ds.length = 2)
   (o1 : ∀ ds Q E, S_raw_sum ds Q E → m_raw_sum (ev0 N_raw_sum ds) { nx := fun _ => Q .non, rt := fun d _ => Q d, ex := fun x _ => E x }) : DefAt P w K mg base 2 "raw_sum" S_raw_sum :=
  def_at (k := 1) T.d_raw_sum sc_raw_sum (fun f cdv A outer s H E c W hr hf np tk => (sb_one (ss_ret (ee_sum2 hf rfl T.n_sum (ab_s (EF.ee (ef_lc (own := [("one", 2)]) (is := [2]) rfl sc_raw_sum.nd (sib_name 0 hf) (show BlkOk N_raw_sum (defScope (top 19)) _ _ from ⟨rfl, by decide +kernel, by decide +kernel, by decide +kernel, by decide +kernel⟩) (by decide) (fun _ => (sg_name 2 sc_raw_sum.nd)) (fun _ => ets_nil) (fun _ => (ee_call (Fit.blk hf) np takes_no (F_raw_power.call hr) (as_cons (ee_var 2) (as_cons (ee_var 1) as_nil)))))) ab_nil))))) hl o1
theorem sc_power_sums : FnScope N_power_sums ["heap", "most"] (defScope (top 20)) := ⟨rfl, rfl, rfl, by decide +kernel, rfl, by decide +kernel, by decide +kernel⟩
theorem d_power_sums (T : Txt K mg) (F_check_heap : DefAt P w K mg base 5 "check_heap" S_check_heap) (F_check_number : DefAt P w K mg base 3 "check_number" S_check_number) (F_raw_sum : DefAt P w K mg base 2 "raw_sum" S_raw_sum) (hl : ∀ ds Q E, S_power_sums ds Q E → ds.length = 2)
   (o1 : ∀ ds Q E, S_power_sums ds Q E → m_power_sums (ev0 N_power_sums ds) { nx := fun _ => Q .non, rt := fun d _ => Q d, ex := fun x _ => E x }) : DefAt P w K mg base 6 "power_sums" S_power_sums :=
  def_at (k := 5) T.d_power_sums sc_power_sums (fun f cdv A outer s H E c W hr hf np tk => (sb_cons (ss_expr (ee_call hf np tk (F_check_heap.call hr) (as_cons (ee_var 0) as_nil))) (sb_cons (ss_expr (ee_call hf np tk (F_check_number.call hr) (as_cons (ee_var 1) (as_cons ee_int (as_cons (ee_glob (glob_int T.g_MOST_POWER.choose_spec)) as_nil))))) (sb_one (ss_ret (ee_tuple hf T.n_tuple (ab_s (EF.ee (ef_lc (own := [("k", 2)]) (is := [2]) rfl sc_power_sums.nd (SI.sib (si_r2 T.n_range (as_cons ee_int (as_cons (ee_add hf (e2_v 1 (EE.eb ee_int))) as_nil)))) (show BlkOk N_power_sums (defScope (top 20)) _ _ from ⟨rfl, by decide +kernel, by decide +kernel, by decide +kernel, by decide +kernel⟩) (by decide) (fun _ => (sg_name 2 sc_power_sums.nd)) (fun _ => ets_nil) (fun _ => (ee_call (Fit.blk hf) np takes_no (F_raw_sum.call hr) (as_cons (ee_var 0) (as_cons (ee_var 2) as_nil)))))) ab_nil))))))) hl o1
theorem sc_as_heap : FnScope N_as_heap ["numbers"] (defScope (top 17)) := ⟨rfl, rfl, rfl, by decide +kernel, rfl, by decide +kernel, by decide +kernel⟩
theorem d_as_heap (T : Txt K mg) (F_are_items : DefAt P w K mg base 3 "are_items" S_are_items) (hl : ∀ ds Q E, S_as_heap ds Q E → ds.length = 1)
   (o1 : ∀ ds Q E, S_as_heap ds Q E → m_as_heap (ev0 N_as_heap ds) { nx := fun _ => Q .non, rt := fun d _ => Q d, ex := fun x _ => E x }) : DefAt P w K mg base 4 "as_heap" S_as_heap :=
  def_at (k := 3) T.d_as_heap sc_as_heap (fun f cdv A outer s H E c W hr hf np tk => (sb_cons (ss_set 1 sc_as_heap.nd (ee_tuple hf T.n_tuple (ab_s (EF.ee (ef_sort3 hf hr T.n_sorted (ab_v 0 ab_nil))) ab_nil))) (sb_cons (ss_if (et_not (et_tru hf (EE.eb (ee_call hf np tk (F_are_items.call hr) (as_cons (ee_var 1) as_nil))))) (sb_one (ss_raise hf tk T.e_NoNumbers)) sb_nil) (sb_one (ss_ret (ee_var 1)))))) hl o1
theorem sc_joined : FnScope N_joined ["one", "other"] (defScope (top 22)) := ⟨rfl, rfl, rfl, by decide +kernel, rfl, by decide +kernel, by decide +kernel⟩
theorem d_joined (T : Txt K mg) (F_check_both : DefAt P w K mg base 6 "check_both" S_check_both) (F_as_heap : DefAt P w K mg base 4 "as_heap" S_as_heap) (hl : ∀ ds Q E, S_joined ds Q E → ds.length = 2)
   (o1 : ∀ ds Q E, S_joined ds Q E → m_joined (ev0 N_joined ds) { nx := fun _ => Q .non, rt := fun d _ => Q d, ex := fun x _ => E x }) : DefAt P w K mg base 7 "joined" S_joined :=
  def_at (k := 6) T.d_joined sc_joined (fun f cdv A outer s H E c W hr hf np tk => (sb_cons (ss_expr (ee_call hf np tk (F_check_both.call hr) (as_cons (ee_var 0) (as_cons (ee_var 1) as_nil)))) (sb_one (ss_ret (ee_call hf np tk (F_as_heap.call hr) (as_cons (ee_add hf (e2_v 0 (eb_var 1))) as_nil)))))) hl o1
theorem sc_law_power : FnScope N_law_power ["number_here", "k"] (defScope (top 43)) := ⟨rfl, rfl, rfl, by decide +kernel, rfl, by decide +kernel, by decide +kernel⟩
theorem d_law_power (T : Txt K mg)  (hl : ∀ ds Q E, S_law_power ds Q E → ds.length = 2)
   (o1 : ∀ ds Q E, S_law_power ds Q E → m_law_power (ev0 N_law_power ds) { nx := fun _ => Q .non, rt := fun d _ => Q d, ex := fun x _ => E x }) : DefAt P w K mg base 1 "_law_power" S_law_power :=
  def_at (k := 0) T.d_law_power sc_law_power (fun f cdv A outer s H E c W hr hf np tk => (sb_cons (ss_set 2 sc_law_power.nd ee_int) (sb_cons (ss_for (passes_of rfl) rfl (si_r1 T.n_range (as_cons (ee_var 1) as_nil)) (sg_name 3 sc_law_power.nd) (sb_one (ss_set 2 sc_law_power.nd (ee_mul (e2_v 2 (eb_var 0)))))) (sb_one (ss_ret (ee_var 2)))))) hl o1
theorem sc_law_sum : FnScope N_law_sum ["heap", "k"] (defScope (top 44)) := ⟨rfl, rfl, rfl, by decide +kernel, rfl, by decide +kernel, by decide +kernel⟩
theorem d_law_sum (T : Txt K mg) (F__law_power : DefAt P w K mg base 1 "_law_power" S_law_power) (hl : ∀ ds Q E, S_law_sum ds Q E → ds.length = 2)
   (o1 : ∀ ds Q E, S_law_sum ds Q E → m_law_sum (ev0 N_law_sum ds) { nx := fun _ => Q .non, rt := fun d _ => Q d, ex := fun x _ => E x }) : DefAt P w K mg base 2 "_law_sum" S_law_sum :=
  def_at (k := 1) T.d_law_sum sc_law_sum (fun f cdv A outer s H E c W hr hf np tk => (sb_one (ss_ret (ee_sum2 hf rfl T.n_sum (ab_s (EF.ee (ef_lc (own := [("one", 2)]) (is := [2]) rfl sc_law_sum.nd (sib_name 0 hf) (show BlkOk N_law_sum (defScope (top 44)) _ _ from ⟨rfl, by decide +kernel, by decide +kernel, by decide +kernel, by decide +kernel⟩) (by decide) (fun _ => (sg_name 2 sc_law_sum.nd)) (fun _ => ets_nil) (fun _ => (ee_call (Fit.blk hf) np takes_no (F__law_power.call hr) (as_cons (ee_var 2) (as_cons (ee_var 1) as_nil)))))) ab_nil))))) hl o1
theorem sc_law_roots : FnScope N_law_roots ["heap"] (defScope (top 48)) := ⟨rfl, rfl, rfl, by decide +kernel, rfl, by decide +kernel, by decide +kernel⟩
theorem d_law_roots (T : Txt K mg)  (hl : ∀ ds Q E, S_law_roots ds Q E → ds.length = 1)
   (o1 : ∀ ds Q E, S_law_roots ds Q E → m_law_roots (ev0 N_law_roots ds) { nx := fun _ => Q .non, rt := fun d _ => Q d, ex := fun x _ => E x }) : DefAt P w K mg base 1 "_law_roots" S_law_roots :=
  def_at (k := 0) T.d_law_roots sc_law_roots (fun f cdv A outer s H E c W hr hf np tk => (sb_cons (ss_set 1 sc_law_roots.nd (EF.ee (ef_lst (as_cons ee_int as_nil)))) (sb_cons (ss_for (passes_of rfl) rfl (si_var 0 hf) (sg_name 2 sc_law_roots.nd) (sb_one (ss_lc 1 (own := [("before", 3), ("here", 4)]) (is := [3, 4]) rfl sc_law_roots.nd (SI.sib (si_zip hf rfl T.n_zip (as_cons (ee_add hf (e2_s (EF.ee (ef_lst (as_cons ee_int as_nil))) (eb_var 1))) (as_cons (ee_add hf (e2_v 1 (EE.eb (EF.ee (ef_lst (as_cons ee_int as_nil)))))) as_nil)))) (show BlkOk N_law_roots (defScope (top 48)) _ _ from ⟨rfl, by decide +kernel, by decide +kernel, by decide +kernel, by decide +kernel⟩) (by decide) (fun _ => (sg_tup (Fit.blk hf) rfl (sgs_cons (sg_name 3 sc_law_roots.nd) (sgs_cons (sg_name 4 sc_law_roots.nd) sgs_nil)))) (fun _ => ets_nil) (fun _ => (ee_sub (e2_v 3 (EE.eb (ee_mul (e2_v 2 (eb_var 4))))))) rfl))) (sb_one (ss_ret (ee_var 1)))))) hl o1
theorem sc_law_newton : FnScope N_law_newton ["terms", "most"] (defScope (top 49)) := ⟨rfl, rfl, rfl, by decide +kernel, rfl, by decide +kernel, by decide +kernel⟩
theorem d_law_newton (T : Txt K mg)  (hl : ∀ ds Q E, S_law_newton ds Q E → ds.length = 2)
   (o1 : ∀ ds Q E, S_law_newton ds Q E → m_law_newton (ev0 N_law_newton ds) { nx := fun _ => Q .non, rt := fun d _ => Q d, ex := fun x _ => E x }) : DefAt P w K mg base 1 "_law_newton" S_law_newton :=
  def_at (k := 0) T.d_law_newton sc_law_newton (fun f cdv A outer s H E c W hr hf np tk => (sb_cons (ss_parA 2 3 np rfl sc_law_newton.nd (ax_sh (ee_sub (e2_s (ee_len hf T.n_len (ab_v 0 ab_nil)) (EE.eb ee_int))) (ax_ow (ef_lst as_nil) ax_nil))) (sb_cons (ss_set 4 sc_law_newton.nd (EF.ee (ef_lc (own := [("j", 7)]) (is := [7]) rfl sc_law_newton.nd (SI.sib (si_r1 T.n_range (as_cons (ee_add hf (e2_v 2 (EE.eb ee_int))) as_nil))) (show BlkOk N_law_newton (defScope (top 49)) _ _ from ⟨rfl, by decide +kernel, by decide +kernel, by decide +kernel, by decide +kernel⟩) (by decide) (fun _ => (sg_name 7 sc_law_newton.nd)) (fun _ => ets_nil) (fun _ => (ee_ix (Fit.blk hf) (e2_v 0 (EE.eb (ee_sub (e2_v 2 (eb_var 7)))))))))) (sb_cons (ss_for (passes_of rfl) rfl (si_r2 T.n_range (as_cons ee_int (as_cons (ee_add hf (e2_v 1 (EE.eb ee_int))) as_nil))) (sg_name 5 sc_law_newton.nd) (sb_cons (ss_set 6 sc_law_newton.nd (ee_sub (e2_s ee_int (EE.eb (ee_sum2 hf rfl T.n_sum (ab_s (EF.ee (ef_lc (own := [("j", 7)]) (is := [7]) rfl sc_law_newton.nd (SI.sib (si_r2 T.n_range (as_cons ee_int (as_cons (ee_add hf (e2_s (ee_min2 rfl T.n_min (ab_s (ee_sub (e2_v 5 (EE.eb ee_int))) (ab_v 2 ab_nil))) (EE.eb ee_int))) as_nil)))) (show BlkOk N_law_newton (defScope (top 49)) _ _ from ⟨rfl, by decide +kernel, by decide +kernel, by decide +kernel, by decide +kernel⟩) (by decide) (fun _ => (sg_name 7 sc_law_newton.nd)) (fun _ => ets_nil) (fun _ => (ee_mul (e2_s (ee_ix (Fit.blk hf) (e2_v 4 (eb_var 7))) (EE.eb (ee_ix (Fit.blk hf) (e2_v 3 (EE.eb (ee_sub (e2_s (ee_sub (e2_v 5 (eb_var 7))) (EE.eb ee_int)))))))))))) ab_nil)))))) (sb_one (ss_expr (ee_append 3 (ee_if (et_le (e2_v 5 (eb_var 2))) (ee_sub (e2_v 6 (EE.eb (ee_mul (e2_v 5 (EE.eb (ee_ix hf (e2_v 4 (eb_var 5))))))))) (ee_var 6))))))) (sb_one (ss_ret (ee_tuple hf T.n_tuple (ab_v 3 ab_nil)))))))) hl o1
theorem sc_law_is_heap_right : FnScope N_law_is_heap_right ["hand", "heap"] (defScope (top 50)) := ⟨rfl, rfl, rfl, by decide +kernel, rfl, by decide +kernel, by decide +kernel⟩
theorem d_law_is_heap_right (T : Txt K mg) (F_root_poly : DefAt P w K mg base 6 "root_poly" S_root_poly) (F_newton_sums : DefAt P w K mg base 4 "newton_sums" S_newton_sums) (F__law_same : DefAt P w K mg base 4 "_law_same" (S_law_same_ 3)) (F__law_draw : DefAt P w K mg base 1 "_law_draw" S_draw) (F__law_any : DefAt P w K mg base 2 "_law_any" S_law_any) (F__law_drawn : DefAt P w K mg base 3 "_law_drawn" S_law_drawn) (F_power_sums : DefAt P w K mg base 6 "power_sums" S_power_sums) (F_joined : DefAt P w K mg base 7 "joined" S_joined) (F__law_sum : DefAt P w K mg base 2 "_law_sum" S_law_sum) (F__law_roots : DefAt P w K mg base 1 "_law_roots" S_law_roots) (F__law_newton : DefAt P w K mg base 1 "_law_newton" S_law_newton) (hl : ∀ ds Q E, S_law_is_heap_right ds Q E → ds.length = 2)
   (o1 : ∀ ds Q E, S_law_is_heap_right ds Q E → m_law_is_heap_right (ev0 N_law_is_heap_right ds) { nx := fun _ => Q .non, rt := fun d _ => Q d, ex := fun x _ => E x }) : DefAt P w K mg base 8 "_law_is_heap_right" S_law_is_heap_right :=
  def_at (k := 7) T.d_law_is_heap_right sc_law_is_heap_right (fun f cdv A outer s H E c W hr hf np tk => (sb_cons (ss_par 2 3 np rfl sc_law_is_heap_right.nd (ax_sh (ee_call hf np tk (F__law_roots.call hr) (as_cons (ee_var 1) as_nil)) (ax_sh (ee_add hf (e2_s ee_int (EE.eb (ee_call hf np tk (F__law_draw.call hr) (as_cons (ee_var 0) (as_cons (ee_call hf np tk (F__law_any.call hr) (as_cons (ee_var 0) (as_cons (EF.ee (ef_lst (as_cons ee_int (as_cons ee_int (as_cons ee_int as_nil))))) as_nil))) as_nil)))))) ax_nil))) (sb_cons (ss_set 4 sc_law_is_heap_right.nd (ee_tuple hf T.n_tuple (ab_s (EF.ee (ef_lc (own := [("k", 12)]) (is := [12]) rfl sc_law_is_heap_right.nd (SI.sib (si_r2 T.n_range (as_cons ee_int (as_cons (ee_add hf (e2_v 3 (EE.eb ee_int))) as_nil)))) (show BlkOk N_law_is_heap_right (defScope (top 50)) _ _ from ⟨rfl, by decide +kernel, by decide +kernel, by decide +kernel, by decide +kernel⟩) (by decide) (fun _ => (sg_name 12 sc_law_is_heap_right.nd)) (fun _ => ets_nil) (fun _ => (ee_call (Fit.blk hf) np takes_no (F__law_sum.call hr) (as_cons (ee_var 1) (as_cons (ee_var 12) as_nil)))))) ab_nil))) (sb_cons (ss_if (EW.et (ew_or (et_not (et_tru hf (EE.eb (ee_call hf np tk (F__law_same.call hr) (as_cons (EF.ee (ef_lst (as_cons (ee_call hf np tk (F_root_poly.call hr) (as_cons (ee_var 1) as_nil)) (as_cons (ee_call hf np tk (F_newton_sums.call hr) (as_cons (ee_tuple hf T.n_tuple (ab_v 2 ab_nil)) (as_cons (ee_var 3) as_nil))) as_nil)))) (as_cons (EF.ee (ef_lst (as_cons (ee_tuple hf T.n_tuple (ab_v 2 ab_nil)) (as_cons (ee_var 4) as_nil)))) as_nil)))))) (ew_or1 (et_ne hf hr.units (e2_s (ee_call hf np tk (F_power_sums.call hr) (as_cons (ee_var 1) (as_cons (ee_var 3) as_nil))) (eb_var 4)))))) (sb_one (ss_ret ee_bl)) sb_nil) (sb_cons (ss_set 5 sc_law_is_heap_right.nd (ee_tuple hf T.n_tuple (ab_s (ee_add hf (e2_s (EF.ee (ef_lc (own := [("place", 13)]) (is := [13]) rfl sc_law_is_heap_right.nd (SI.sib (si_r1 T.n_range (as_cons (ee_add hf (e2_s ee_int (EE.eb (ee_call hf np tk (F__law_draw.call hr) (as_cons (ee_var 0) (as_cons ee_int as_nil)))))) as_nil))) (show BlkOk N_law_is_heap_right (defScope (top 50)) _ _ from ⟨rfl, by decide +kernel, by decide +kernel, by decide +kernel, by decide +kernel⟩) (by decide) (fun _ => (sg_name 13 sc_law_is_heap_right.nd)) (fun _ => ets_nil) (fun _ => (ee_sub (e2_s (ee_call (Fit.blk hf) np takes_no (F__law_draw.call hr) (as_cons (ee_var 0) (as_cons ee_int as_nil))) (EE.eb ee_int)))))) (EE.eb (EF.ee (ef_lst (as_cons ee_int as_nil)))))) ab_nil))) (sb_cons (ss_if (et_not (et_tru hf (EE.eb (ee_call hf np tk (F__law_same.call hr) (as_cons (ee_call hf np tk (F_newton_sums.call hr) (as_cons (ee_var 5) (as_cons (ee_var 3) as_nil))) (as_cons (ee_call hf np tk (F__law_newton.call hr) (as_cons (ee_var 5) (as_cons (ee_var 3) as_nil))) as_nil)))))) (sb_one (ss_ret ee_bl)) sb_nil) (sb_cons (ss_set 6 sc_law_is_heap_right.nd (ee_call hf np tk (F__law_drawn.call hr) (as_cons (ee_var 0) (as_cons ee_int as_nil)))) (sb_cons (ss_setF 7 np sc_law_is_heap_right.nd (ef_mul (e2_s (EF.ee (ef_lst (as_cons ee_int as_nil))) (EE.eb (ee_add hf (e2_s (ee_add hf (e2_s (ee_len hf T.n_len (ab_v 1 ab_nil)) (EE.eb (ee_len hf T.n_len (ab_v 6 ab_nil))))) (EE.eb ee_int))))))) (sb_cons (ss_for (passes_of rfl) rfl (si_enumT hf T.n_enumerate (as_cons (ee_call hf np tk (F_root_poly.call hr) (as_cons (ee_var 1) as_nil)) as_nil)) (sg_tup hf rfl (sgs_cons (sg_name 8 sc_law_is_heap_right.nd) (sgs_cons (sg_name 9 sc_law_is_heap_right.nd) sgs_nil))) (sb_one (ss_for (passes_of rfl) rfl (si_enumT hf T.n_enumerate (as_cons (ee_call hf np tk (F_root_poly.call hr) (as_cons (ee_var 6) as_nil)) as_nil)) (sg_tup hf rfl (sgs_cons (sg_name 10 sc_law_is_heap_right.nd) (sgs_cons (sg_name 11 sc_law_is_heap_right.nd) sgs_nil))) (sb_one (ss_setix 7 (ee_add hf (e2_s (ee_ix hf (e2_v 7 (EE.eb (ee_add hf (e2_v 8 (eb_var 10)))))) (EE.eb (ee_mul (e2_v 9 (eb_var 11)))))) (ee_add hf (e2_v 8 (eb_var 10)))))))) (sb_one (ss_ret (ee_eq hf hr.units (e2_s (ee_call hf np tk (F_root_poly.call hr) (as_cons (ee_call hf np tk (F_joined.call hr) (as_cons (ee_var 1) (as_cons (ee_var 6) as_nil))) as_nil)) (EE.eb (ee_tuple hf T.n_tuple (ab_v 7 ab_nil)))))))))))))))) hl o1
theorem sc_first_unlike : FnScope N_first_unlike ["one", "other"] (defScope (top 27)) := ⟨rfl, rfl, rfl, by decide +kernel, rfl, by decide +kernel, by decide +kernel⟩
theorem d_first_unlike (T : Txt K mg) (F_raw_sum : DefAt P w K mg base 2 "raw_sum" S_raw_sum) (hl : ∀ ds Q E, S_first_unlike ds Q E → ds.length = 2)
   (o1 : ∀ ds Q E, S_first_unlike ds Q E → m_first_unlike (ev0 N_first_unlike ds) { nx := fun _ => Q .non, rt := fun d _ => Q d, ex := fun x _ => E x }) : DefAt P w K mg base 3 "first_unlike" S_first_unlike :=
  def_at (k := 2) T.d_first_unlike sc_first_unlike (fun f cdv A outer s H E c W hr hf np tk => (sb_cons (ss_if (et_eq hf hr.units (e2_v 0 (eb_var 1))) (sb_one (ss_ret ee_non)) sb_nil) (sb_cons (ss_set 2 sc_first_unlike.nd ee_int) (sb_cons (ss_while (passes_of rfl) (et_eq hf hr.units (e2_s (ee_call hf np tk (F_raw_sum.call hr) (as_cons (ee_var 0) (as_cons (ee_var 2) as_nil))) (EE.eb (ee_call hf np tk (F_raw_sum.call hr) (as_cons (ee_var 1) (as_cons (ee_var 2) as_nil)))))) (sb_one (ss_aug 2 ip_add sc_first_unlike.nd ee_int))) (sb_one (ss_ret (ee_var 2))))))) hl o1
theorem sc_like_far : FnScope N_like_far ["one", "other"] (defScope (top 28)) := ⟨rfl, rfl, rfl, by decide +kernel, rfl, by decide +kernel, by decide +kernel⟩
theorem d_like_far (T : Txt K mg) (F_check_two : DefAt P w K mg base 7 "check_two" S_check_two) (F_first_unlike : DefAt P w K mg base 3 "first_unlike" S_first_unlike) (hl : ∀ ds Q E, S_like_far ds Q E → ds.length = 2)
   (o1 : ∀ ds Q E, S_like_far ds Q E → m_like_far (ev0 N_like_far ds) { nx := fun _ => Q .non, rt := fun d _ => Q d, ex := fun x _ => E x }) : DefAt P w K mg base 8 "like_far" S_like_far :=
  def_at (k := 7) T.d_like_far sc_like_far (fun f cdv A outer s H E c W hr hf np tk => (sb_cons (ss_expr (ee_call hf np tk (F_check_two.call hr) (as_cons (ee_var 0) (as_cons (ee_var 1) as_nil)))) (sb_cons (ss_set 2 sc_like_far.nd (ee_call hf np tk (F_first_unlike.call hr) (as_cons (ee_var 0) (as_cons (ee_var 1) as_nil)))) (sb_one (ss_ret (ee_if (et_isN (e2_v 2 (EE.eb ee_non))) ee_non (ee_sub (e2_v 2 (EE.eb ee_int))))))))) hl o1
theorem sc_law_is_pair_right : FnScope N_law_is_pair_right ["one", "other"] (defScope (top 51)) := ⟨rfl, rfl, rfl, by decide +kernel, rfl, by decide +kernel, by decide +kernel⟩
theorem d_law_is_pair_right (T : Txt K mg) (F_root_gap : DefAt P w K mg base 8 "root_gap" S_root_gap) (F_gap_degree : DefAt P w K mg base 8 "gap_degree" S_gap_degree) (F__law_same : DefAt P w K mg base 4 "_law_same" (S_law_same_ 3)) (F__law_roots : DefAt P w K mg base 1 "_law_roots" S_law_roots) (F_like_far : DefAt P w K mg base 8 "like_far" S_like_far) (hl : ∀ ds Q E, S_law_is_pair_right ds Q E → ds.length = 2)
   (o1 : ∀ ds Q E, S_law_is_pair_right ds Q E → m_law_is_pair_right (ev0 N_law_is_pair_right ds) { nx := fun _ => Q .non, rt := fun d _ => Q d, ex := fun x _ => E x }) : DefAt P w K mg base 9 "_law_is_pair_right" S_law_is_pair_right :=
  def_at (k := 8) T.d_law_is_pair_right sc_law_is_pair_right (fun f cdv A outer s H E c W hr hf np tk => (sb_cons (ss_lc 2 (own := [("a", 4), ("b", 5)]) (is := [4, 5]) rfl sc_law_is_pair_right.nd (SI.sib (si_zip hf rfl T.n_zip (as_cons (ee_call hf np tk (F__law_roots.call hr) (as_cons (ee_var 0) as_nil)) (as_cons (ee_call hf np tk (F__law_roots.call hr) (as_cons (ee_var 1) as_nil)) as_nil)))) (show BlkOk N_law_is_pair_right (defScope (top 51)) _ _ from ⟨rfl, by decide +kernel, by decide +kernel, by decide +kernel, by decide +kernel⟩) (by decide) (fun _ => (sg_tup (Fit.blk hf) rfl (sgs_cons (sg_name 4 sc_law_is_pair_right.nd) (sgs_cons (sg_name 5 sc_law_is_pair_right.nd) sgs_nil)))) (fun _ => ets_nil) (fun _ => (ee_sub (e2_v 4 (eb_var 5)))) rfl) (sb_cons (ss_while (passes_of rfl) (EW.et (ew_and (et_gt (e2_s (ee_len hf T.n_len (ab_v 2 ab_nil)) (EE.eb ee_int))) (ew_and1 (et_eq hf hr.units (e2_s (ee_ix hf (e2_v 2 (EE.eb (ee_neg ee_int)))) (EE.eb ee_int)))))) (sb_one (ss_set 2 sc_law_is_pair_right.nd (ee_slv 2 hf eo_none (eo_some (ee_neg ee_int)))))) (sb_cons (ss_set 3 sc_law_is_pair_right.nd (ee_if (et_eq hf hr.units (e2_v 0 (eb_var 1))) ee_non (ee_sub (e2_s (ee_len hf T.n_len (ab_v 2 ab_nil)) (EE.eb ee_int))))) (sb_cons (ss_if (et_not (et_tru hf (EE.eb (ee_call hf np tk (F__law_same.call hr) (as_cons (EF.ee (ef_lst (as_cons (ee_call hf np tk (F_root_gap.call hr) (as_cons (ee_var 0) (as_cons (ee_var 1) as_nil))) (as_cons (ee_call hf np tk (F_gap_degree.call hr) (as_cons (ee_var 0) (as_cons (ee_var 1) as_nil))) as_nil)))) (as_cons (EF.ee (ef_lst (as_cons (ee_tuple hf T.n_tuple (ab_v 2 ab_nil)) (as_cons (ee_var 3) as_nil)))) as_nil)))))) (sb_one (ss_ret ee_bl)) sb_nil) (sb_cons (ss_if (et_eq hf hr.units (e2_v 0 (eb_var 1))) (sb_one (ss_ret (ee_eq hf hr.units (e2_v 2 (EE.eb (EF.ee (ef_lst (as_cons ee_int as_nil)))))))) sb_nil) (sb_one (ss_ret (ee_all hf rfl T.n_all (ab_s (EF.ee (ef_lc (own := [("k", 6)]) (is := [6]) rfl sc_law_is_pair_right.nd (SI.sib (si_r1 T.n_range (as_cons (ee_len hf T.n_len (ab_v 0 ab_nil)) as_nil))) (show BlkOk N_law_is_pair_right (defScope (top 51)) _ _ from ⟨rfl, by decide +kernel, by decide +kernel, by decide +kernel, by decide +kernel⟩) (by decide) (fun _ => (sg_name 6 sc_law_is_pair_right.nd)) (fun _ => ets_nil) (fun _ => (ee_eq (Fit.blk hf) hr.units (e2_s (ee_ge (e2_s (ee_call (Fit.blk hf) np takes_no (F_like_far.call hr) (as_cons (ee_var 0) (as_cons (ee_var 1) as_nil))) (eb_var 6))) (EE.eb (ee_le (e2_v 3 (EE.eb (ee_sub (e2_s (ee_sub (e2_s (ee_len (Fit.blk hf) T.n_len (ab_v 0 ab_nil)) (eb_var 6))) (EE.eb ee_int)))))))))))) ab_nil)))))))))) hl o1
theorem sc_law : FnScope N_law ["script"] (defScope (top 52)) := ⟨rfl, rfl, rfl, by decide +kernel, rfl, by decide +kernel, by decide +kernel⟩
theorem d_law {f : Addr} {fd : FuncData} (F : Fun K "law" "law" (top 52) f fd) (T : Txt K mg) (F_root_poly : DefAt P w K mg base 6 "root_poly" S_root_poly) (F_root_gap : DefAt P w K mg base 8 "root_gap" S_root_gap) (F_gap_degree : DefAt P w K mg base 8 "gap_degree" S_gap_degree) (F_newton_sums : DefAt P w K mg base 4 "newton_sums" S_newton_sums) (F__law_hand : DefAt P w K mg base 1 "_law_hand" S_hand) (F__law_same : DefAt P w K mg base 4 "_law_same" (S_law_same_ 3)) (F__law_drawn : DefAt P w K mg base 3 "_law_drawn" S_law_drawn) (F__law_pair : DefAt P w K mg base 4 "_law_pair" S_law_pair) (F__law_is_heap_right : DefAt P w K mg base 8 "_law_is_heap_right" S_law_is_heap_right) (F__law_is_pair_right : DefAt P w K mg base 9 "_law_is_pair_right" S_law_is_pair_right)
    (o0 : ∀ ns : List Int, ns.length ≤ 63 → m0_law (ev0 N_law [.fl ns]) { nx := fun ρ => ∃ cells p r x n, HdC cells p r x n ∧ ρ.get 1 = some (hdD cells p r x n, .sh) ∧ ρ.length = N_law.length, rt := fun _ _ => False, ex := fun _ _ => False })
    (o1 : m_law (ev1 N_law) { nx := fun _ => False, rt := fun d _ => d = .bl true, ex := fun _ _ => False }) : FnG P w K mg base 10 f fd ["script"] (spLaw K) :=
  law_at F sc_law rfl (by decide) rfl (fun cdv A outer s H E c W hr hf np tk => (ss_set 1 sc_law.nd (ee_call hf np tk (F__law_hand.call hr) (as_cons (ee_var 0) as_nil))))
   (fun cdv A outer s H E c W hr hf np tk => (sb_cons (ss_set 2 sc_law.nd (EF.ee (ef_lst (as_cons (ee_call hf np tk (F_root_poly.call hr) (as_cons (ee_tup (as_cons ee_int (as_cons ee_int (as_cons ee_int as_nil)))) as_nil)) (as_cons (ee_call hf np tk (F_root_gap.call hr) (as_cons (ee_tup (as_cons ee_int (as_cons ee_int (as_cons ee_int as_nil)))) (as_cons (ee_tup (as_cons ee_int (as_cons ee_int (as_cons ee_int as_nil)))) as_nil))) (as_cons (ee_call hf np tk (F_gap_degree.call hr) (as_cons (ee_tup (as_cons ee_int (as_cons ee_int as_nil))) (as_cons (ee_tup (as_cons ee_int (as_cons ee_int as_nil))) as_nil))) (as_cons (ee_call hf np tk (F_root_gap.call hr) (as_cons (ee_tup (as_cons ee_int as_nil)) (as_cons (ee_tup (as_cons ee_int as_nil)) as_nil))) (as_cons (ee_call hf np tk (F_gap_degree.call hr) (as_cons (ee_tup (as_cons ee_int as_nil)) (as_cons (ee_tup (as_cons ee_int as_nil)) as_nil))) (as_cons (ee_call hf np tk (F_newton_sums.call hr) (as_cons (ee_tup (as_cons (ee_neg ee_int) (as_cons ee_int (as_cons (ee_neg ee_int) (as_cons ee_int as_nil))))) (as_cons ee_int as_nil))) (as_cons (ee_call hf np tk (F_newton_sums.call hr) (as_cons (ee_tup (as_cons ee_int (as_cons ee_int (as_cons ee_int as_nil)))) (as_cons ee_int as_nil))) as_nil)))))))))) (sb_cons (ss_if (et_not (et_tru hf (EE.eb (ee_call hf np tk (F__law_same.call hr) (as_cons (ee_var 2) (as_cons (EF.ee (ef_lst (as_cons (ee_tup (as_cons (ee_neg ee_int) (as_cons ee_int (as_cons (ee_neg ee_int) (as_cons ee_int as_nil))))) (as_cons (ee_tup (as_cons ee_int as_nil)) (as_cons ee_int (as_cons (ee_tup (as_cons ee_int as_nil)) (as_cons ee_non (as_cons (ee_tup (as_cons ee_int (as_cons ee_int (as_cons ee_int as_nil)))) (as_cons (ee_tup (as_cons ee_int (as_cons (ee_neg ee_int) (as_cons ee_int (as_cons ee_int as_nil))))) as_nil))))))))) as_nil)))))) (sb_one (ss_ret ee_bl)) sb_nil) (sb_cons (ss_for (passes_of rfl) rfl (si_r1 T.n_range (as_cons ee_int as_nil)) (sg_name 3 sc_law.nd) (sb_cons (ss_apart (ee_call hf np tk (F__law_pair.call hr) (as_cons (ee_var 1) as_nil)) (sg_tup hf rfl (sgs_cons (sg_name 4 sc_law.nd) (sgs_cons (sg_name 5 sc_law.nd) sgs_nil)))) (sb_one (ss_if (EW.et (ew_or (et_not (et_tru hf (EE.eb (ee_call hf np tk (F__law_is_heap_right.call hr) (as_cons (ee_var 1) (as_cons (ee_call hf np tk (F__law_drawn.call hr) (as_cons (ee_var 1) (as_cons ee_int as_nil))) as_nil)))))) (ew_or1 (et_not (et_tru hf (EE.eb (ee_call hf np tk (F__law_is_pair_right.call hr) (as_cons (ee_var 4) (as_cons (ee_var 5) as_nil))))))))) (sb_one (ss_ret ee_bl)) sb_nil)))) (sb_one (ss_ret ee_bl)))))) o0 o1
theorem b_is_integer : ∀ (kV doc pm : Value) (an : Option Addr) (cdv ct : Value) (us : List Value), us.length = 1 → bindArgs (PySem.W.fnOf "is_integer" "is_integer" (defArgs (top 11)) (defBody (top 11)) (defScope (top 11)) .none kV doc pm an cdv ct) ⟨us, []⟩ = pure ((["thing"] : List Str).zip us) := fun _ _ _ _ _ _ us hl => match us, hl with | [_], _ => rfl
theorem b_is_within : ∀ (kV doc pm : Value) (an : Option Addr) (cdv ct : Value) (us : List Value), us.length = 3 → bindArgs (PySem.W.fnOf "is_within" "is_within" (defArgs (top 12)) (defBody (top 12)) (defScope (top 12)) .none kV doc pm an cdv ct) ⟨us, []⟩ = pure ((["thing", "low", "high"] : List Str).zip us) := fun _ _ _ _ _ _ us hl => match us, hl with | [_, _, _], _ => rfl
theorem b_are_items : ∀ (kV doc pm : Value) (an : Option Addr) (cdv ct : Value) (us : List Value), us.length = 1 → bindArgs (PySem.W.fnOf "are_items" "are_items" (defArgs (top 13)) (defBody (top 13)) (defScope (top 13)) .none kV doc pm an cdv ct) ⟨us, []⟩ = pure ((["thing"] : List Str).zip us) := fun _ _ _ _ _ _ us hl => match us, hl with | [_], _ => rfl
theorem b_is_heap : ∀ (kV doc pm : Value) (an : Option Addr) (cdv ct : Value) (us : List Value), us.length = 1 → bindArgs (PySem.W.fnOf "is_heap" "is_heap" (defArgs (top 14)) (defBody (top 14)) (defScope (top 14)) .none kV doc pm an cdv ct) ⟨us, []⟩ = pure ((["thing"] : List Str).zip us) := fun _ _ _ _ _ _ us hl => match us, hl with | [_], _ => rfl
theorem b_check_heap : ∀ (kV doc pm : Value) (an : Option Addr) (cdv ct : Value) (us : List Value), us.length = 1 → bindArgs (PySem.W.fnOf "check_heap" "check_heap" (defArgs (top 15)) (defBody (top 15)) (defScope (top 15)) .none kV doc pm an cdv ct) ⟨us, []⟩ = pure ((["thing"] : List Str).zip us) := fun _ _ _ _ _ _ us hl => match us, hl with | [_], _ => rfl
theorem b_raw_roots : ∀ (kV doc pm : Value) (an : Option Addr) (cdv ct : Value) (us : List Value), us.length = 1 → bindArgs (PySem.W.fnOf "raw_roots" "raw_roots" (defArgs (top 30)) (defBody (top 30)) (defScope (top 30)) .none kV doc pm an cdv ct) ⟨us, []⟩ = pure ((["heap"] : List Str).zip us) := fun _ _ _ _ _ _ us hl => match us, hl with | [_], _ => rfl
theorem b_root_poly : ∀ (kV doc pm : Value) (an : Option Addr) (cdv ct : Value) (us : List Value), us.length = 1 → bindArgs (PySem.W.fnOf "root_poly" "root_poly" (defArgs (top 31)) (defBody (top 31)) (defScope (top 31)) .none kV doc pm an cdv ct) ⟨us, []⟩ = pure ((["heap"] : List Str).zip us) := fun _ _ _ _ _ _ us hl => match us, hl with | [_], _ => rfl
theorem b_check_both : ∀ (kV doc pm : Value) (an : Option Addr) (cdv ct : Value) (us : List Value), us.length = 2 → bindArgs (PySem.W.fnOf "check_both" "check_both" (defArgs (top 21)) (defBody (top 21)) (defScope (top 21)) .none kV doc pm an cdv ct) ⟨us, []⟩ = pure ((["one", "other"] : List Str).zip us) := fun _ _ _ _ _ _ us hl => match us, hl with | [_, _], _ => rfl
theorem b_check_two : ∀ (kV doc pm : Value) (an : Option Addr) (cdv ct : Value) (us : List Value), us.length = 2 → bindArgs (PySem.W.fnOf "check_two" "check_two" (defArgs (top 26)) (defBody (top 26)) (defScope (top 26)) .none kV doc pm an cdv ct) ⟨us, []⟩ = pure ((["one", "other"] : List Str).zip us) := fun _ _ _ _ _ _ us hl => match us, hl with | [_, _], _ => rfl
theorem b_trimmed : ∀ (kV doc pm : Value) (an : Option Addr) (cdv ct : Value) (us : List Value), us.length = 1 → bindArgs (PySem.W.fnOf "trimmed" "trimmed" (defArgs (top 29)) (defBody (top 29)) (defScope (top 29)) .none kV doc pm an cdv ct) ⟨us, []⟩ = pure ((["terms"] : List Str).zip us) := fun _ _ _ _ _ _ us hl => match us, hl with | [_], _ => rfl
theorem b_raw_root_gap : ∀ (kV doc pm : Value) (an : Option Addr) (cdv ct : Value) (us : List Value), us.length = 2 → bindArgs (PySem.W.fnOf "raw_root_gap" "raw_root_gap" (defArgs (top 32)) (defBody (top 32)) (defScope (top 32)) .none kV doc pm an cdv ct) ⟨us, []⟩ = pure ((["one", "other"] : List Str).zip us) := fun _ _ _ _ _ _ us hl => match us, hl with | [_, _], _ => rfl
theorem b_root_gap : ∀ (kV doc pm : Value) (an : Option Addr) (cdv ct : Value) (us : List Value), us.length = 2 → bindArgs (PySem.W.fnOf "root_gap" "root_gap" (defArgs (top 33)) (defBody (top 33)) (defScope (top 33)) .none kV doc pm an cdv ct) ⟨us, []⟩ = pure ((["one", "other"] : List Str).zip us) := fun _ _ _ _ _ _ us hl => match us, hl with | [_, _], _ => rfl
theorem b_gap_degree : ∀ (kV doc pm : Value) (an : Option Addr) (cdv ct : Value) (us : List Value), us.length = 2 → bindArgs (PySem.W.fnOf "gap_degree" "gap_degree" (defArgs (top 34)) (defBody (top 34)) (defScope (top 34)) .none kV doc pm an cdv ct) ⟨us, []⟩ = pure ((["one", "other"] : List Str).zip us) := fun _ _ _ _ _ _ us hl => match us, hl with | [_, _], _ => rfl
theorem b_check_number : ∀ (kV doc pm : Value) (an : Option Addr) (cdv ct : Value) (us : List Value), us.length = 3 → bindArgs (PySem.W.fnOf "check_number" "check_number" (defArgs (top 16)) (defBody (top 16)) (defScope (top 16)) .none kV doc pm an cdv ct) ⟨us, []⟩ = pure ((["thing", "low", "high"] : List Str).zip us) := fun _ _ _ _ _ _ us hl => match us, hl with | [_, _, _], _ => rfl
theorem b_is_poly : ∀ (kV doc pm : Value) (an : Option Addr) (cdv ct : Value) (us : List Value), us.length = 1 → bindArgs (PySem.W.fnOf "is_poly" "is_poly" (defArgs (top 35)) (defBody (top 35)) (defScope (top 35)) .none kV doc pm an cdv ct) ⟨us, []⟩ = pure ((["thing"] : List Str).zip us) := fun _ _ _ _ _ _ us hl => match us, hl with | [_], _ => rfl
theorem b_newton_sums : ∀ (kV doc pm : Value) (an : Option Addr) (cdv ct : Value) (us : List Value), us.length = 2 → bindArgs (PySem.W.fnOf "newton_sums" "newton_sums" (defArgs (top 36)) (defBody (top 36)) (defScope (top 36)) .none kV doc pm an cdv ct) ⟨us, []⟩ = pure ((["poly", "most"] : List Str).zip us) := fun _ _ _ _ _ _ us hl => match us, hl with | [_, _], _ => rfl
theorem b_law_hand : ∀ (kV doc pm : Value) (an : Option Addr) (cdv ct : Value) (us : List Value), us.length = 1 → bindArgs (PySem.W.fnOf "_law_hand" "_law_hand" (defArgs (top 38)) (defBody (top 38)) (defScope (top 38)) .none kV doc pm an cdv ct) ⟨us, []⟩ = pure ((["script"] : List Str).zip us) := fun _ _ _ _ _ _ us hl => match us, hl with | [_], _ => rfl
theorem b_law_same : ∀ (kV doc pm : Value) (an : Option Addr) (cdv ct : Value) (us : List Value), us.length = 2 → bindArgs (PySem.W.fnOf "_law_same" "_law_same" (defArgs (top 41)) (defBody (top 41)) (defScope (top 41)) .none kV doc pm an cdv ct) ⟨us, []⟩ = pure ((["one", "due"] : List Str).zip us) := fun _ _ _ _ _ _ us hl => match us, hl with | [_, _], _ => rfl
theorem b_law_draw : ∀ (kV doc pm : Value) (an : Option Addr) (cdv ct : Value) (us : List Value), us.length = 2 → bindArgs (PySem.W.fnOf "_law_draw" "_law_draw" (defArgs (top 39)) (defBody (top 39)) (defScope (top 39)) .none kV doc pm an cdv ct) ⟨us, []⟩ = pure ((["hand", "many"] : List Str).zip us) := fun _ _ _ _ _ _ us hl => match us, hl with | [_, _], _ => rfl
theorem b_law_any : ∀ (kV doc pm : Value) (an : Option Addr) (cdv ct : Value) (us : List Value), us.length = 2 → bindArgs (PySem.W.fnOf "_law_any" "_law_any" (defArgs (top 40)) (defBody (top 40)) (defScope (top 40)) .none kV doc pm an cdv ct) ⟨us, []⟩ = pure ((["hand", "some"] : List Str).zip us) := fun _ _ _ _ _ _ us hl => match us, hl with | [_, _], _ => rfl
theorem b_law_drawn : ∀ (kV doc pm : Value) (an : Option Addr) (cdv ct : Value) (us : List Value), us.length = 2 → bindArgs (PySem.W.fnOf "_law_drawn" "_law_drawn" (defArgs (top 42)) (defBody (top 42)) (defScope (top 42)) .none kV doc pm an cdv ct) ⟨us, []⟩ = pure ((["hand", "most"] : List Str).zip us) := fun _ _ _ _ _ _ us hl => match us, hl with | [_, _], _ => rfl
theorem b_law_less : ∀ (kV doc pm : Value) (an : Option Addr) (cdv ct : Value) (us : List Value), us.length = 2 → bindArgs (PySem.W.fnOf "_law_less" "_law_less" (defArgs (top 45)) (defBody (top 45)) (defScope (top 45)) .none kV doc pm an cdv ct) ⟨us, []⟩ = pure ((["one", "other"] : List Str).zip us) := fun _ _ _ _ _ _ us hl => match us, hl with | [_, _], _ => rfl
theorem b_law_grown : ∀ (kV doc pm : Value) (an : Option Addr) (cdv ct : Value) (us : List Value), us.length = 3 → bindArgs (PySem.W.fnOf "_law_grown" "_law_grown" (defArgs (top 46)) (defBody (top 46)) (defScope (top 46)) .none kV doc pm an cdv ct) ⟨us, []⟩ = pure ((["one", "other", "by"] : List Str).zip us) := fun _ _ _ _ _ _ us hl => match us, hl with | [_, _, _], _ => rfl
theorem b_law_pair : ∀ (kV doc pm : Value) (an : Option Addr) (cdv ct : Value) (us : List Value), us.length = 1 → bindArgs (PySem.W.fnOf "_law_pair" "_law_pair" (defArgs (top 47)) (defBody (top 47)) (defScope (top 47)) .none kV doc pm an cdv ct) ⟨us, []⟩ = pure ((["hand"] : List Str).zip us) := fun _ _ _ _ _ _ us hl => match us, hl with | [_], _ => rfl
theorem b_raw_power : ∀ (kV doc pm : Value) (an : Option Addr) (cdv ct : Value) (us : List Value), us.length = 2 → bindArgs (PySem.W.fnOf "raw_power" "raw_power" (defArgs (top 18)) (defBody (top 18)) (defScope (top 18)) .none kV doc pm an cdv ct) ⟨us, []⟩ = pure ((["number", "times"] : List Str).zip us) := fun _ _ _ _ _ _ us hl => match us, hl with | [_, _], _ => rfl
theorem b_raw_sum : ∀ (kV doc pm : Value) (an : Option Addr) (cdv ct : Value) (us : List Value), us.length = 2 → bindArgs (PySem.W.fnOf "raw_sum" "raw_sum" (defArgs (top 19)) (defBody (top 19)) (defScope (top 19)) .none kV doc pm an cdv ct) ⟨us, []⟩ = pure ((["heap", "k"] : List Str).zip us) := fun _ _ _ _ _ _ us hl => match us, hl with | [_, _], _ => rfl
theorem b_power_sums : ∀ (kV doc pm : Value) (an : Option Addr) (cdv ct : Value) (us : List Value), us.length = 2 → bindArgs (PySem.W.fnOf "power_sums" "power_sums" (defArgs (top 20)) (defBody (top 20)) (defScope (top 20)) .none kV doc pm an cdv ct) ⟨us, []⟩ = pure ((["heap", "most"] : List Str).zip us) := fun _ _ _ _ _ _ us hl => match us, hl with | [_, _], _ => rfl
theorem b_as_heap : ∀ (kV doc pm : Value) (an : Option Addr) (cdv ct : Value) (us : List Value), us.length = 1 → bindArgs (PySem.W.fnOf "as_heap" "as_heap" (defArgs (top 17)) (defBody (top 17)) (defScope (top 17)) .none kV doc pm an cdv ct) ⟨us, []⟩ = pure ((["numbers"] : List Str).zip us) := fun _ _ _ _ _ _ us hl => match us, hl with | [_], _ => rfl
theorem b_joined : ∀ (kV doc pm : Value) (an : Option Addr) (cdv ct : Value) (us : List Value), us.length = 2 → bindArgs (PySem.W.fnOf "joined" "joined" (defArgs (top 22)) (defBody (top 22)) (defScope (top 22)) .none kV doc pm an cdv ct) ⟨us, []⟩ = pure ((["one", "other"] : List Str).zip us) := fun _ _ _ _ _ _ us hl => match us, hl with | [_, _], _ => rfl
theorem b_law_power : ∀ (kV doc pm : Value) (an : Option Addr) (cdv ct : Value) (us : List Value), us.length = 2 → bindArgs (PySem.W.fnOf "_law_power" "_law_power" (defArgs (top 43)) (defBody (top 43)) (defScope (top 43)) .none kV doc pm an cdv ct) ⟨us, []⟩ = pure ((["number_here", "k"] : List Str).zip us) := fun _ _ _ _ _ _ us hl => match us, hl with | [_, _], _ => rfl
theorem b_law_sum : ∀ (kV doc pm : Value) (an : Option Addr) (cdv ct : Value) (us : List Value), us.length = 2 → bindArgs (PySem.W.fnOf "_law_sum" "_law_sum" (defArgs (top 44)) (defBody (top 44)) (defScope (top 44)) .none kV doc pm an cdv ct) ⟨us, []⟩ = pure ((["heap", "k"] : List Str).zip us) := fun _ _ _ _ _ _ us hl => match us, hl with | [_, _], _ => rfl
theorem b_law_roots : ∀ (kV doc pm : Value) (an : Option Addr) (cdv ct : Value) (us : List Value), us.length = 1 → bindArgs (PySem.W.fnOf "_law_roots" "_law_roots" (defArgs (top 48)) (defBody (top 48)) (defScope (top 48)) .none kV doc pm an cdv ct) ⟨us, []⟩ = pure ((["heap"] : List Str).zip us) := fun _ _ _ _ _ _ us hl => match us, hl with | [_], _ => rfl
theorem b_law_newton : ∀ (kV doc pm : Value) (an : Option Addr) (cdv ct : Value) (us : List Value), us.length = 2 → bindArgs (PySem.W.fnOf "_law_newton" "_law_newton" (defArgs (top 49)) (defBody (top 49)) (defScope (top 49)) .none kV doc pm an cdv ct) ⟨us, []⟩ = pure ((["terms", "most"] : List Str).zip us) := fun _ _ _ _ _ _ us hl => match us, hl with | [_, _], _ => rfl
theorem b_law_is_heap_right : ∀ (kV doc pm : Value) (an : Option Addr) (cdv ct : Value) (us : List Value), us.length = 2 → bindArgs (PySem.W.fnOf "_law_is_heap_right" "_law_is_heap_right" (defArgs (top 50)) (defBody (top 50)) (defScope (top 50)) .none kV doc pm an cdv ct) ⟨us, []⟩ = pure ((["hand", "heap"] : List Str).zip us) := fun _ _ _ _ _ _ us hl => match us, hl with | [_, _], _ => rfl
theorem b_first_unlike : ∀ (kV doc pm : Value) (an : Option Addr) (cdv ct : Value) (us : List Value), us.length = 2 → bindArgs (PySem.W.fnOf "first_unlike" "first_unlike" (defArgs (top 27)) (defBody (top 27)) (defScope (top 27)) .none kV doc pm an cdv ct) ⟨us, []⟩ = pure ((["one", "other"] : List Str).zip us) := fun _ _ _ _ _ _ us hl => match us, hl with | [_, _], _ => rfl
theorem b_like_far : ∀ (kV doc pm : Value) (an : Option Addr) (cdv ct : Value) (us : List Value), us.length = 2 → bindArgs (PySem.W.fnOf "like_far" "like_far" (defArgs (top 28)) (defBody (top 28)) (defScope (top 28)) .none kV doc pm an cdv ct) ⟨us, []⟩ = pure ((["one", "other"] : List Str).zip us) := fun _ _ _ _ _ _ us hl => match us, hl with | [_, _], _ => rfl
theorem b_law_is_pair_right : ∀ (kV doc pm : Value) (an : Option Addr) (cdv ct : Value) (us : List Value), us.length = 2 → bindArgs (PySem.W.fnOf "_law_is_pair_right" "_law_is_pair_right" (defArgs (top 51)) (defBody (top 51)) (defScope (top 51)) .none kV doc pm an cdv ct) ⟨us, []⟩ = pure ((["one", "other"] : List Str).zip us) := fun _ _ _ _ _ _ us hl => match us, hl with | [_, _], _ => rfl
theorem b_law : ∀ (kV doc pm : Value) (an : Option Addr) (cdv ct : Value) (s : Shared) (u : Value), BindsTo s (PySem.W.fnOf "law" "law" (defArgs (top 52)) (defBody (top 52)) (defScope (top 52)) .none kV doc pm an cdv ct) ⟨[u], []⟩ [("script", u)] := fun _ _ _ _ _ _ _ _ => .of_eq rfl
theorem fn_law (T : Txt K mg) {f : Addr} {fd : FuncData} (F : Fun K "law" "law" (top 52) f fd) : FnG P w K mg base 10 f fd ["script"] (spLaw K) := by
  have F_is_integer := d_is_integer (P := P) (w := w) (base := base) T  l_is_integer o_is_integer
  have F_is_within := d_is_within (P := P) (w := w) (base := base) T F_is_integer l_is_within o_is_within
  have F_are_items := d_are_items (P := P) (w := w) (base := base) T F_is_within l_are_items o_are_items
  have F_is_heap := d_is_heap (P := P) (w := w) (base := base) T F_are_items l_is_heap o_is_heap
  have F_check_heap := d_check_heap (P := P) (w := w) (base := base) T F_is_heap l_check_heap o_check_heap
  have F_raw_roots := d_raw_roots (P := P) (w := w) (base := base) T  l_raw_roots o_raw_roots
  have F_root_poly := d_root_poly (P := P) (w := w) (base := base) T F_check_heap F_raw_roots l_root_poly o_root_poly
  have F_check_both := d_check_both (P := P) (w := w) (base := base) T F_check_heap l_check_both o_check_both
  have F_check_two := d_check_two (P := P) (w := w) (base := base) T F_check_both l_check_two o_check_two
  have F_trimmed := d_trimmed (P := P) (w := w) (base := base) T  l_trimmed o_trimmed
  have F_raw_root_gap := d_raw_root_gap (P := P) (w := w) (base := base) T F_raw_roots F_trimmed l_raw_root_gap o_raw_root_gap
  have F_root_gap := d_root_gap (P := P) (w := w) (base := base) T F_check_two F_raw_root_gap l_root_gap o_root_gap
  have F_gap_degree := d_gap_degree (P := P) (w := w) (base := base) T F_check_two F_raw_root_gap l_gap_degree o_gap_degree
  have F_check_number := d_check_number (P := P) (w := w) (base := base) T F_is_within l_check_number o_check_number
  have F_is_poly := d_is_poly (P := P) (w := w) (base := base) T F_is_integer l_is_poly o_is_poly
  have F_newton_sums := d_newton_sums (P := P) (w := w) (base := base) T F_check_number F_is_poly l_newton_sums o_newton_sums
  have F__law_hand := d_law_hand (P := P) (w := w) (base := base) T  l_law_hand o_law_hand
  have F__law_same : DefAt P w K mg base 1 "_law_same" (S_law_same_ 0) := (never_at T.d_law_same).imp n_law_same
  have F__law_same : DefAt P w K mg base 2 "_law_same" (S_law_same_ 1) := d_law_same T (by decide)  F__law_same (l_law_same 1) (o_law_same 0)
  have F__law_same : DefAt P w K mg base 3 "_law_same" (S_law_same_ 2) := d_law_same T (by decide)  F__law_same (l_law_same 2) (o_law_same 1)
  have F__law_same : DefAt P w K mg base 4 "_law_same" (S_law_same_ 3) := d_law_same T (by decide)  F__law_same (l_law_same 3) (o_law_same 2)
  have F__law_draw := d_law_draw (P := P) (w := w) (base := base) T  o_law_draw
  have F__law_any := d_law_any (P := P) (w := w) (base := base) T F__law_draw l_law_any o_law_any
  have F__law_drawn := d_law_drawn (P := P) (w := w) (base := base) T F__law_draw F__law_any l_law_drawn o_law_drawn
  have F__law_less := d_law_less (P := P) (w := w) (base := base) T  l_law_less o_law_less
  have F__law_grown := d_law_grown (P := P) (w := w) (base := base) T F__law_less l_law_grown o_law_grown
  have F__law_pair := d_law_pair (P := P) (w := w) (base := base) T F__law_draw F__law_any F__law_drawn F__law_grown l_law_pair o_law_pair
  have F_raw_power := d_raw_power (P := P) (w := w) (base := base) T  l_raw_power o_raw_power
  have F_raw_sum := d_raw_sum (P := P) (w := w) (base := base) T F_raw_power l_raw_sum o_raw_sum
  have F_power_sums := d_power_sums (P := P) (w := w) (base := base) T F_check_heap F_check_number F_raw_sum l_power_sums o_power_sums
  have F_as_heap := d_as_heap (P := P) (w := w) (base := base) T F_are_items l_as_heap o_as_heap
  have F_joined := d_joined (P := P) (w := w) (base := base) T F_check_both F_as_heap l_joined o_joined
  have F__law_power := d_law_power (P := P) (w := w) (base := base) T  l_law_power o_law_power
  have F__law_sum := d_law_sum (P := P) (w := w) (base := base) T F__law_power l_law_sum o_law_sum
  have F__law_roots := d_law_roots (P := P) (w := w) (base := base) T  l_law_roots o_law_roots
  have F__law_newton := d_law_newton (P := P) (w := w) (base := base) T  l_law_newton o_law_newton
  have F__law_is_heap_right := d_law_is_heap_right (P := P) (w := w) (base := base) T F_root_poly F_newton_sums F__law_same F__law_draw F__law_any F__law_drawn F_power_sums F_joined F__law_sum F__law_roots F__law_newton l_law_is_heap_right o_law_is_heap_right
  have F_first_unlike := d_first_unlike (P := P) (w := w) (base := base) T F_raw_sum l_first_unlike o_first_unlike
  have F_like_far := d_like_far (P := P) (w := w) (base := base) T F_check_two F_first_unlike l_like_far o_like_far
  have F__law_is_pair_right := d_law_is_pair_right (P := P) (w := w) (base := base) T F_root_gap F_gap_degree F__law_same F__law_roots F_like_far l_law_is_pair_right o_law_is_pair_right
  exact d_law F T F_root_poly F_root_gap F_gap_degree F_newton_sums F__law_hand F__law_same F__law_drawn F__law_pair F__law_is_heap_right F__law_is_pair_right o0_law o_law
theorem kept_mk {h : Heap} {fa f : Addr} {oc : Value} {od an : Option Addr} {osl : Array (Option Value)} {kV doc pm cdv ct : Value} (X : K.In h) (G : h.Ns mainGlobals mg) (hfa : mg "law" = some (.ref fa))
    (a : PySem.W.nsIn K mainGlobals "law" = some (some (.ref f))) (l : K.lookup f = some ⟨oc, od, .func (PySem.W.fnOf "law" "law" (defArgs (top 52)) (defBody (top 52)) (defScope (top 52)) .none kV doc pm an cdv ct), osl⟩)
    (c : PySem.W.codeIn K cdv "law" = true) (kp : PySem.W.keepIn K (.ref f) = true) (T : Txt K mg) : LawKept P w K mg 10 fa := lawKept_mk X G hfa b_law a l c kp fun fd base F => fn_law T F
end
end Lk

open PySem PySem.W PyProof.Rows in
set_option maxRecDepth 100000 in
set_option maxHeartbeats 0 in
theorem PySem.Challenge.cw_powersalike_k08_whole_products_and_newto_holds : PySem.Challenge.rw_powersalike_k08_whole_products_and_newto.Holds := by
  w_on; o_law; k_head; (case hw => w_witness2)
  k_fill
  refine Lk.walk (k := 10) (l := PySem.Challenge.rw_powersalike_k08_whole_products_and_newto) rfl rfl ⟨rfl, by decide, by decide⟩ (fun w h Y => PySem.W.kIn_of Y) ?F
  case F =>
    intro w mg fa h KX G hmg
    refine' Lk.kept_mk KX G hmg ?a ?l ?c ?k { d_is_integer := Lk.hasDef_mk KX G Lk.b_is_integer ?a0 ?l0 ?c0 ?k0, d_is_within := Lk.hasDef_mk KX G Lk.b_is_within ?a1 ?l1 ?c1 ?k1, d_are_items := Lk.hasDef_mk KX G Lk.b_are_items ?a2 ?l2 ?c2 ?k2, d_is_heap := Lk.hasDef_mk KX G Lk.b_is_heap ?a3 ?l3 ?c3 ?k3, d_check_heap := Lk.hasDef_mk KX G Lk.b_check_heap ?a4 ?l4 ?c4 ?k4, d_raw_roots := Lk.hasDef_mk KX G Lk.b_raw_roots ?a5 ?l5 ?c5 ?k5, d_root_poly := Lk.hasDef_mk KX G Lk.b_root_poly ?a6 ?l6 ?c6 ?k6, d_check_both := Lk.hasDef_mk KX G Lk.b_check_both ?a7 ?l7 ?c7 ?k7, d_check_two := Lk.hasDef_mk KX G Lk.b_check_two ?a8 ?l8 ?c8 ?k8, d_trimmed := Lk.hasDef_mk KX G Lk.b_trimmed ?a9 ?l9 ?c9 ?k9, d_raw_root_gap := Lk.hasDef_mk KX G Lk.b_raw_root_gap ?a10 ?l10 ?c10 ?k10, d_root_gap := Lk.hasDef_mk KX G Lk.b_root_gap ?a11 ?l11 ?c11 ?k11, d_gap_degree := Lk.hasDef_mk KX G Lk.b_gap_degree ?a12 ?l12 ?c12 ?k12, d_check_number := Lk.hasDef_mk KX G Lk.b_check_number ?a13 ?l13 ?c13 ?k13, d_is_poly := Lk.hasDef_mk KX G Lk.b_is_poly ?a14 ?l14 ?c14 ?k14, d_newton_sums := Lk.hasDef_mk KX G Lk.b_newton_sums ?a15 ?l15 ?c15 ?k15, d_law_hand := Lk.hasDef_mk KX G Lk.b_law_hand ?a16 ?l16 ?c16 ?k16, d_law_same := Lk.hasDef_mk KX G Lk.b_law_same ?a17 ?l17 ?c17 ?k17, d_law_draw := Lk.hasDef_mk KX G Lk.b_law_draw ?a18 ?l18 ?c18 ?k18, d_law_any := Lk.hasDef_mk KX G Lk.b_law_any ?a19 ?l19 ?c19 ?k19, d_law_drawn := Lk.hasDef_mk KX G Lk.b_law_drawn ?a20 ?l20 ?c20 ?k20, d_law_less := Lk.hasDef_mk KX G Lk.b_law_less ?a21 ?l21 ?c21 ?k21, d_law_grown := Lk.hasDef_mk KX G Lk.b_law_grown ?a22 ?l22 ?c22 ?k22, d_law_pair := Lk.hasDef_mk KX G Lk.b_law_pair ?a23 ?l23 ?c23 ?k23, d_raw_power := Lk.hasDef_mk KX G Lk.b_raw_power ?a24 ?l24 ?c24 ?k24, d_raw_sum := Lk.hasDef_mk KX G Lk.b_raw_sum ?a25 ?l25 ?c25 ?k25, d_power_sums := Lk.hasDef_mk KX G Lk.b_power_sums ?a26 ?l26 ?c26 ?k26, d_as_heap := Lk.hasDef_mk KX G Lk.b_as_heap ?a27 ?l27 ?c27 ?k27, d_joined := Lk.hasDef_mk KX G Lk.b_joined ?a28 ?l28 ?c28 ?k28, d_law_power := Lk.hasDef_mk KX G Lk.b_law_power ?a29 ?l29 ?c29 ?k29, d_law_sum := Lk.hasDef_mk KX G Lk.b_law_sum ?a30 ?l30 ?c30 ?k30, d_law_roots := Lk.hasDef_mk KX G Lk.b_law_roots ?a31 ?l31 ?c31 ?k31, d_law_newton := Lk.hasDef_mk KX G Lk.b_law_newton ?a32 ?l32 ?c32 ?k32, d_law_is_heap_right := Lk.hasDef_mk KX G Lk.b_law_is_heap_right ?a33 ?l33 ?c33 ?k33, d_first_unlike := Lk.hasDef_mk KX G Lk.b_first_unlike ?a34 ?l34 ?c34 ?k34, d_like_far := Lk.hasDef_mk KX G Lk.b_like_far ?a35 ?l35 ?c35 ?k35, d_law_is_pair_right := Lk.hasDef_mk KX G Lk.b_law_is_pair_right ?a36 ?l36 ?c36 ?k36, n_abs := PySem.W.mg_none_of KX G ?n_abs, n_all := PySem.W.mg_none_of KX G ?n_all, n_bool := PySem.W.mg_none_of KX G ?n_bool, n_enumerate := PySem.W.mg_none_of KX G ?n_enumerate, n_int := PySem.W.mg_none_of KX G ?n_int, n_isinstance := PySem.W.mg_none_of KX G ?n_isinstance, n_len := PySem.W.mg_none_of KX G ?n_len, n_list := PySem.W.mg_none_of KX G ?n_list, n_min := PySem.W.mg_none_of KX G ?n_min, n_range := PySem.W.mg_none_of KX G ?n_range, n_sorted := PySem.W.mg_none_of KX G ?n_sorted, n_sum := PySem.W.mg_none_of KX G ?n_sum, n_tuple := PySem.W.mg_none_of KX G ?n_tuple, n_zip := PySem.W.mg_none_of KX G ?n_zip, g_MOST_HEAP := Lk.glob_mk KX G ?g_MOST_HEAP, g_MOST_ITEM := Lk.glob_mk KX G ?g_MOST_ITEM, g_MOST_POWER := Lk.glob_mk KX G ?g_MOST_POWER, g_MOST_TERM := Lk.glob_mk KX G ?g_MOST_TERM, g_MOST_TERMS := Lk.glob_mk KX G ?g_MOST_TERMS, e_NoHeap := Lk.hasExc_mk KX G ?ea_NoHeap ?ee_NoHeap ?ek_NoHeap ?es_NoHeap ?et_NoHeap, e_NoNumber := Lk.hasExc_mk KX G ?ea_NoNumber ?ee_NoNumber ?ek_NoNumber ?es_NoNumber ?et_NoNumber, e_NoNumbers := Lk.hasExc_mk KX G ?ea_NoNumbers ?ee_NoNumbers ?ek_NoNumbers ?es_NoNumbers ?et_NoNumbers, e_NoPoly := Lk.hasExc_mk KX G ?ea_NoPoly ?ee_NoPoly ?ek_NoPoly ?es_NoPoly ?et_NoPoly, e_Unlike := Lk.hasExc_mk KX G ?ea_Unlike ?ee_Unlike ?ek_Unlike ?es_Unlike ?et_Unlike }
    (case a => k_is)
    (case l => k_is)
    (case c => k_is)
    (case k => k_is)
    (case a0 => k_is)
    (case l0 => k_is)
    (case c0 => k_is)
    (case k0 => k_is)
    (case a1 => k_is)
    (case l1 => k_is)
    (case c1 => k_is)
    (case k1 => k_is)
    (case a2 => k_is)
    (case l2 => k_is)
    (case c2 => k_is)
    (case k2 => k_is)
    (case a3 => k_is)
    (case l3 => k_is)
    (case c3 => k_is)
    (case k3 => k_is)
    (case a4 => k_is)
    (case l4 => k_is)
    (case c4 => k_is)
    (case k4 => k_is)
    (case a5 => k_is)
    (case l5 => k_is)
    (case c5 => k_is)
    (case k5 => k_is)
    (case a6 => k_is)
    (case l6 => k_is)
    (case c6 => k_is)
    (case k6 => k_is)
    (case a7 => k_is)
    (case l7 => k_is)
    (case c7 => k_is)
    (case k7 => k_is)
    (case a8 => k_is)
    (case l8 => k_is)
    (case c8 => k_is)
    (case k8 => k_is)
    (case a9 => k_is)
    (case l9 => k_is)
    (case c9 => k_is)
    (case k9 => k_is)
    (case a10 => k_is)
    (case l10 => k_is)
    (case c10 => k_is)
    (case k10 => k_is)
    (case a11 => k_is)
    (case l11 => k_is)
    (case c11 => k_is)
    (case k11 => k_is)
    (case a12 => k_is)
    (case l12 => k_is)
    (case c12 => k_is)
    (case k12 => k_is)
    (case a13 => k_is)
    (case l13 => k_is)
    (case c13 => k_is)
    (case k13 => k_is)
    (case a14 => k_is)
    (case l14 => k_is)
    (case c14 => k_is)
    (case k14 => k_is)
    (case a15 => k_is)
    (case l15 => k_is)
    (case c15 => k_is)
    (case k15 => k_is)
    (case a16 => k_is)
    (case l16 => k_is)
    (case c16 => k_is)
    (case k16 => k_is)
    (case a17 => k_is)
    (case l17 => k_is)
    (case c17 => k_is)
    (case k17 => k_is)
    (case a18 => k_is)
    (case l18 => k_is)
    (case c18 => k_is)
    (case k18 => k_is)
    (case a19 => k_is)
    (case l19 => k_is)
    (case c19 => k_is)
    (case k19 => k_is)
    (case a20 => k_is)
    (case l20 => k_is)
    (case c20 => k_is)
    (case k20 => k_is)
    (case a21 => k_is)
    (case l21 => k_is)
    (case c21 => k_is)
    (case k21 => k_is)
    (case a22 => k_is)
    (case l22 => k_is)
    (case c22 => k_is)
    (case k22 => k_is)
    (case a23 => k_is)
    (case l23 => k_is)
    (case c23 => k_is)
    (case k23 => k_is)
    (case a24 => k_is)
    (case l24 => k_is)
    (case c24 => k_is)
    (case k24 => k_is)
    (case a25 => k_is)
    (case l25 => k_is)
    (case c25 => k_is)
    (case k25 => k_is)
    (case a26 => k_is)
    (case l26 => k_is)
    (case c26 => k_is)
    (case k26 => k_is)
    (case a27 => k_is)
    (case l27 => k_is)
    (case c27 => k_is)
    (case k27 => k_is)
    (case a28 => k_is)
    (case l28 => k_is)
    (case c28 => k_is)
    (case k28 => k_is)
    (case a29 => k_is)
    (case l29 => k_is)
    (case c29 => k_is)
    (case k29 => k_is)
    (case a30 => k_is)
    (case l30 => k_is)
    (case c30 => k_is)
    (case k30 => k_is)
    (case a31 => k_is)
    (case l31 => k_is)
    (case c31 => k_is)
    (case k31 => k_is)
    (case a32 => k_is)
    (case l32 => k_is)
    (case c32 => k_is)
    (case k32 => k_is)
    (case a33 => k_is)
    (case l33 => k_is)
    (case c33 => k_is)
    (case k33 => k_is)
    (case a34 => k_is)
    (case l34 => k_is)
    (case c34 => k_is)
    (case k34 => k_is)
    (case a35 => k_is)
    (case l35 => k_is)
    (case c35 => k_is)
    (case k35 => k_is)
    (case a36 => k_is)
    (case l36 => k_is)
    (case c36 => k_is)
    (case k36 => k_is)
    (case n_abs => k_is)
    (case n_all => k_is)
    (case n_bool => k_is)
    (case n_enumerate => k_is)
    (case n_int => k_is)
    (case n_isinstance => k_is)
    (case n_len => k_is)
    (case n_list => k_is)
    (case n_min => k_is)
    (case n_range => k_is)
    (case n_sorted => k_is)
    (case n_sum => k_is)
    (case n_tuple => k_is)
    (case n_zip => k_is)
    (case g_MOST_HEAP => k_is)
    (case g_MOST_ITEM => k_is)
    (case g_MOST_POWER => k_is)
    (case g_MOST_TERM => k_is)
    (case g_MOST_TERMS => k_is)
    (case ea_NoHeap => k_is)
    (case ee_NoHeap => k_exc)
    (case ek_NoHeap => k_is)
    (case es_NoHeap => k_is)
    (case et_NoHeap => k_is)
    (case ea_NoNumber => k_is)
    (case ee_NoNumber => k_exc)
    (case ek_NoNumber => k_is)
    (case es_NoNumber => k_is)
    (case et_NoNumber => k_is)
    (case ea_NoNumbers => k_is)
    (case ee_NoNumbers => k_exc)
    (case ek_NoNumbers => k_is)
    (case es_NoNumbers => k_is)
    (case et_NoNumbers => k_is)
    (case ea_NoPoly => k_is)
    (case ee_NoPoly => k_exc)
    (case ek_NoPoly => k_is)
    (case es_NoPoly => k_is)
    (case et_NoPoly => k_is)
    (case ea_Unlike => k_is)
    (case ee_Unlike => k_exc)
    (case ek_Unlike => k_is)
    (case es_Unlike => k_is)
    (case et_Unlike => k_is)
