import PyProof.Rows.All
import Wide.All
import OpenK.AllK
import Wide.FinOn
import HandS.ForMost
import HandS.ForExc
import HandS.More
import HandS.Defaults
import HandS.HeadEnd
import HandS.Wide
import HandS.IsInst
import HandS.Flow
import HandS.Small
import HandS.OwnEq
import HandS.ClsMeth
import HandS.Head0
import HandS.Head1
import HandS.Head2
import HandS.HeadHook1
import HandS.HeadHook2
import HandS.HeadHook3
import HandS.FStr
import HandS.Codes
import HandS.Style
import PySem.Challenge.RW_betweenfaces_k04_numbers_in_order
set_option Elab.async false
set_option linter.all false
set_option maxRecDepth 100000
set_option maxHeartbeats 2000000
/-! Promises of defs that run where nothing is being shown (repr's guards are empty). -/
namespace BF
open PySem PySem.Spec PyProof.Rows L2

theorem gd_deeper (A : Around) (env : Env) : (A.deeper env).guards = A.guards := rfl
theorem gd_make (A : Around) (C : Addr) (us : List Value) (kw : List (Str × Value)) : (A.under (.builtin "type.__call__" ⟨.ref C :: us, kw⟩)).guards = A.guards := by
  rfl

/-- a def's promise, kept where the guards are empty -/
structure FnG (P : Program) (w : World) (K : PySem.W.Frag) (mg : Str → Option Value) (base : Heap) (CX : CXT) (k : Nat) (f : Addr) (fd : FuncData) (ps : List Str) (sp : Sp) : Prop where
  len : ∀ vs H Q E, sp vs H Q E → vs.length = ps.length
  go : ∀ (A : Around) (outer : List Env) (s : Shared) (H : Hp) (args : Args) (us : List Value) (vs : List V) (Q : VK) (E : XK), Room k A → A.guards = some [] → Env0 P w K mg base A outer s H → BindsTo s fd args (ps.zip us) → Vals vs us → sp vs H Q E →
    codeAny (model P w) A (.call (.ref f) args) (CR CX outer P w H s Q E) s

section
variable {P : Program} {w : World} {K : PySem.W.Frag} {mg : Str → Option Value} {base : Heap} {CX : CXT} {k : Nat} {f : Addr} {fd : FuncData} {ps : List Str} {sp : Sp}
theorem FnG.of (F : FnOk P w K mg base CX k f fd ps sp) : FnG P w K mg base CX k f fd ps sp :=
  ⟨F.len, fun A o s H ar us vs Q E r _ e b v h => F.run A o s H ar us vs Q E r e b v h⟩
theorem FnG.up {j : Nat} (F : FnG P w K mg base CX j f fd ps sp) (h : j ≤ k) : FnG P w K mg base CX k f fd ps sp :=
  ⟨F.len, fun A o s H ar us vs Q E r g e b v q => F.go A o s H ar us vs Q E (r.mono h) g e b v q⟩

/-- a def by its body, the guards being empty -/
theorem FunD.okG {x qual : Str} {params : Arguments} {body : List Stmt} {scope : Scope} {dvs : List V} {kws : List (Str × V)} {N : List Str}
    (F : FunD K x qual params body scope dvs kws f fd) (S : FnScope N ps scope) (len : ∀ vs H Q E, sp vs H Q E → vs.length = ps.length)
    (hb : ∀ (cdv : Value) (A : Around) (outer : List Env) (s : Shared) (H : Hp) (vs : List V) (Q : VK) (E : XK),
      Room k (A.deeper (envOfC qual scope s.heap.objs.size f cdv)) → (A.deeper (envOfC qual scope s.heap.objs.size f cdv)).guards = some [] → sp vs H Q E →
      ∃ t, PSs (cxOf CX P w K mg base N qual scope f cdv A outer s H E) body t ∧ t { nx := fun _ H' => Q .non H', rt := Q } (start N vs) H) :
    FnG P w K mg base CX (k + 1) f fd ps sp := by
  obtain ⟨⟨oc, od, dV, kV, doc, pm, an, cdv, ct, osl, rfl, lk, hcd, -, -⟩, -⟩ := F
  refine ⟨len, fun A outer s H args us vs Q E hr hg e0 bnd r hsp => ?_⟩
  have hl := len _ _ _ _ hsp
  have keep : ∀ b o, base.get? b = some o → s.heap.get? b = some o := fun b o e => (e0.bs b o e).1
  have KI : K.In s.heap := e0.mod.kin.keeps keep
  refine codeAny_call_function hr.depth (KI _ _ lk) rfl S.co S.gen rfl (PySem.W.codeRec_of KI hcd) (bnd _ _ _ _ ?_)
  refine wpAny_newFunctionEnv_cells S.kind (fun ⟨n, v⟩ hy => ?_) fun env he s1 x1 => ?_
  · cases S.par n (List.of_mem_zip hy).1 with
    | inl q => exact Or.inl q
    | inr q => exact Or.inr ⟨q, PySem.W.cellsFrom_some _ _ _ (Or.inl q)⟩
  · subst he
    refine ⟨(e0.mod.nolimit.keeps keep).keeps x1.toInCall.keep, codeAny_func ?_⟩
    obtain ⟨t, ht, hq⟩ := hb cdv A outer s H vs Q E (hr.deeper _) hg hsp
    have I := inv_start (CX := CX) (E := E) S hr.hd e0 hl r x1
    refine wpAny_mono (ht.run [] s1 (start N vs) H _ I hq) (fun fl s' hs => ?_) fun e s' hs => hs
    cases fl with
    | ret u =>
      obtain ⟨v, _, H', J, rv, q⟩ := hs
      exact ⟨v, H', J.os, J.bare, J.base, J.hok, rv, q⟩
    | next =>
      obtain ⟨_, H', J, q⟩ := hs
      exact ⟨V.non, H', J.os, J.bare, J.base, J.hok, rfl, q⟩
    | brk => exact hs.elim fun _ z => z.elim fun _ z => False.elim z.2
    | cont => exact hs.elim fun _ z => z.elim fun _ z => False.elim z.2
end

section
variable {X : Cx} {CX : CXT} {k : Nat} {f C : Addr} {fd : FuncData} {ps : List Str} {sp : Sp} {dvs : List V} {ds : List Value} {E : XK} {x m : Str} {p pos apos : Pos} {e o : Expr} {es : List Expr} {ta : TE} {t : TA}
theorem run_fnG {pins : List (Addr × Obj)} {σ : L2.St} {H : Hp} {s : Shared} {Q : VK} {us : List Value} {vs : List V} (F : FnG X.prog X.w X.K X.mg X.base CX k f fd ps sp)
    (hr : Room k X.A) (hG : X.A.guards = some []) (hb : Binds X.K fd ps ds) (hd : Vals dvs ds) (hx : Passes CX X E)
    (I : Inv X pins σ H s) (r : Vals vs us) (h : sp (vs ++ dvs) H Q E) : wpAny (model X.prog X.w) X.A (call (.ref f) us) (EP X pins σ Q) X.xe s := by
  have r2 : Vals (vs ++ dvs) (us ++ ds) := r.append hd
  have hl : (us ++ ds).length = ps.length := r2.length.symm.trans (F.len _ _ _ _ h)
  refine wpAny_call (codeAny_mono (F.go X.A X.stack s H ⟨us, []⟩ (us ++ ds) (vs ++ dvs) Q E hr hG I.env0 (hb s us I.kIn hl) r2 h) fun r s' hq => ?_)
  cases r with
  | error e => exact hx pins σ H s e s' I hq
  | ok fl => cases fl with
    | ret u => exact I.after hq
    | next => exact hq.elim
    | brk => exact hq.elim
    | cont => exact hq.elim
/-- f(e, ..) of a def that wants empty guards -/
theorem pe_callG (F : FnG X.prog X.w X.K X.mg X.base CX k f fd ps sp) (hr : Room k X.A) (hG : X.A.guards = some []) (hg : Gl X x) (hm : X.mg x = some (.ref f)) (hk : PySem.W.keepIn X.K (.ref f) = true)
    (hb : Binds X.K fd ps ds) (hd : Vals dvs ds) (hx : Passes CX X E) (ha : PA X (e :: es) t) (hdb : (x == ("__debug__" : Str)) = false := by decide)
    (he : starEach (e :: es) X.env = (false, eval e X.env) :: starEach es X.env := by rfl) (hpl : (backTo pos (starEach es X.env)).any (·.1) = false := by rfl) :
    PE X (.Call (.Name x p) (e :: es) [] pos) (tCall sp dvs E t) := by
  refine ⟨fun pins s σ H Q I h => wpAny_Call_Name_kw (ld_glob I hg hm ?_ hdb)⟩
  exact PySem.W.callWith_K (h₀ := X.base) I.ok.mod.kin hk (thn (ha.run pos pins s σ H _ I h) fun us s1 ⟨vs, H1, I1, r, q⟩ => ⟨I1.kIn, run_fnG F hr hG hb hd hx I1 r q⟩) he hpl
end

/-! ### the law's own end -/
theorem law_callG {P : Program} {w : World} {K : PySem.W.Frag} {mg mb : Str → Option Value} {CX : CXT} {k : Nat} {fa a : Addr} {fd : FuncData} {x : Str} {sp : Sp} {s1 : Shared} {vs : List Value} {ns : List Int}
    (KX : K.In s1.heap) (hns : s1.heap.Ns mainGlobals mg) (hb : s1.heap.Ns builtinsNs mb) (hbb : ∀ x : Str, x ≠ "__name__" → mb x = bootBuiltins x) (hlim : s1.heap.NoLimit) (hg : s1.gens = #[])
    (ha : s1.heap.get? a = some { cls := .type "list", data := .seq vs.toArray }) (hi : IntsAre vs ns) (hl : ns.length ≤ sizeLine) (hr : Room k callerA)
    (F : ∀ base : Heap, K.In base → base.Ns mainGlobals mg → FnG P w K mg base CX k fa fd [x] sp) (hbind : ∀ (s : Shared) (u : Value), BindsTo s fd ⟨[u], []⟩ [(x, u)])
    (hsp : ∀ H : Hp, Only H → SqL K H a (ns.map V.int) → sp [.ref a] H (fun v _ => v = .bl true) fun _ _ _ => False)
    (hCX : ∀ H e s', CX [] H s1 (fun _ _ _ => False) e s' → False) :
    codeAny (model P w) callerA (.call (.ref fa) ⟨[.ref a], []⟩) (fun r s' => r = .ok (.ret (.bool true)) ∧ OldK s1.heap s'.heap ∧ s'.os = s1.os ∧ AllBare s'.gens) s1 := by
  have rv := vals_ints hi
  have core : ∀ H : Hp, Only H → SqL K H a (ns.map V.int) → HOk P w H s1.heap → (∀ b, H b ≠ none → b = a) → (H a ≠ none → K.lookup a = none) →
      codeAny (model P w) callerA (.call (.ref fa) ⟨[.ref a], []⟩) (fun r s' => r = .ok (.ret (.bool true)) ∧ OldK s1.heap s'.heap ∧ s'.os = s1.os ∧ AllBare s'.gens) s1 := by
    intro H hO hS hok hA hK
    have only : ∀ {b : Addr}, b ≠ a → H b = none := fun {b} nb => Classical.byContradiction fun z => nb (hA b z)
    have ns2 : ∀ {b : Addr} {m : Str → Option Value}, s1.heap.Ns b m → (hidT s1.heap H).Ns b m := by
      rintro b m ⟨o, es, ep, e, d, r⟩
      refine ⟨o, es, ep, hidT_get e (only fun q => ?_), d, r⟩
      subst q
      rw [ha] at e
      cases e
      cases d
    have K2 : K.In (hidT s1.heap H) := fun b o e => hidT_get (KX b o e) (Classical.byContradiction fun z => by
      have q := hA b z
      subst q
      rw [hK z] at e
      cases e)
    obtain ⟨mc, l1, l2⟩ := hlim
    have e0 : Env0 P w K mg (hidT s1.heap H) callerA [] s1 H :=
      ⟨rfl, ⟨K2, ns2 hns, ⟨mb, ns2 hb, hbb⟩, ⟨mc, ns2 l1, l2⟩⟩, fun _ _ e => of_hidT e, Nat.le_of_eq (hidT_size _ _), trivial, (fun b z => nomatch (show b ∈ ([] : List Addr) from z)), hok, .of_eq hg⟩
    refine codeAny_mono ((F _ K2 (ns2 hns)).go callerA [] s1 H ⟨[.ref a], []⟩ [.ref a] [.ref a] _ _ hr rfl e0 (hbind s1 (.ref a)) (.cons rfl .nil) (hsp H hO hS)) fun r s' h => ?_
    cases r with
    | error e => exact (hCX H e s' h).elim
    | ok fl => cases fl with
     | next => exact h.elim
     | brk => exact h.elim
     | cont => exact h.elim
     | ret u =>
      obtain ⟨v, H', os, bare, un, hok', r', q⟩ := h
      obtain rfl : v = .bl true := q
      obtain rfl : u = Value.bool true := r'
      refine ⟨rfl, OldK.of_keep fun b o e => ?_, os, bare⟩
      cases q : H b with
      | none => exact un.keep b o e q (fun z => nomatch (show b ∈ ([] : List Addr) from z)) (fun z => nomatch (show b ∈ ([] : List Addr) from z))
      | some u =>
        obtain z | ⟨ob, xs, z⟩ := hO b
        · rw [q] at z
          cases z
        · have e1 := (hok b _ z).1
          rw [e] at e1
          cases e1
          exact (hok' b _ (un.frzs b _ _ z)).1
  cases hk : K.lookup a with
  | some o =>
    have e := KX a o hk
    rw [ha] at e
    cases e
    exact core (fun _ => none) (fun _ => .inl rfl) (.inr ⟨_, vs.toArray, _, hk, rfl, rfl, rfl, by rw [List.size_toArray, hi.length]; exact hl, by simpa using rv⟩)
      (fun b u z => nomatch (show (none : Option HO) = some u from z)) (fun b z => absurd rfl z) fun z => absurd rfl z
  | none =>
    refine core (upd (fun _ => none) a (.frz { cls := .type "list", data := .seq vs.toArray } (.lst (ns.map V.int)))) (fun b => ?_) (.inl (.inr ⟨_, upd_same⟩)) (fun b u z => ?_) (fun b z => ?_) fun _ => hk
    · by_cases q : b = a
      · exact .inr ⟨_, _, by rw [q, upd_same]⟩
      · exact .inl (upd_ne q)
    · by_cases q : b = a
      · subst q
        rw [upd_same] at z
        cases z
        exact ⟨ha, by rw [List.length_map]; exact hl, vs, _, rv, ha⟩
      · rw [upd_ne q] at z
        cases z
    · exact Classical.byContradiction fun q => z (upd_ne q)

theorem walk_G {l : PySem.W.OpenLaw} {n k : Nat} {q : Program} {loose : List Str} {XP : (Str → Option Value) → Heap → Prop} {YP : World → Heap → Prop} {d : DefRec} {x : Str} {CX : World → CXT}
    (hn : l.most = some n) (hn2 : n ≤ sizeLine) (hdf : d.params.defaults = []) (hr : Room k callerA)
    (F : ∀ (w : World) (mg : Str → Option Value) (fa : Addr) (h : Heap), YP w h → h.Ns mainGlobals mg → mg d.name = some (.ref fa) →
      ∃ (K : PySem.W.Frag) (fd : FuncData) (sp : Sp), K.In h ∧ (∀ (s : Shared) (u : Value), BindsTo s fd ⟨[u], []⟩ [(x, u)]) ∧
        (∀ (H : Hp) (a : Addr) (ns : List Int), ns.length ≤ n → Only H → SqL K H a (ns.map V.int) → sp [.ref a] H (fun v _ => v = .bl true) fun _ _ _ => False) ∧
        ∀ base : Heap, K.In base → base.Ns mainGlobals mg → FnG l.prog w K mg base (CX w) k fa fd [x] sp)
    (hCX : ∀ (w : World) (H : Hp) (s : Shared) (e : Value) (s' : Shared), CX w [] H s (fun _ _ _ => False) e s' → False) :
    PySem.W.WalkO q loose XP YP l.row.toRowW d [] (fun f vs => PySem.call f vs) := by
  refine Att.attach_call hn hdf fun w s0 s1 mg mb fa o pm cd doc a vs ns G Y ho hd hcd hmg hobj hints hlen hg => ?_
  obtain ⟨K, fd, sp, KX, hb, hs, hF⟩ := F w mg fa _ Y G.T.g hmg
  exact law_callG KX G.T.g G.T.b G.T.builtins G.T.nolimit hg hobj hints (Nat.le_trans hlen hn2) hr hF hb (fun H hO hS => hs H a ns hlen hO hS) fun H e s' => hCX w H s1 e s'
end BF
set_option maxHeartbeats 2000000
namespace BF
open PySem PySem.Spec PyProof.Rows L2

/-! ### heaps -/
theorem same_upd {H : Hp} {p : Addr} {o : HO} (h : H p = none) : Same H (upd H p o) := fun a u q => by
  rw [upd_ne (ne_of_none q h)]
  exact q
/-- the end of a display: the new object at any place -/
theorem new_obj {H : Hp} {o : HO} {Q : VK} (k : ∀ H' p, Same H H' → H p = none → H' p = some o → Q (.ref p) H') : ∀ p, H p = none → Q (.ref p) (upd H p o) :=
  fun p hp => k _ p (same_upd hp) hp upd_same

/-! ### fractions -/
theorem tb_ne : ¬ (("top" : Str) = "bottom") := by decide +kernel
theorem bt_ne : ¬ (("bottom" : Str) = "top") := by decide +kernel
/-- the fields of a fraction -/
def rf (t b : Int) : List (Str × V) := [("top", .int t), ("bottom", .int b)]
theorem rf_put (t b : Int) : putF "bottom" (.int b) (putF "top" (.int t) []) = rf t b := by
  show (if ("top" : Str) = "bottom" then _ else (("top" : Str), V.int t) :: putF "bottom" (.int b) []) = _
  rw [if_neg tb_ne] <;> rfl
theorem rf_top (t b : Int) : (rf t b).lookup ("top" : Str) = some (.int t) := rfl
theorem rf_bottom (t b : Int) : (rf t b).lookup ("bottom" : Str) = some (.int b) := by
  unfold rf
  rw [List.lookup_cons, beq_eq_false_iff_ne.mpr bt_ne] <;> rfl
theorem rf_none (t b : Int) {m : Str} (h1 : ¬ m = "top") (h2 : ¬ m = "bottom") : (rf t b).lookup m = none := by
  unfold rf
  rw [List.lookup_cons, beq_eq_false_iff_ne.mpr h1]
  show List.lookup m [(("bottom" : Str), V.int b)] = none
  rw [List.lookup_cons, beq_eq_false_iff_ne.mpr h2] <;> rfl
/-- an object is the fraction q -/
def RatO (C : Addr) (H : Hp) (p : Addr) (q : Rat) : Prop := ∃ dx, H p = some (.ins C dx (rf q.num q.den))
def RatV (C : Addr) (H : Hp) (v : V) (q : Rat) : Prop := ∃ p, v = .ref p ∧ RatO C H p q
theorem RatV.up {C : Addr} {H H' : Hp} {v : V} {q : Rat} (h : RatV C H v q) (s : Same H H') : RatV C H' v q := by
  obtain ⟨p, e, dx, z⟩ := h
  exact ⟨p, e, dx, s _ _ z⟩
/-- bounds in bits -/
def Bd (n : Nat) (q : Rat) : Prop := q.num.natAbs < 2 ^ n ∧ q.den < 2 ^ n
theorem pow_mono {a b : Nat} (h : a ≤ b) : (2 : Nat) ^ a ≤ 2 ^ b := Nat.pow_le_pow_right (by decide) h
theorem Bd.mono {n m : Nat} {q : Rat} (h : Bd n q) (l : n ≤ m) : Bd m q := ⟨Nat.lt_of_lt_of_le h.1 (pow_mono l), Nat.lt_of_lt_of_le h.2 (pow_mono l)⟩

theorem num_nrm (t b : Int) (hb : b ≠ 0) : (Rat.divInt t b).num = (if b < 0 then -t else t) / ((t.natAbs.gcd b.natAbs : Nat) : Int) := by
  rw [Rat.num_divInt]
  have e : (b.gcd t) = t.natAbs.gcd b.natAbs := by rw [Int.gcd, Nat.gcd_comm]
  rw [e]
  congr 1
  by_cases h : b < 0
  · rw [if_pos h, Int.sign_eq_neg_one_of_neg h]; omega
  · rw [if_neg h, Int.sign_eq_one_of_pos (by omega)]; omega
theorem den_nrm (t b : Int) (hb : b ≠ 0) : ((Rat.divInt t b).den : Int) = (b.natAbs : Int) / ((t.natAbs.gcd b.natAbs : Nat) : Int) := by
  rw [Rat.den_divInt, if_neg hb]
  have e : (b.gcd t) = t.natAbs.gcd b.natAbs := by rw [Int.gcd, Nat.gcd_comm]
  rw [e]
  omega
theorem bd_divInt {n : Nat} {t b : Int} (hb : b ≠ 0) (h1 : t.natAbs < 2 ^ n) (h2 : b.natAbs < 2 ^ n) : Bd n (Rat.divInt t b) := by
  have a := num_nrm t b hb
  have c := den_nrm t b hb
  constructor
  · rw [a]
    have : ((if b < 0 then -t else t) / ((t.natAbs.gcd b.natAbs : Nat) : Int)).natAbs ≤ t.natAbs := by
      refine Nat.le_trans (Int.natAbs_ediv_le_natAbs _ _) ?_
      split <;> omega
    omega
  · have : ((Rat.divInt t b).den : Int) ≤ (b.natAbs : Int) := by
      rw [c]
      exact Int.ediv_le_self _ (by omega)
    omega

/-! ### an own error made without arguments -/
section
variable {X : Cx} {C : Addr} {bmB : List Value} {B newId initId : String}
theorem pmk_own0 {x : Str} {p pos : Pos} (F : ExcBaseFacts B newId initId bmB) (q : PySem.W.excIn X.K C bmB newId = true) (gC : X.mg x = some (.ref C)) (kC : PySem.W.keepIn X.K (.ref C) = true) (r : Raises X (.ref C)) (hg : Gl X x)
    (hdb : (x == ("__debug__" : Str)) = false := by decide) : PMk X (.Call (.Name x p) [] [] pos) (fun _ H Q => Q (.ref C) none H) := by
  intro pins s σ H Q I h
  refine wpAny_Call_Name_kw (ld_glob I hg gC ?_ hdb)
  refine PySem.W.callWith_K0 I.kIn kC ?_
  obtain ⟨bm, N, nm, qn, bs, hdct, sn, sub, ab, col, dd, k0, k1, k2, k3, k5, mN, hC, hN, hni, T⟩ := exc_obj I.kIn q
  refine wpAny_call_exc_subT F T hC hN hni (fun h' e hm => ?_) (Nat.zero_le _)
  exact mk_of I hm r h (I.hok.gone hm.new)
end
end BF
set_option maxHeartbeats 2000000
namespace BF
open PySem PySem.Spec PyProof.Rows L2
/-! ### tests whose reading is monotone -/
def tMonoT (t : TT) : TT := fun σ H Q => ∃ Q0 : Bool → Hp → Prop, t σ H Q0 ∧ ∀ b H1, Q0 b H1 → Q b H1
theorem pt_mono {X : Cx} {e : Expr} {t : TT} (h : PT X e t) : PT X e (tMonoT t) :=
  ⟨fun pins s σ H Q I ⟨Q0, hq, m⟩ => thn (h.run pins s σ H Q0 I hq) fun b s' ⟨H', J, q⟩ => ⟨H', J, m b H' q⟩⟩
theorem monoT {t : TT} (σ : L2.St) (H : Hp) (Q Q' : Bool → Hp → Prop) (m : ∀ b H1, Q b H1 → Q' b H1) (h : tMonoT t σ H Q) : tMonoT t σ H Q' := by
  obtain ⟨Q0, a, b⟩ := h
  exact ⟨Q0, a, fun x H1 z => m _ _ (b x H1 z)⟩
/-! ### lists by pairs -/
section
variable {α β : Type} {F : α → β → Prop}
theorem Pd.get : ∀ {xs : List α} {ys : List β} {i : Nat} {x : α}, Paired F xs ys → xs[i]? = some x → ∃ y, ys[i]? = some y ∧ F x y
  | _, _, _, _, .nil, e => by simp at e
  | _, _, 0, _, .cons r _, e => by simp at e; subst e; exact ⟨_, rfl, r⟩
  | _, _, i + 1, x, .cons _ t, e => by
    obtain ⟨y, h1, h2⟩ := Pd.get (i := i) t (by simpa using e)
    exact ⟨y, by simpa using h1, h2⟩
theorem Pd.getR : ∀ {xs : List α} {ys : List β} {i : Nat} {y : β}, Paired F xs ys → ys[i]? = some y → ∃ x, xs[i]? = some x ∧ F x y
  | _, _, _, _, .nil, e => by simp at e
  | _, _, 0, _, .cons r _, e => by simp at e; subst e; exact ⟨_, rfl, r⟩
  | _, _, i + 1, y, .cons _ t, e => by
    obtain ⟨x, h1, h2⟩ := Pd.getR (i := i) t (by simpa using e)
    exact ⟨x, by simpa using h1, h2⟩
theorem Pd.append : ∀ {xs zs : List α} {ys ws : List β}, Paired F xs ys → Paired F zs ws → Paired F (xs ++ zs) (ys ++ ws)
  | _, _, _, _, .nil, s => s
  | _, _, _, _, .cons r t, s => .cons r (Pd.append t s)
theorem Pd.take : ∀ {xs : List α} {ys : List β} (n : Nat), Paired F xs ys → Paired F (xs.take n) (ys.take n)
  | _, _, 0, _ => .nil
  | _, _, _ + 1, .nil => .nil
  | _, _, n + 1, .cons r t => .cons r (Pd.take n t)
theorem Pd.drop : ∀ {xs : List α} {ys : List β} (n : Nat), Paired F xs ys → Paired F (xs.drop n) (ys.drop n)
  | _, _, 0, r => r
  | _, _, _ + 1, .nil => .nil
  | _, _, n + 1, .cons _ t => Pd.drop n t
theorem Pd.rev {xs : List α} {ys : List β} (h : Paired F xs ys) : Paired F xs.reverse ys.reverse := by
  induction h with
  | nil => exact .nil
  | cons r _ ih =>
    rw [List.reverse_cons, List.reverse_cons]
    exact Pd.append ih (.cons r .nil)
theorem Pd.imp {G : α → β → Prop} {xs : List α} {ys : List β} (h : Paired F xs ys) (m : ∀ a b, F a b → G a b) : Paired G xs ys := Paired.mapP h m
theorem Pd.len {xs : List α} {ys : List β} (h : Paired F xs ys) : xs.length = ys.length := Paired.length h
end
/-! ### insertion of fractions -/
def insR (q : Rat) : List Rat → List Rat
  | [] => [q]
  | r :: L => if r < q then r :: insR q L else if q < r then q :: r :: L else r :: L
def ascR (qs : List Rat) : List Rat := qs.foldl (fun L q => insR q L) []
theorem insR_pre (q : Rat) : ∀ {pre post : List Rat}, (∀ r ∈ pre, r < q) → insR q (pre ++ post) = pre ++ insR q post
  | [], _, _ => rfl
  | r :: pre, post, h => by
    show (if r < q then r :: insR q (pre ++ post) else _) = _
    rw [if_pos (h r List.mem_cons_self), insR_pre q fun x hx => h x (List.mem_cons_of_mem _ hx)]
    rfl
theorem insR_len (q : Rat) : ∀ L : List Rat, (insR q L).length ≤ L.length + 1
  | [] => Nat.le_refl _
  | r :: L => by
    unfold insR
    have := insR_len q L
    split
    · simp only [List.length_cons]; omega
    · split <;> simp only [List.length_cons] <;> omega
theorem insR_mem {q x : Rat} : ∀ {L : List Rat}, x ∈ insR q L → x = q ∨ x ∈ L
  | [], h => by
    simp only [insR, List.mem_singleton] at h
    exact .inl h
  | r :: L, h => by
    unfold insR at h
    split at h
    · rcases List.mem_cons.mp h with h | h
      · exact .inr (h ▸ List.mem_cons_self)
      · rcases insR_mem h with h | h
        · exact .inl h
        · exact .inr (List.mem_cons_of_mem _ h)
    · split at h
      · rcases List.mem_cons.mp h with h | h
        · exact .inl h
        · exact .inr h
      · exact .inr h
theorem ascR_snoc (qs : List Rat) (q : Rat) : ascR (qs ++ [q]) = insR q (ascR qs) := by
  unfold ascR
  rw [List.foldl_append]
  rfl
theorem ascR_len (qs : List Rat) : (ascR qs).length ≤ qs.length := by
  have h : ∀ (l acc : List Rat), (l.foldl (fun L q => insR q L) acc).length ≤ l.length + acc.length := by
    intro l
    induction l with
    | nil => intro acc; simp
    | cons a l ih =>
      intro acc
      have h1 := ih (insR a acc)
      have h2 := insR_len a acc
      simp only [List.foldl_cons, List.length_cons]
      omega
  have h0 := h qs []
  unfold ascR
  simpa using h0
theorem ascR_mem {qs : List Rat} {x : Rat} (h : x ∈ ascR qs) : x ∈ qs := by
  have g : ∀ (l acc : List Rat), x ∈ l.foldl (fun L q => insR q L) acc → x ∈ l ∨ x ∈ acc := by
    intro l
    induction l with
    | nil => intro acc h; exact .inr h
    | cons a l ih =>
      intro acc h
      rcases ih _ h with h | h
      · exact .inl (List.mem_cons_of_mem _ h)
      · rcases insR_mem h with h | h
        · exact .inl (h ▸ List.mem_cons_self)
        · exact .inr h
  rcases g qs [] h with h | h
  · exact h
  · cases h
/-- where an insertion loop stops -/
theorem insR_at {q : Rat} {L : List Rat} {k : Nat} (hk : k ≤ L.length) (pre : ∀ r ∈ L.take k, r < q) :
    (k = L.length → insR q L = L.take k ++ [q] ++ L.drop k) ∧ (∀ r, L[k]? = some r → ¬ r < q → (q < r → insR q L = L.take k ++ [q] ++ L.drop k) ∧ (¬ q < r → insR q L = L)) := by
  have e : insR q L = L.take k ++ insR q (L.drop k) := by
    conv => lhs; rw [← List.take_append_drop k L]
    exact insR_pre q pre
  refine ⟨fun z => ?_, fun r hr nlt => ?_⟩
  · rw [e, z, List.drop_length]
    simp [insR]
  · have hd : L.drop k = r :: L.drop (k + 1) := by
      obtain ⟨h1, h2⟩ := List.getElem?_eq_some_iff.mp hr
      rw [← h2]
      exact List.drop_eq_getElem_cons h1
    refine ⟨fun lt => ?_, fun nl => ?_⟩
    · rw [e, hd]
      simp only [insR, if_neg nlt, if_pos lt, List.append_assoc, List.singleton_append]
    · rw [e, hd]
      simp only [insR, if_neg nlt, if_neg nl]
      rw [← hd, List.take_append_drop]
end BF
set_option maxHeartbeats 2000000
/-! Sorted lists of fractions. -/
namespace BF
open Rat
abbrev Srt (L : List Rat) : Prop := L.Pairwise (· < ·)
theorem mem_insR {q x : Rat} : ∀ {L : List Rat}, x ∈ insR q L ↔ x = q ∨ x ∈ L
  | [] => by simp [insR]
  | r :: L => by
    unfold insR
    split
    · rw [List.mem_cons, mem_insR, List.mem_cons]
      constructor
      · rintro (h | h | h) <;> simp [h]
      · rintro (h | h | h) <;> simp [h]
    · split
      · simp
      · have e : r = q := by grind
        subst e
        simp
theorem srt_insR {q : Rat} : ∀ {L : List Rat}, Srt L → Srt (insR q L)
  | [], _ => by simp [insR, Srt]
  | r :: L, h => by
    obtain ⟨h1, h2⟩ := List.pairwise_cons.mp h
    unfold insR
    split
    · rename_i lt
      refine List.pairwise_cons.mpr ⟨fun x hx => ?_, srt_insR h2⟩
      rcases mem_insR.mp hx with rfl | hx
      · exact lt
      · exact h1 x hx
    · split
      · rename_i lt
        refine List.pairwise_cons.mpr ⟨fun x hx => ?_, h⟩
        rcases List.mem_cons.mp hx with rfl | hx
        · exact lt
        · have := h1 x hx
          grind
      · exact h
theorem insR_filter {q : Rat} : ∀ {L : List Rat}, Srt L → insR q L = L.filter (fun r => decide (r < q)) ++ [q] ++ L.filter (fun r => decide (q < r))
  | [], _ => rfl
  | r :: L, h => by
    obtain ⟨h1, h2⟩ := List.pairwise_cons.mp h
    unfold insR
    split
    · rename_i lt
      have n : ¬ q < r := by grind
      rw [insR_filter h2, List.filter_cons, List.filter_cons, if_pos (decide_eq_true lt), if_neg (by simpa using n)]
      rfl
    · rename_i nlt
      have all_ : ∀ x ∈ L, ¬ x < q := fun x hx => by have := h1 x hx; grind
      have e0 : L.filter (fun r => decide (r < q)) = [] := List.filter_eq_nil_iff.mpr fun x hx => by simpa using all_ x hx
      split
      · rename_i lt
        have e1 : L.filter (fun r => decide (q < r)) = L := List.filter_eq_self.mpr fun x hx => by have := h1 x hx; simp; grind
        rw [List.filter_cons, List.filter_cons, if_neg (by simpa using nlt), if_pos (decide_eq_true lt), e0, e1]
        rfl
      · rename_i n2
        have e : r = q := by grind
        have e1 : L.filter (fun r => decide (q < r)) = L := List.filter_eq_self.mpr fun x hx => by have := h1 x hx; simp; grind
        rw [List.filter_cons, List.filter_cons, if_neg (by simpa using nlt), if_neg (by simpa using n2), e0, e1, e]
        rfl
theorem srt_ascR (qs : List Rat) : Srt (ascR qs) := by
  have h : ∀ (l acc : List Rat), Srt acc → Srt (l.foldl (fun L q => insR q L) acc) := by
    intro l
    induction l with
    | nil => intro acc h; exact h
    | cons a l ih => intro acc h; exact ih _ (srt_insR h)
  exact h qs [] List.Pairwise.nil
theorem mem_ascR {qs : List Rat} {x : Rat} : x ∈ ascR qs ↔ x ∈ qs := by
  have h : ∀ (l acc : List Rat), x ∈ l.foldl (fun L q => insR q L) acc ↔ x ∈ l ∨ x ∈ acc := by
    intro l
    induction l with
    | nil => intro acc; simp
    | cons a l ih =>
      intro acc
      rw [List.foldl_cons, ih, mem_insR, List.mem_cons]
      constructor
      · rintro (h | h | h) <;> simp [h]
      · rintro ((h | h) | h) <;> simp [h]
  have := h qs []
  unfold ascR
  simpa using this
theorem srt_ext : ∀ {L M : List Rat}, Srt L → Srt M → (∀ x, x ∈ L ↔ x ∈ M) → L = M
  | [], [], _, _, _ => rfl
  | [], m :: M, _, _, h => by have := (h m).mpr List.mem_cons_self; cases this
  | l :: L, [], _, _, h => by have := (h l).mp List.mem_cons_self; cases this
  | l :: L, m :: M, hl, hm, h => by
    obtain ⟨l1, l2⟩ := List.pairwise_cons.mp hl
    obtain ⟨m1, m2⟩ := List.pairwise_cons.mp hm
    have e : l = m := by
      rcases List.mem_cons.mp ((h l).mp List.mem_cons_self) with a | a
      · exact a
      · rcases List.mem_cons.mp ((h m).mpr List.mem_cons_self) with b | b
        · exact b.symm
        · have := l1 m b
          have := m1 l a
          grind
    subst e
    rw [srt_ext l2 m2 fun x => ?_]
    have hx := h x
    rw [List.mem_cons, List.mem_cons] at hx
    constructor
    · intro a
      rcases hx.mp (.inr a) with e | e
      · have := l1 x a; grind
      · exact e
    · intro a
      rcases hx.mpr (.inr a) with e | e
      · have := m1 x a; grind
      · exact e
theorem ascR_rev (qs : List Rat) : ascR qs.reverse = ascR qs := srt_ext (srt_ascR _) (srt_ascR _) fun x => by rw [mem_ascR, mem_ascR, List.mem_reverse]
/-! least and greatest -/
def IsLeast (q : Rat) (qs : List Rat) : Prop := q ∈ qs ∧ ∀ r ∈ qs, q ≤ r
def IsGreat (q : Rat) (qs : List Rat) : Prop := q ∈ qs ∧ ∀ r ∈ qs, r ≤ q
theorem IsLeast.one {q r : Rat} {qs : List Rat} (a : IsLeast q qs) (b : IsLeast r qs) : q = r := by
  have := a.2 r b.1
  have := b.2 q a.1
  grind
theorem IsGreat.one {q r : Rat} {qs : List Rat} (a : IsGreat q qs) (b : IsGreat r qs) : q = r := by
  have := a.2 r b.1
  have := b.2 q a.1
  grind
theorem fold_least (q0 : Rat) (qs : List Rat) : (qs.foldl (fun m q => if q < m then q else m) q0 = q0 ∨ qs.foldl (fun m q => if q < m then q else m) q0 ∈ qs) ∧ qs.foldl (fun m q => if q < m then q else m) q0 ≤ q0 ∧
    ∀ r ∈ qs, qs.foldl (fun m q => if q < m then q else m) q0 ≤ r := by
  induction qs generalizing q0 with
  | nil => exact ⟨.inl rfl, Rat.le_refl, fun r h => by cases h⟩
  | cons a l ih =>
    rw [List.foldl_cons]
    obtain ⟨h1, h2, h3⟩ := ih (if a < q0 then a else q0)
    generalize l.foldl (fun m q => if q < m then q else m) (if a < q0 then a else q0) = z at h1 h2 h3
    refine ⟨?_, ?_, fun r hr => ?_⟩
    · rcases h1 with h1 | h1
      · rw [h1]
        split
        · exact .inr List.mem_cons_self
        · exact .inl rfl
      · exact .inr (List.mem_cons_of_mem _ h1)
    · split at h2 <;> grind
    · rcases List.mem_cons.mp hr with rfl | hr
      · split at h2 <;> grind
      · exact h3 r hr
theorem fold_great (q0 : Rat) (qs : List Rat) : (qs.foldl (fun m q => if m < q then q else m) q0 = q0 ∨ qs.foldl (fun m q => if m < q then q else m) q0 ∈ qs) ∧ q0 ≤ qs.foldl (fun m q => if m < q then q else m) q0 ∧
    ∀ r ∈ qs, r ≤ qs.foldl (fun m q => if m < q then q else m) q0 := by
  induction qs generalizing q0 with
  | nil => exact ⟨.inl rfl, Rat.le_refl, fun r h => by cases h⟩
  | cons a l ih =>
    rw [List.foldl_cons]
    obtain ⟨h1, h2, h3⟩ := ih (if q0 < a then a else q0)
    generalize l.foldl (fun m q => if m < q then q else m) (if q0 < a then a else q0) = z at h1 h2 h3
    refine ⟨?_, ?_, fun r hr => ?_⟩
    · rcases h1 with h1 | h1
      · rw [h1]
        split
        · exact .inr List.mem_cons_self
        · exact .inl rfl
      · exact .inr (List.mem_cons_of_mem _ h1)
    · split at h2 <;> grind
    · rcases List.mem_cons.mp hr with rfl | hr
      · split at h2 <;> grind
      · exact h3 r hr
theorem isLeast_fold {q0 : Rat} {qs : List Rat} (h : q0 ∈ qs) : IsLeast (qs.foldl (fun m q => if q < m then q else m) q0) qs := by
  obtain ⟨h1, _, h3⟩ := fold_least q0 qs
  refine ⟨?_, h3⟩
  rcases h1 with h1 | h1
  · rw [h1]; exact h
  · exact h1
theorem isGreat_fold {q0 : Rat} {qs : List Rat} (h : q0 ∈ qs) : IsGreat (qs.foldl (fun m q => if m < q then q else m) q0) qs := by
  obtain ⟨h1, _, h3⟩ := fold_great q0 qs
  refine ⟨?_, h3⟩
  rcases h1 with h1 | h1
  · rw [h1]; exact h
  · exact h1
theorem isLeast_head {q : Rat} {qs : List Rat} (h : (ascR qs)[0]? = some q) : IsLeast q qs := by
  have s := srt_ascR qs
  cases e : ascR qs with
  | nil => rw [e] at h; cases h
  | cons a l =>
    rw [e] at h s
    have : a = q := by simpa using h
    subst this
    obtain ⟨s1, _⟩ := List.pairwise_cons.mp s
    refine ⟨mem_ascR.mp (by rw [e]; exact List.mem_cons_self), fun r hr => ?_⟩
    have hr' := mem_ascR.mpr hr
    rw [e] at hr'
    rcases List.mem_cons.mp hr' with rfl | hr'
    · exact Rat.le_refl
    · have := s1 r hr'; grind
theorem isGreat_last {q : Rat} {qs : List Rat} {L : List Rat} (h : ascR qs = L ++ [q]) : IsGreat q qs := by
  have s := srt_ascR qs
  rw [h] at s
  obtain ⟨_, _, s3⟩ := List.pairwise_append.mp s
  refine ⟨mem_ascR.mp (by rw [h]; simp), fun r hr => ?_⟩
  have hr' := mem_ascR.mpr hr
  rw [h] at hr'
  rcases List.mem_append.mp hr' with hr' | hr'
  · have := s3 r hr' q (by simp); grind
  · simp at hr'
    rw [hr']
    exact Rat.le_refl
end BF
set_option maxHeartbeats 2000000
/-! The pen that draws, and lists of ints compared with the empty list. -/
namespace BF
open PySem PySem.Spec PyProof.Rows L2
theorem canLay_ints : ∀ ns : List Int, PyData.canLayAll0 (ns.map PyData.int) = true
  | [] => by simp [PyData.canLayAll0]
  | n :: ns => by
    simp only [List.map_cons, PyData.canLayAll0, canLay_ints ns, Bool.and_true]
    simp [PyData.canLay0]
theorem depth_ints : ∀ ns : List Int, PyData.depthAll (ns.map PyData.int) = 0
  | [] => by simp [PyData.depthAll]
  | n :: ns => by
    simp only [List.map_cons, PyData.depthAll, depth_ints ns]
    simp [PyData.depth]
theorem shaped_ints (ns : List Int) : SeqAt.shaped (.list (ns.map PyData.int)) = true := by
  unfold SeqAt.shaped
  simp [PyData.canLay0, PyData.depth, canLay_ints, depth_ints]
theorem dp_ints (K : PySem.W.Frag) (H : Hp) : ∀ ns : List Int, DpAll K H (ns.map V.int) (ns.map PyData.int)
  | [] => .nil
  | n :: ns => .cons (.int n) (dp_ints K H ns)
theorem eqv_ints_nil (ns : List Int) : PyData.eqv (.list (ns.map PyData.int)) (.list []) = ns.isEmpty := by
  cases ns with
  | nil => simp [PyData.eqv, PyData.eqvAll]
  | cons n ns => simp [PyData.eqv, PyData.eqvAll]
/-- all but the object at P stays -/
def Off (P : Addr) (H H' : Hp) : Prop := ∀ a o, a ≠ P → H a = some o → H' a = some o
theorem Off.refl (P : Addr) (H : Hp) : Off P H H := fun _ _ _ h => h
theorem Off.trans {P : Addr} {H H1 H2 : Hp} (a : Off P H H1) (b : Off P H1 H2) : Off P H H2 := fun c o n h => b c o n (a c o n h)
theorem Off.of {P : Addr} {H H' : Hp} (s : Same H H') : Off P H H' := fun a o _ h => s a o h
theorem Off.upd {P : Addr} {H : Hp} (o : HO) : Off P H (upd H P o) := fun a u n h => by
  rw [upd_ne n]
  exact h
/-- the pen at P: k bounds how often it has drawn -/
def Pen (H : Hp) (P c : Addr) (k : Nat) : Prop := ∃ (ns : List Int) (n : Nat) (left : Int),
  H P = some (.lst [.ref c, .int n, .int left]) ∧ H c = some (.lst (ns.map V.int)) ∧ ns.length ≤ 63 ∧ n ≤ k ∧ 0 ≤ left
theorem Pen.ne {H : Hp} {P c : Addr} {ns : List Int} {xs : List V} (h : H P = some (.lst (.ref c :: xs))) (h2 : H c = some (.lst (ns.map V.int))) : c ≠ P := fun e => by
  subst e
  rw [h] at h2
  cases ns with
  | nil => cases h2
  | cons a l => cases h2
theorem Pen.up {H H' : Hp} {P c : Addr} {k : Nat} (h : Pen H P c k) (s : Same H H') : Pen H' P c k := by
  obtain ⟨ns, n, l, a, b, d⟩ := h
  exact ⟨ns, n, l, s _ _ a, s _ _ b, d⟩
theorem Pen.put {H : Hp} {P c D : Addr} {k : Nat} {o : HO} (h : Pen H P c k) (n1 : D ≠ P) (n2 : D ≠ c) : Pen (L2.upd H D o) P c k := by
  obtain ⟨ns, n, l, a, b, d⟩ := h
  exact ⟨ns, n, l, (upd_ne n1.symm).trans a, (upd_ne n2.symm).trans b, d⟩
theorem Pen.freshC {H : Hp} {P c a : Addr} {k : Nat} (h : Pen H P c k) (e : H a = none) : a ≠ c := fun z => by
  obtain ⟨ns, n, lf, _, q, _⟩ := h
  rw [z, q] at e
  cases e
theorem Pen.mono {H : Hp} {P c : Addr} {k m : Nat} (h : Pen H P c k) (l : k ≤ m) : Pen H P c m := by
  obtain ⟨ns, n, lf, a, b, d, e, g⟩ := h
  exact ⟨ns, n, lf, a, b, d, Nat.le_trans e l, g⟩
theorem Pen.some_ {H : Hp} {P c : Addr} {k : Nat} (h : Pen H P c k) : ∃ xs, H P = some (.lst xs) := by
  obtain ⟨ns, n, lf, a, _⟩ := h
  exact ⟨_, a⟩
theorem Pen.apart {H : Hp} {P c a : Addr} {k : Nat} {C dx : Addr} {fs : List (Str × V)} (h : Pen H P c k) (e : H a = some (.ins C dx fs)) : a ≠ P := by
  obtain ⟨xs, q⟩ := h.some_
  exact ne_of e q (by intro z; cases z)
theorem Pen.apartT {H : Hp} {P c a : Addr} {k : Nat} {xs : List V} (h : Pen H P c k) (e : H a = some (.tup xs)) : a ≠ P := by
  obtain ⟨xs, q⟩ := h.some_
  exact ne_of e q (by intro z; cases z)
theorem Pen.fresh {H : Hp} {P c a : Addr} {k : Nat} (h : Pen H P c k) (e : H a = none) : a ≠ P := fun z => by
  obtain ⟨xs, q⟩ := h.some_
  rw [z, q] at e
  cases e
theorem RatV.off {H H' : Hp} {P c C : Addr} {k : Nat} {v : V} {q : Rat} (h : RatV C H v q) (p : Pen H P c k) (o : Off P H H') : RatV C H' v q := by
  obtain ⟨a, e, dx, z⟩ := h
  exact ⟨a, e, dx, o _ _ (p.apart z) z⟩
def spPen (K : PySem.W.Frag) : Sp := fun vs H Q _ => ∃ (a : Addr) (ns : List Int), vs = [.ref a] ∧ SqL K H a (ns.map V.int) ∧ ∀ H' P c, Same H H' → H P = none → Pen H' P c 0 → Q (.ref P) H'
/-- a draw: an integer from 0 to many - 1 -/
def spDraw : Sp := fun vs H Q _ => ∃ (P c : Addr) (k : Nat) (m : Int), vs = [.ref P, .int m] ∧ Pen H P c k ∧ k ≤ 1000000 ∧ 0 < m ∧ m < 1073741824 ∧
  ∀ (H' : Hp) (d : Nat), Off P H H' → Pen H' P c (k + 1) → (d : Int) < m → Q (.int d) H'
theorem mix1 {c a : Int} (k1 k2 : Int) (h : 0 ≤ a ∧ a ≤ 1000000) (hk : 0 ≤ k1 ∧ k1 ≤ 1000000 ∧ 0 ≤ k2 ∧ k2 ≤ 1000000) (m : Int) (hm : 0 < m ∧ m ≤ 2147483647) : (c % m + k1 * a + k2).natAbs < 2 ^ 64 := by
  have h1 := Int.emod_nonneg c (show m ≠ 0 by omega)
  have h2 := Int.emod_lt_of_pos c hm.1
  have h3 : k1 * a ≤ 1000000 * 1000000 := Int.mul_le_mul (by omega) (by omega) (by omega) (by omega)
  have h4 : 0 ≤ k1 * a := Int.mul_nonneg (by omega) (by omega)
  omega
theorem mix2 {x a : Int} (k1 k2 k3 : Int) (h : 0 ≤ a ∧ a ≤ 1000000) (hx : 0 ≤ x ∧ x ≤ 2147483647) (hk : 0 ≤ k1 ∧ k1 ≤ 1000000 ∧ 0 ≤ k2 ∧ k2 ≤ 1000000 ∧ 0 ≤ k3 ∧ k3 ≤ 1000000) : (x * (2 * a + k1) + k2 * a * a + k3).natAbs < 2 ^ 64 := by
  have h1 : x * (2 * a + k1) ≤ 2147483647 * 3000000 := Int.mul_le_mul (by omega) (by omega) (by omega) (by omega)
  have h2 : 0 ≤ x * (2 * a + k1) := Int.mul_nonneg (by omega) (by omega)
  have h3 : k2 * a ≤ 1000000 * 1000000 := Int.mul_le_mul (by omega) (by omega) (by omega) (by omega)
  have h4 : 0 ≤ k2 * a := Int.mul_nonneg (by omega) (by omega)
  have h5 : k2 * a * a ≤ 1000000 * 1000000 * 1000000 := Int.mul_le_mul h3 (by omega) (by omega) (by omega)
  have h6 : 0 ≤ k2 * a * a := Int.mul_nonneg h4 (by omega)
  omega
theorem drawn (x : Int) {m : Int} (h : 0 < m) : ∃ d : Nat, x % m = d ∧ (d : Int) < m := by
  have h1 := Int.emod_nonneg x (show m ≠ 0 by omega)
  have h2 := Int.emod_lt_of_pos x h
  exact ⟨(x % m).toNat, by omega, by omega⟩
end BF
set_option maxHeartbeats 2000000
/-! Comprehensions over lists, by what their items stand for. -/
namespace BF
open PySem PySem.Spec PyProof.Rows L2
theorem same_put {H0 H : Hp} {D : Addr} {o : HO} (s : Same H0 H) (n : H0 D = none) : Same H0 (upd H D o) := fun b u e => by
  rw [upd_ne (ne_of_none e n)]
  exact s b u e
/-- [x for x in xs if test]: items that the test lets by -/
theorem lc_filt {β : Type} {F : Hp → V → β → Prop} {K : PySem.W.Frag} {tl : TE} {s : Nat} {tt : TT} {σ : L2.St} {H : Hp} {Q : VK} {a : Addr} {xs : List V} {zs : List β} (c : β → Bool)
    (hj : ∀ k : VK, k (.ref a) H → tl σ H k) (ha : H a = some (.lst xs)) (hz : Paired (F H) xs zs) (up : ∀ H H' v z, F H v z → Same H H' → F H' v z) (hs : s < σ.length) (hl : xs.length ≤ 1000)
    (ht : ∀ x z H', Same H H' → F H' x z → ∀ k : Bool → Hp → Prop, k (c z) H' → tt ((wipe σ [s]).set s (some x)) H' k)
    (k : ∀ H' D ys, Same H H' → H D = none → H' D = some (.lst ys) → Paired (F H') ys (zs.filter c) → Q (.ref D) H') :
    tLc (iList K tl) (gName s) tt (tVar s) [s] σ H Q := by
  have hsw : s < (wipe σ [s]).length := by rw [wipe_length]; exact hs
  refine hj _ ⟨a, rfl, ⟨_, SqL.of ha⟩, fun D hD => lc_list (K := K) (a := a) (xs := xs) (fun i H' => ∃ ys, Same H H' ∧ H' D = some (.lst ys) ∧ Paired (F H) ys ((zs.take i).filter c))
    ⟨[], same_upd hD, upd_same, .nil⟩ (fun i H' _ ⟨_, sm, _⟩ => SqL.of (sm _ _ ha)) ?_ ?_⟩
  · rintro i x H' hx ⟨ys, sm, hd, hys⟩
    obtain ⟨z, gz, fz⟩ := Pd.get hz hx
    have fz' := up _ _ _ _ fz sm
    have tk : zs.take (i + 1) = zs.take i ++ [z] := by rw [List.take_add_one, gz]; rfl
    have hyl : ys.length ≤ 1000 := by
      have h1 := List.length_filter_le c (zs.take i)
      have h2 : (zs.take i).length ≤ zs.length := by rw [List.length_take]; omega
      have h3 := Pd.len hz
      have h4 := Pd.len hys
      omega
    refine ⟨?_, ht x z H' sm fz' _ ?_⟩
    · show ((wipe σ [s]).set s (some x)).set s none = σ.set s none
      rw [List.set_set]
      show (σ.set s none).set s none = _
      rw [List.set_set]
    · rw [tk, List.filter_append]
      cases hc : c z with
      | true =>
        refine iteT ⟨x, by rw [List.getElem?_set_self hsw], ys, hd, by show ys.length < 16777216; omega, _, same_put sm hD, upd_same, ?_⟩
        rw [List.filter_cons, hc]
        exact Pd.append hys (.cons fz .nil)
      | false =>
        refine iteF ⟨ys, sm, hd, ?_⟩
        rw [List.filter_cons, hc]
        show Paired (F H) ys ((zs.take i).filter c ++ [])
        rw [List.append_nil]
        exact hys
  · rintro H' ⟨ys, sm, hd, hys⟩
    rw [List.take_of_length_le (by rw [Pd.len hz]; exact Nat.le_refl _)] at hys
    exact k H' D ys sm hD hd (Pd.imp hys fun _ _ q => up _ _ _ _ q sm)
/-- [e for x in xs]: one new thing for each item -/
theorem lc_map {β γ : Type} {F : Hp → V → β → Prop} {G : Hp → V → γ → Prop} {K : PySem.W.Frag} {tl : TE} {s : Nat} {te : TE} {σ : L2.St} {H : Hp} {Q : VK} {a : Addr} {xs : List V} {zs : List β} (c : β → γ)
    (hj : ∀ k : VK, k (.ref a) H → tl σ H k) (ha : H a = some (.lst xs)) (hz : Paired (F H) xs zs) (up : ∀ H H' v z, F H v z → Same H H' → F H' v z) (upG : ∀ H H' v z, G H v z → Same H H' → G H' v z)
    (upD : ∀ (D : Addr) H acc o v z, H D = some (.lst acc) → G H v z → G (upd H D o) v z) (hs : s < σ.length) (hl : xs.length ≤ 1000)
    (he : ∀ x z H', Same H H' → F H' x z → ∀ k : VK, (∀ H2 v, Same H' H2 → G H2 v (c z) → k v H2) → te ((wipe σ [s]).set s (some x)) H' k)
    (k : ∀ H' D ys, Same H H' → H D = none → H' D = some (.lst ys) → Paired (G H') ys (zs.map c) → Q (.ref D) H') :
    tLc (iList K tl) (gName s) tYes te [s] σ H Q := by
  refine hj _ ⟨a, rfl, ⟨_, SqL.of ha⟩, fun D hD => lc_list (K := K) (a := a) (xs := xs) (fun i H' => ∃ ys, Same H H' ∧ H' D = some (.lst ys) ∧ Paired (G H') ys ((zs.take i).map c))
    ⟨[], same_upd hD, upd_same, .nil⟩ (fun i H' _ ⟨_, sm, _⟩ => SqL.of (sm _ _ ha)) ?_ ?_⟩
  · rintro i x H' hx ⟨ys, sm, hd, hys⟩
    obtain ⟨z, gz, fz⟩ := Pd.get hz hx
    have tk : zs.take (i + 1) = zs.take i ++ [z] := by rw [List.take_add_one, gz]; rfl
    have hyl : ys.length ≤ 1000 := by
      have h2 : (zs.take i).length ≤ zs.length := by rw [List.length_take]; omega
      have h3 := Pd.len hz
      have h4 := Pd.len hys
      rw [List.length_map] at h4
      omega
    refine ⟨?_, he x z H' sm (up _ _ _ _ fz sm) _ fun H2 v s2 gv => ?_⟩
    · show ((wipe σ [s]).set s (some x)).set s none = σ.set s none
      rw [List.set_set]
      show (σ.set s none).set s none = _
      rw [List.set_set]
    · refine ⟨ys, s2 _ _ hd, by show ys.length < 16777216; omega, _, same_put (sm.trans s2) hD, upd_same, ?_⟩
      rw [tk, List.map_append]
      exact Pd.append (Pd.imp hys fun _ _ q => upD _ _ _ _ _ _ (s2 _ _ hd) (upG _ _ _ _ q s2)) (.cons (upD _ _ _ _ _ _ (s2 _ _ hd) gv) .nil)
  · rintro H' ⟨ys, sm, hd, hys⟩
    rw [List.take_of_length_le (by rw [Pd.len hz]; exact Nat.le_refl _)] at hys
    exact k H' D ys sm hD hd hys
/-! ### comprehensions whose elements draw -/
/-- what a comprehension asks once its iterator stands -/
def LcBody (J : It) (g : TG) (tt : TT) (te : TE) (vs : List Nat) (σ : L2.St) (Q : VK) (H1 : Hp) : Prop := ∀ D, H1 D = none → ∃ W : Nat → Nat → Hp → Prop, (∃ m, W 0 m (upd H1 D (.lst []))) ∧ ∀ i m H, W i m H →
  (J.stop i H ∧ Q (.ref D) H) ∨ (J.go i H ∧ ∃ Nx : Hp → Prop, (∀ H', Nx H' → ∃ m', m' < m ∧ W (i + 1) m' H') ∧ ∀ x H', J.yld i H x H' → g x (wipe σ vs) H' fun σ2 H2 => wipe σ2 vs = wipe σ vs ∧ tt σ2 H2 fun b H3 =>
    if b = true then te σ2 H3 fun y H4 => ∃ acc, H4 D = some (.lst acc) ∧ acc.length < sizeLine ∧ Nx (upd H4 D (.lst (acc ++ [y]))) else Nx H3)
theorem lcE {wi : TI} {g : TG} {tt : TT} {te : TE} {vs : List Nat} {σ : L2.St} {H : Hp} {Q : VK} (h : wi σ H fun J H1 => LcBody J g tt te vs σ Q H1) : tLc wi g tt te vs σ H Q := h
theorem wipe1 (σ : L2.St) (s : Nat) (v : V) : wipe ((wipe σ [s]).set s (some v)) [s] = wipe σ [s] := by
  show ((σ.set s none).set s (some v)).set s none = σ.set s none
  rw [List.set_set, List.set_set]
/-- [e for _ in range(n)], e draws -/
theorem lc_rngP {γ : Type} {G : Hp → V → γ → Prop} {s n k0 d : Nat} {te : TE} {σ : L2.St} {H : Hp} {Q : VK} {P c : Addr} (hp : Pen H P c k0) (hn : n ≤ 1000)
    (upG : ∀ H H' v z k, G H v z → Pen H P c k → Off P H H' → G H' v z) (upD : ∀ (D : Addr) H acc o v z, H D = some (.lst acc) → G H v z → G (upd H D o) v z)
    (he : ∀ (i : Nat) H' j, i < n → Off P H H' → j ≤ k0 + n * d → Pen H' P c j → ∀ k : VK, (∀ H2 v z, Off P H' H2 → Pen H2 P c (j + d) → G H2 v z → k v H2) → te ((wipe σ [s]).set s (some (.int (0 + (i : Int))))) H' k)
    (k : ∀ H' D ys zs, Off P H H' → H D = none → H' D = some (.lst ys) → Pen H' P c (k0 + n * d) → Paired (G H') ys zs → zs.length = n → Q (.ref D) H') :
    LcBody (Itr 0 n) (gName s) tYes te [s] σ Q H := by
  intro D hD
  have dP : D ≠ P := hp.fresh hD
  have dC : D ≠ c := hp.freshC hD
  refine lc_range (lo := 0) (n := n) (fun i H' => ∃ ys zs, Off P H H' ∧ H' D = some (.lst ys) ∧ Pen H' P c (k0 + i * d) ∧ Paired (G H') ys zs ∧ zs.length = i)
    ⟨[], [], Off.of (same_upd hD), upd_same, (hp.put dP dC).mono (by omega), .nil, rfl⟩ ?_ ?_
  · rintro i H' hi ⟨ys, zs, of, hd, pen, pr, zl⟩
    have hyl := Pd.len pr
    have m1 : i * d ≤ n * d := Nat.mul_le_mul_right d (Nat.le_of_lt hi)
    refine ⟨wipe1 σ s _, he i H' _ hi of (by omega) pen _ fun H2 v z o2 p2 g2 => ?_⟩
    have hd2 := o2 _ _ dP hd
    refine ⟨ys, hd2, by show ys.length < 16777216; omega, _, zs ++ [z], fun b o nb e => ?_, upd_same, ?_, ?_, by simp [zl]⟩
    · rw [upd_ne (ne_of_none e hD)]
      exact o2 _ _ nb (of _ _ nb e)
    · refine (p2.put dP dC).mono ?_
      rw [Nat.succ_mul]
      omega
    · exact Pd.append (Pd.imp pr fun _ _ q => upD _ _ _ _ _ _ hd2 (upG _ _ _ _ _ q pen o2)) (.cons (upD _ _ _ _ _ _ hd2 g2) .nil)
  · rintro H' ⟨ys, zs, of, hd, pen, pr, zl⟩
    exact k H' D ys zs of hD hd pen pr zl
/-- [e for x in xs], e draws -/
theorem lc_lstP {β : Type} {F G : Hp → V → β → Prop} {K : PySem.W.Frag} {s k0 d : Nat} {te : TE} {σ : L2.St} {H : Hp} {Q : VK} {P c a : Addr} {xs : List V} {zs : List β} (hp : Pen H P c k0) (hn : xs.length ≤ 1000) (ha : H a = some (.lst xs)) (aP : a ≠ P) (hz : Paired (F H) xs zs)
    (upF : ∀ H H' v z k, F H v z → Pen H P c k → Off P H H' → F H' v z)
    (upG : ∀ H H' v z k, G H v z → Pen H P c k → Off P H H' → G H' v z) (upD : ∀ (D : Addr) H acc o v z, H D = some (.lst acc) → G H v z → G (upd H D o) v z)
    (he : ∀ x z H' j, z ∈ zs → Off P H H' → j ≤ k0 + xs.length * d → Pen H' P c j → F H' x z → ∀ k : VK, (∀ H2 v, Off P H' H2 → Pen H2 P c (j + d) → G H2 v z → k v H2) → te ((wipe σ [s]).set s (some x)) H' k)
    (k : ∀ H' D ys, Off P H H' → H D = none → H' D = some (.lst ys) → Pen H' P c (k0 + xs.length * d) → Paired (G H') ys zs → Q (.ref D) H') :
    LcBody (Itl K a) (gName s) tYes te [s] σ Q H := by
  intro D hD
  have dP : D ≠ P := hp.fresh hD
  have dC : D ≠ c := hp.freshC hD
  refine lc_list (K := K) (a := a) (xs := xs) (fun i H' => ∃ ys, Off P H H' ∧ H' D = some (.lst ys) ∧ Pen H' P c (k0 + i * d) ∧ Paired (G H') ys (zs.take i))
    ⟨[], Off.of (same_upd hD), upd_same, (hp.put dP dC).mono (by omega), .nil⟩ (fun i H' _ ⟨_, of, _⟩ => SqL.of (of _ _ aP ha)) ?_ ?_
  · rintro i x H' hx ⟨ys, of, hd, pen, pr⟩
    obtain ⟨z, gz, fz⟩ := Pd.get hz hx
    have hi : i < xs.length := (List.getElem?_eq_some_iff.mp hx).1
    have tk : zs.take (i + 1) = zs.take i ++ [z] := by rw [List.take_add_one, gz]; rfl
    have hyl := Pd.len pr
    rw [List.length_take] at hyl
    have m1 : i * d ≤ xs.length * d := Nat.mul_le_mul_right d (Nat.le_of_lt hi)
    refine ⟨wipe1 σ s _, he x z H' _ (List.mem_of_getElem? gz) of (by omega) pen (upF _ _ _ _ _ fz hp of) _ fun H2 v o2 p2 g2 => ?_⟩
    have hd2 := o2 _ _ dP hd
    refine ⟨ys, hd2, by show ys.length < 16777216; omega, _, fun b o nb e => ?_, upd_same, ?_, ?_⟩
    · rw [upd_ne (ne_of_none e hD)]
      exact o2 _ _ nb (of _ _ nb e)
    · refine (p2.put dP dC).mono ?_
      rw [Nat.succ_mul]
      omega
    · rw [tk]
      exact Pd.append (Pd.imp pr fun _ _ q => upD _ _ _ _ _ _ hd2 (upG _ _ _ _ _ q pen o2)) (.cons (upD _ _ _ _ _ _ hd2 g2) .nil)
  · rintro H' ⟨ys, of, hd, pen, pr⟩
    rw [List.take_of_length_le (by rw [Pd.len hz]; exact Nat.le_refl _)] at pr
    exact k H' D ys of hD hd pen pr
/-! ### rules whose reading names K, for blocks -/
theorem ixT (K : PySem.W.Frag) {X : Cx} (h : X.K = K := by rfl) : IxR X (rIxT K) := h ▸ ix_tup
theorem ixL (K : PySem.W.Frag) {X : Cx} (h : X.K = K := by rfl) : IxR X (rIxL K) := h ▸ ix_list
theorem isiK (K : PySem.W.Frag) {X : Cx} (h : X.K = K := by rfl) : CallR X (.builtin "isinstance") (rIsi K) := h ▸ call_isi
theorem lenK (K : PySem.W.Frag) {X : Cx} (h : X.K = K := by rfl) : CallR X (.builtin "len") (fun xs H Q => ∃ p ys, xs = [.ref p] ∧ (SqL K H p ys ∨ SqT K H p ys) ∧ Q (.int ys.length) H) := h ▸ call_len_seq
/-! ### peeling a reading -/
theorem testOp {r : R2} {ta tb : TE} {σ : L2.St} {H : Hp} {Q : Bool → Hp → Prop} (h : ta σ H fun x H1 => tb σ H1 fun y H2 => r x y H2 fun z H3 => ∃ k, z = .bl k ∧ Q k H3) : tTest (tOp r ta tb) σ H Q := h
theorem opE {r : R2} {ta tb : TE} {σ : L2.St} {H : Hp} {Q : VK} (h : ta σ H fun x H1 => tb σ H1 fun y H2 => r x y H2 Q) : tOp r ta tb σ H Q := h
theorem retE {te : TE} {D : Ends} {σ : L2.St} {H : Hp} (h : te σ H D.rt) : tRet te D σ H := h
theorem seqE {t u : TS} {D : Ends} {σ : L2.St} {H : Hp} (h : t { D with nx := u D } σ H) : tSeq t u D σ H := h
theorem argE {ta : TE} {tr : TA} {σ : L2.St} {H : Hp} {Q : List V → Hp → Prop} (h : ta σ H fun x H1 => tr σ H1 fun xs H2 => Q (x :: xs) H2) : tCons ta tr σ H Q := h
theorem nextE {D : Ends} {σ : L2.St} {H : Hp} (h : D.nx σ H) : tNext D σ H := h
theorem gnm {i : Nat} {v : V} {σ : L2.St} {H : Hp} {Q : L2.St → Hp → Prop} (h : Q (σ.set i (some v)) H) : gName i v σ H Q := h
theorem asgLc {wi : TI} {g : TG} {tt : TT} {te : TE} {vs : List Nat} {i : Nat} {u : TS} {D : Ends} {σ : L2.St} {H : Hp} (h : tLc wi g tt te vs σ H fun x H1 => u D (σ.set i (some x)) H1) :
    tSeq (tAsg (tLc wi g tt te vs) (gName i)) u D σ H := h
theorem asgE {te : TE} {i : Nat} {u : TS} {D : Ends} {σ : L2.St} {H : Hp} (h : te σ H fun x H1 => u D (σ.set i (some x)) H1) : tSeq (tAsg te (gName i)) u D σ H := h
end BF
set_option maxHeartbeats 2000000
/-! Calls by keywords alone. -/
namespace BF
open PySem PySem.Spec PyProof.Rows L2
section
variable {X : Cx} {CX : CXT} {k : Nat} {f : Addr} {fd : FuncData} {ps ks : List Str} {sp : Sp} {E : XK} {x : Str} {p pos : Pos} {kws : List Keyword} {tk : TA} {g : List Value → List Value → List Value} {gV : List V → List V → List V}
/-- f(k = v, ..) -/
theorem pe_callK0 (F : FnOk X.prog X.w X.K X.mg X.base CX k f fd ps sp) (hr : Room k X.A) (hg : Gl X x) (hm : X.mg x = some (.ref f)) (hk : PySem.W.keepIn X.K (.ref f) = true) (hb : KBn X.K fd ps 0 ks g gV) (hx : Passes CX X E)
    (hkw : PK X kws tk) (hall : (backToKw pos (keywordEach kws X.env)).all (·.1.isSome) = true := by rfl) (hks : (backToKw pos (keywordEach kws X.env)).filterMap (·.1) = ks := by rfl)
    (hdb : (x == ("__debug__" : Str)) = false := by decide)
    (hpl : ((backTo pos (starEach [] X.env)).any (·.1) || (backToKw pos (keywordEach kws X.env)).any (·.1.isNone)) = false := by rfl) :
    PE X (.Call (.Name x p) [] kws pos) (tCallN 0 ks.length sp gV E tNil tk) := by
  refine ⟨fun pins s σ H Q I h => wpAny_Call_Name_kw (ld_glob I hg hm ?_ hdb)⟩
  refine PySem.W.callWith_KW0 (h₀ := X.base) I.ok.mod.kin hk hall ?_ hpl
  refine thn (hkw.run pos pins s σ H _ I h) fun ws s2 ⟨zs, H2, I2, rz, l1, l2, q2⟩ => ⟨I2.kIn, ?_⟩
  rw [hks]
  exact run_fnN (us := []) (vs := []) F hr hb hx I2 .nil rz l1 l2 q2
end
/-- how keywords bind, without defaults -/
theorem kbn_of {K : PySem.W.Frag} {x qual : Str} {params : Arguments} {body : List Stmt} {scope : Scope} {kws : List (Str × V)} {f : Addr} {fd : FuncData} {ps ks : List Str} {n : Nat} (F : FunD K x qual params body scope [] kws f fd)
    (g : {α : Type} → List α → List α → List α)
    (h : ∀ (kV doc pm : Value) (an : Option Addr) (cdv ct : Value) (us ws : List Value), us.length = n → ws.length = ks.length → bindArgs (PySem.W.fnOf x qual params body scope .none kV doc pm an cdv ct) ⟨us, ks.zip ws⟩ = pure (ps.zip (g us ws)))
    (rel : ∀ {vs : List V} {us : List Value} {zs : List V} {ws : List Value}, Vals vs us → Vals zs ws → Vals (g vs zs) (g us ws)) : KBn K fd ps n ks g g := by
  obtain ⟨⟨oc, od, dV, kV, doc, pm, an, cdv, ct, osl, rfl, lk, hcd, hD, hK⟩, _⟩ := F
  rcases hD with ⟨_, rfl⟩ | ⟨e, _⟩
  · exact ⟨fun s us ws _ l1 l2 => .of_eq (h kV doc pm an cdv ct us ws l1 l2), rel⟩
  · exact absurd rfl e
def kcat {α : Type} (us ws : List α) : List α := us ++ ws
theorem kcat_rel {vs : List V} {us : List Value} {zs : List V} {ws : List Value} (a : Vals vs us) (b : Vals zs ws) : Vals (kcat vs zs) (kcat us ws) := a.append b

/-! ### a def of the module, as one fact -/
structure Cal (P : Program) (w : World) (K : PySem.W.Frag) (mg : Str → Option Value) (base : Heap) (CX : CXT) (k : Nat) (x : Str) (ps : List Str) (sp : Sp) : Prop where
  go : ∃ (f : Addr) (fd : FuncData), mg x = some (.ref f) ∧ PySem.W.keepIn K (.ref f) = true ∧ FnOk P w K mg base CX k f fd ps sp ∧ Binds K fd ps []
structure CalK (P : Program) (w : World) (K : PySem.W.Frag) (mg : Str → Option Value) (base : Heap) (CX : CXT) (k : Nat) (x : Str) (ps ks : List Str) (n : Nat) (sp : Sp) (gV : List V → List V → List V) : Prop where
  go : ∃ (f : Addr) (fd : FuncData) (g : List Value → List Value → List Value), mg x = some (.ref f) ∧ PySem.W.keepIn K (.ref f) = true ∧ FnOk P w K mg base CX k f fd ps sp ∧ KBn K fd ps n ks g gV
section
variable {X : Cx} {CX : CXT} {k : Nat} {ps ks : List Str} {sp : Sp} {E : XK} {x : Str} {p pos : Pos} {e : Expr} {es : List Expr} {kws : List Keyword} {t tk : TA} {gV : List V → List V → List V}
theorem pe_cal (c : Cal X.prog X.w X.K X.mg X.base CX k x ps sp) (hr : Room k X.A) (hg : Gl X x) (hx : Passes CX X E) (ha : PA X (e :: es) t) (hdb : (x == ("__debug__" : Str)) = false := by decide)
    (he : starEach (e :: es) X.env = (false, eval e X.env) :: starEach es X.env := by rfl) (hpl : (backTo pos (starEach es X.env)).any (·.1) = false := by rfl) : PE X (.Call (.Name x p) (e :: es) [] pos) (tCall sp [] E t) := by
  obtain ⟨f, fd, h1, h2, h3, h4⟩ := c.go
  exact pe_call h3 hr hg h1 h2 h4 .nil hx ha hdb he hpl
theorem pe_calK0 (c : CalK X.prog X.w X.K X.mg X.base CX k x ps ks 0 sp gV) (hr : Room k X.A) (hg : Gl X x) (hx : Passes CX X E) (hkw : PK X kws tk) (hall : (backToKw pos (keywordEach kws X.env)).all (·.1.isSome) = true := by rfl)
    (hks : (backToKw pos (keywordEach kws X.env)).filterMap (·.1) = ks := by rfl) (hdb : (x == ("__debug__" : Str)) = false := by decide)
    (hpl : ((backTo pos (starEach [] X.env)).any (·.1) || (backToKw pos (keywordEach kws X.env)).any (·.1.isNone)) = false := by rfl) :
    PE X (.Call (.Name x p) [] kws pos) (tCallN 0 ks.length sp gV E tNil tk) := by
  obtain ⟨f, fd, g, h1, h2, h3, h4⟩ := c.go
  exact pe_callK0 h3 hr hg h1 h2 h4 hx hkw hall hks hdb hpl
end
end BF
set_option maxHeartbeats 2000000
/-! repr of nested things, own objects among them. -/
namespace BF
open PySem PySem.Spec PyProof.Rows L2

def RpAt (X : Cx) (n : Nat) (H : Hp) (x : V) (t : Str) (as : List Addr) : Prop :=
  ∀ (base : Nat), base + t.length ≤ sizeLine → ∀ (A : Around) (g : List Code) (pins : List (Addr × Obj)) (s : Shared) (σ : L2.St) (H' : Hp) (u : Value), Sub X n A → A.guards = some g → (∀ b ∈ as, Clear g b) →
    Same H H' → Inv X pins σ H' s → RelV x u →
    wpAny (model X.prog X.w) A (pyReprUnder base u) (fun r s' => r = t ∧ ∃ H2, Inv X pins σ H2 s' ∧ Same H' H2) X.xe s
section
variable {X : Cx} {n m : Nat} {H : Hp} {x : V} {t : Str} {as bs : List Addr}
theorem RpAt.more (h : RpAt X n H x t as) (l : n ≤ m) (sub : ∀ a ∈ as, a ∈ bs) : RpAt X m H x t bs :=
  fun base hb A g pins s σ H' u sb hg hc sm I r => h base hb A g pins s σ H' u (sb.mono l) hg (fun b z => hc b (sub b z)) sm I r
theorem RpAt.up {H' : Hp} (h : RpAt X n H x t as) (s : Same H H') : RpAt X n H' x t as :=
  fun base hb A g pins s1 σ H2 u sb hg hc sm I r => h base hb A g pins s1 σ H2 u sb hg hc (s.trans sm) I r
theorem rp_is (h : ∀ u, RelV x u → ReprIs X.prog X.w u t) : RpAt X n H x t as :=
  fun base hb A g pins s σ H' u sb hg hc sm I r => h u r base hb A X.xe s _ fun tk => ⟨rfl, H', I.tok tk, Same.refl _⟩
theorem rp_non : RpAt X n H .non "None" as := rp_is fun u r => by
  obtain rfl : u = Value.none := r
  exact ReprIs.none
theorem rp_bl (b : Bool) : RpAt X n H (.bl b) (if b then "True" else "False") as := rp_is fun u r => by
  obtain rfl : u = Value.bool b := r
  exact ReprIs.bool b
theorem rp_int {i : Int} (h : i.natAbs.log2 < 1920) : RpAt X n H (.int i) (toString i) as := rp_is fun u r => by
  obtain ⟨tk, rfl⟩ := r
  exact ReprIs.int tk h
theorem rp_str (z : Str) (h : (reprText z).length ≤ sizeLine) : RpAt X n H (.str z) (reprText z) as := rp_is fun u r => by
  obtain ⟨tk, rfl⟩ := r
  exact ReprIs.str z tk h

/-- the own def of a special name is found and called, in repr's own way -/
theorem ifBoundBy_own {M : Model} {A : Around} {E : Value → Shared → Prop} {s : Shared} {K : PySem.W.Frag} {a C f : Addr} {ox : Obj} {od : Option Obj} {name : Str} {last : Value → List Value → Sem Value} {Q : Option Value → Shared → Prop}
    (KX : K.In s.heap) (I : PySem.W.InstAt s.heap a ox C od) (hs : PySem.W.findIn K (.ref C) name = some (some (.ref f))) (hf : PySem.W.isFn K (.ref f) = true)
    (h : wpAny M A (last (.ref f) [.ref a]) (fun v => Q (some v)) E s) : wpAny M A (callSpecialIfBoundBy? last (.ref a) name) Q E s := by
  have fin : wpAny M A (last (.ref f) [.ref a] >>= fun v => pure (some v)) Q E s := wpAny_bind (wpAny_mono h (fun _ _ z => wpAny_pure z) fun _ _ z => z)
  have bd := PySem.W.bind_fn (M := M) KX (.ref a) (beq_iff_eq.mp hf)
  simp only [callSpecialIfBoundBy?, bindSpecialIfBound?]
  refine wpAny_holding (wpAny_bind (wpAny_bind (wpAny_bind (I.type.here ((PySem.W.looks_findIn KX hs).here ?_)))))
  refine wpAny_bind (wpAny_askSetting (wpAny_ite ?_))
  split
  · exact wpAny_bind (bd.here (wpAny_pure fin))
  · exact wpAny_tryCatch (wpAny_bind (bd.here (wpAny_pure fin)))
/-- the text of an own repr, whatever is asked of the last step -/
theorem reprBy_own {CX : CXT} {C f a dx : Addr} {fs : List (Str × V)} {fd : FuncData} {ps : List Str} {sp : Sp} {E : XK} {A : Around} {pins : List (Addr × Obj)} {s : Shared} {σ : L2.St} {last : Value → List Value → Sem Value}
    (F : FnOk X.prog X.w X.K X.mg X.base CX n f fd ps sp) (hb : Binds X.K fd ps []) (hx : Passes CX X E)
    (hs : PySem.W.findIn X.K (.ref C) "__repr__" = some (some (.ref f))) (hf : PySem.W.isFn X.K (.ref f) = true) (ha : H a = some (.ins C dx fs)) (sb : Sub X n A) (I : Inv X pins σ H s)
    (hl : last (.ref f) [.ref a] = call (.ref f) [.ref a]) (hsp : sp [.ref a] H (fun v H2 => v = .str t ∧ Same H H2) E) :
    wpAny (model X.prog X.w) A (pyReprObjBy last (.ref a)) (fun r s' => ∃ tk, r = .str t tk ∧ ∃ H2, Inv X pins σ H2 s' ∧ Same H H2) X.xe s := by
  obtain ⟨mA, J, _⟩ := ins_get I.hok ha
  obtain ⟨od, J, _⟩ := J.look
  unfold pyReprObjBy
  refine wpAny_bind (wpAny_cRoomFor sb.room.units0 ?_)
  refine wpAny_bind (wpAny_bind (J.type.here ((PySem.W.looks_findIn I.kIn hs).here ?_)))
  refine wpAny_bind (ifBoundBy_own (name := Str.ofString "__repr__") I.kIn J hs hf ?_)
  rw [hl]
  have e0 : Env0 X.prog X.w X.K X.mg X.base A X.stack s H := by
    have e := I.env0
    exact ⟨sb.fr.trans e.frames, e.mod, e.bs, e.bsz, e.funs, e.frf, e.hok, e.bare⟩
  have hl2 := F.len _ _ _ _ hsp
  refine wpAny_call (codeAny_mono (F.run A X.stack s H ⟨[.ref a], []⟩ [.ref a] [.ref a] _ E sb.room e0 (by simpa using hb s [.ref a] I.kIn (by simpa using hl2)) (.cons rfl .nil) hsp) fun r s' hq => ?_)
  cases r with
  | error e => exact hx pins σ H s e s' I hq
  | ok fl => cases fl with
    | next => exact hq.elim
    | brk => exact hq.elim
    | cont => exact hq.elim
    | ret u =>
      obtain ⟨v, H2, I2, rv, rfl, sm⟩ := I.after hq
      obtain ⟨tk, rfl⟩ := rv
      exact wpAny_bind (wpAny_isInstance (T := "str") (b := true) rfl isSubtype_str_str (wpAny_pure ⟨tk, rfl, H2, I2, sm⟩))
/-- an instance whose class has a __repr__ of its own -/
theorem rp_own {CX : CXT} {C f a dx : Addr} {fs : List (Str × V)} {fd : FuncData} {ps : List Str} {sp : Sp} {E : XK} (F : FnOk X.prog X.w X.K X.mg X.base CX n f fd ps sp) (hb : Binds X.K fd ps []) (hx : Passes CX X E)
    (hs : PySem.W.findIn X.K (.ref C) "__repr__" = some (some (.ref f))) (hf : PySem.W.isFn X.K (.ref f) = true) (ha : H a = some (.ins C dx fs))
    (hsp : ∀ H', Same H H' → sp [.ref a] H' (fun v H2 => v = .str t ∧ Same H' H2) E) : RpAt X n H (.ref a) t as := by
  intro base hz A g pins s σ H' u sb hg hc sm I r
  obtain rfl : u = Value.ref a := r
  refine wpAny_pyReprUnder_ref (by omega) (wpAny_mono (reprBy_own F hb hx hs hf (sm _ _ ha) sb I rfl (hsp H' sm)) (fun r s' hq => ?_) fun _ _ z => z)
  obtain ⟨tk, rfl, q⟩ := hq
  exact ⟨t, tk, rfl, rfl, q⟩
end

/-! ### lists -/
theorem under_loop (A : Around) (args : Args) : (A.under (.builtin "list.__repr__.loop" args)).frames = A.frames ∧ (A.under (.builtin "list.__repr__.loop" args)).handled = A.handled ∧ (A.under (.builtin "list.__repr__.loop" args)).depth ≤ A.depth + 1 := by
  refine ⟨?_, ?_, ?_⟩
  · first | rfl | simp [Around.under, Code.envs, Code.env?, pushEnvs]
  · first | rfl | simp [Around.under]
  · first | exact Nat.le_refl _ | exact Nat.le_succ _ | simp [Around.under, Code.weight, Code.isCreation, Code.isGuard, Code.isCaller, Code.frames, Code.isFrame, guardIds]
theorem sub_loop {X : Cx} {n : Nat} {A : Around} (sb : Sub X (n + 1) A) (args : Args) : Sub X n (A.under (.builtin "list.__repr__.loop" args)) := by
  obtain ⟨a, b, c⟩ := under_loop A args
  have r := sb.room
  have u := units_under_list_loop A args
  exact ⟨⟨b.trans r.hd, by have := r.dp; omega, by have := r.un; omega⟩, a.trans sb.fr⟩
/-- a list that is being filled, known to the object -/
abbrev partsO (acc : Array Value) (c : Nat) : Obj := { cls := .type "list", dict := none, data := .seq acc c, slots := #[] }
section
variable {X : Cx} {n : Nat} {H : Hp} {as : List Addr}
theorem pin_turn {pins : List (Addr × Obj)} {σ : L2.St} {s : Shared} {P : Addr} {acc : Array Value} {c : Nat} {f : Array Value → Array Value} (I : Inv X ((P, partsO acc c) :: pins) σ H s) (hx : X.s_0.heap.objs.size ≤ P) (h3 : ∀ p ∈ X.pn ++ pins, p.1 ≠ P) :
    Inv X ((P, Obj.mapSeq f (partsO acc c)) :: pins) σ H { s with heap := s.heap.update P (Obj.mapSeq f) } := by
  have hP := ClX.pin_at I
  obtain ⟨_, hn, hL, hfs, _⟩ := I.pin (P, partsO acc c) (List.mem_append_right _ List.mem_cons_self)
  have hc : ∀ x c', X.env.cells.lookup x = some c' → c' ≠ P := fun x c' e z => by
    obtain ⟨v, o, ho, hd⟩ := I.cell x c' e
    rw [z, hP] at ho
    cases ho
    cases hd
  have I1 : Inv X pins σ H { s with heap := s.heap.update P (Obj.mapSeq f), toks := s.toks } :=
    (ClX.unpin I).turned (fun b o hb e => (Heap.get?_update_other _ _ (Ne.symm hb)).trans e) hn hL (.inr hx) hc h3
  refine I1.pins_of fun p hp => ?_
  rcases List.mem_cons.mp hp with rfl | hp
  · exact ⟨Heap.get?_update_self _ hP rfl, hn, hL, hfs, fun v z => nomatch z⟩
  · exact I1.pin p (List.mem_append_right _ hp)
theorem rp_loop {A : Around} {g : List Code} {pins : List (Addr × Obj)} {σ : L2.St} {a P : Addr} {xs : List V} {ts : List Str} {base : Nat} {R : Result → Shared → Prop} (sb : Sub X (n + 1) A) (hg : A.guards = some g)
    (hcl : ∀ b ∈ as, Clear g b) (hna : a ∉ as) (ha : H a = some (.lst xs)) (hlen : ts.length = xs.length) (hT : ∀ (i : Nat) x, xs[i]? = some x → ∃ t, ts[i]? = some t ∧ RpAt X n H x t as)
    (hsz : base + (listText ts).length ≤ sizeLine) (hx : X.s_0.heap.objs.size ≤ P) (h3 : ∀ p ∈ X.pn ++ pins, p.1 ≠ P)
    (fin : ∀ s' u H2, Inv X pins σ H2 s' → Same H H2 → R (.ok (.ret (.str (listText ts) u))) s') (err : ∀ e s', X.xe e s' → R (.error e) s') :
    ∀ (k i : Nat) (s : Shared) (H1 : Hp) (acc : Array Value) (c : Nat) (done : List (Str × Tok)), xs.length - i = k → i ≤ xs.length → Same H H1 → Inv X ((P, partsO acc c) :: pins) σ H1 s → acc.toList = strValues done → done.map (·.1) = ts.take i →
      codeAny (model X.prog X.w) A (.builtin "list.__repr__.loop" ⟨[.ref a, rawInt i, .ref P, rawInt ((base + piled (ts.take i) : Nat) : Int)], []⟩) R s := by
  have hX : (listText ts).length = (textFrom 0 "[" ts).length + 1 := by
    show (textFrom 0 "[" ts ++ "]").length = _
    rw [strLen_append] <;> rfl
  have hL := textFrom_len ts 0 "["
  have z1 : xs.length ≤ sizeLine := by
    have q := hL.1
    rw [if_neg (Nat.lt_irrefl 0)] at q
    omega
  have z2 : ∀ t ∈ ts, t.length ≤ sizeLine := fun t ht => by
    have q := hL.2.1 t ht
    omega
  have z3 := piled_le_listText ts
  intro k
  induction k with
  | zero =>
    intro i s H1 acc c done hk hi sm I hacc hdone
    obtain ⟨_, its, nn, rv, hget⟩ := I.hok a _ (sm _ _ ha)
    have hl := rv.length
    refine codeAny_builtin F.entry_list_repr_loop ?_
    show wpAny _ _ (Builtin.«list.__repr__.loop» ⟨[.ref a, .int i 0, .ref P, .int ((base + piled (ts.take i) : Nat) : Int) 0], []⟩) _ _ s
    rw [repr_loop_tree]
    refine wpAny_bind (wpAny_listItems hget rfl ?_)
    have none_ : its.toArray[(i : Int).toNat]? = none := by simp; omega
    simp only [none_]
    unfold reprEnd
    refine wpAny_bind (wpAny_listItems (ClX.pin_at I) rfl ?_)
    rw [hacc, repr_fold]
    refine wpAny_bind (wpAny_pure ?_)
    have all_ : done.map (·.1) = ts := by rw [hdone, List.take_of_length_le (by omega)]
    rw [all_]
    refine wpAny_bind (wpAny_mkStr (wpAny_pure ?_) (show (listText ts).length ≤ sizeLine by omega))
    exact fin _ _ H1 ((ClX.unpin I).tok _) sm
  | succ k ih =>
    intro i s H1 acc c done hk hi sm I hacc hdone
    have hlt : i < xs.length := by omega
    obtain ⟨t, ht, hrep⟩ := hT i xs[i] (List.getElem?_eq_getElem hlt)
    obtain ⟨_, its, nn, rv, hget⟩ := I.hok a _ (sm _ _ ha)
    obtain ⟨u, hu, ru⟩ := rv.get (List.getElem?_eq_getElem hlt)
    have p1 := piled_take_succ ht
    have p2 := piled_take_le ts (i + 1)
    refine codeAny_builtin F.entry_list_repr_loop ?_
    show wpAny _ _ (Builtin.«list.__repr__.loop» ⟨[.ref a, .int i 0, .ref P, .int ((base + piled (ts.take i) : Nat) : Int) 0], []⟩) _ _ s
    rw [repr_loop_tree]
    refine wpAny_bind (wpAny_listItems hget rfl ?_)
    have some_ : its.toArray[(i : Int).toNat]? = some u := by simpa using hu
    simp only [some_]
    rw [Int.toNat_natCast]
    refine wpAny_bind (wpAny_holding (wpAny_mono (hrep (base + piled (ts.take i) + 1) (by omega) _ _ _ s σ H1 u (sub_loop sb _) (guards_under_guard (isGuard_list_loop _) hg) (fun b hb => (hcl b hb).cons (a := a) fun e => hna (e ▸ hb)) sm I ru) (fun r s2 hq => ?_) fun e s' q => err e s' q))
    obtain ⟨rfl, H2, I2, s2m⟩ := hq
    refine wpAny_bind (wpAny_mkStr ?_ (z2 _ (List.mem_of_getElem? ht)))
    refine wpAny_bind ?_
    show wpAny _ _ (updateSeq P _) _ _ _
    have hasz : acc.size ≤ sizeLine := by
      have e1 : acc.toList.length = acc.size := by simp
      have e2 : (strValues done).length = done.length := by simp [strValues]
      have e3 : done.length = (ts.take i).length := by rw [← hdone, List.length_map]
      have e4 : (ts.take i).length ≤ i := by rw [List.length_take]; omega
      rw [hacc] at e1
      omega
    refine wpAny_updateSeq (ClX.pin_at I2) rfl (wpAny_pure ⟨F.quiet_list_repr_loop _, ?_⟩) hasz
    have c1 : ((i : Int) + 1) = ((i + 1 : Nat) : Int) := by omega
    have c2 : base + piled (ts.take i) + (r.length + 2) = base + piled (ts.take (i + 1)) := by omega
    rw [c1, c2]
    exact ih (i + 1) _ H2 (acc.push (.str r s2.toks)) _ (done ++ [(r, s2.toks)]) (by omega) hlt (sm.trans s2m) (pin_turn (f := fun z => z.push (.str r s2.toks)) (I2.tok _) hx h3) (by simp [hacc, strValues]) (by simp [List.take_add_one, ht, hdone])

theorem rp_listAt {A : Around} {g : List Code} {pins : List (Addr × Obj)} {σ : L2.St} {s : Shared} {H1 : Hp} {a : Addr} {xs : List V} {ts : List Str} {base : Nat} {R : Result → Shared → Prop} (sb : Sub X (n + 1) A) (hg : A.guards = some g)
    (hcl : ∀ b ∈ a :: as, Clear g b) (hna : a ∉ as) (ha : H a = some (.lst xs)) (hlen : ts.length = xs.length) (hT : ∀ (i : Nat) x, xs[i]? = some x → ∃ t, ts[i]? = some t ∧ RpAt X n H x t as)
    (hsz : base + (listText ts).length ≤ sizeLine) (sm : Same H H1) (I : Inv X pins σ H1 s)
    (fin : ∀ s' u H2, Inv X pins σ H2 s' → Same H H2 → R (.ok (.ret (.str (listText ts) u))) s') (err : ∀ e s', X.xe e s' → R (.error e) s') :
    wpAny (model X.prog X.w) A.in1 (Builtin.listReprAt base ⟨[.ref a], []⟩) (fun fin s' => match fin with | .done f => R (.ok f) s' | .again c' => c'.quiet = true ∧ codeAny (model X.prog X.w) A c' R s') (fun e s' => R (.error e) s') s := by
  obtain ⟨_, its, nn, rv, hget⟩ := I.hok a _ (sm _ _ ha)
  cases rv with
  | nil =>
    have e : ts = [] := List.eq_nil_of_length_eq_zero hlen
    subst e
    exact wpAny_list_repr_empty hget rfl (fin _ _ H1 (I.tok _) sm)
  | @cons x u xr ur r rr =>
    refine wpAny_list_repr_head (A := A.in1) hg (fun v rest kw hm => listSameRef_of_ne (hcl a List.mem_cons_self _ _ _ _ hm)) hget rfl ?_
    refine wpAny_bind (m := newList []) (wpAny_newObj_type ?_)
    refine wpAny_pure ⟨F.quiet_list_repr_loop _, ?_⟩
    have I1 := ClX.pin_new (o := partsO #[] 0) (t' := s.toks) I (fun b o z => Heap.get?_push_of_some _ z) (Nat.le_refl _) (Heap.get?_push_size s.heap rfl) (fun v z => nomatch z)
    exact rp_loop (P := s.heap.objs.size) sb hg (fun b hb => hcl b (List.mem_cons_of_mem _ hb)) hna ha hlen hT hsz I.sz (fun p hp z => by
      have q := Heap.lt_size (I.pin p hp).1
      rw [z] at q
      exact absurd q (Nat.lt_irrefl _)) fin err _ 0 _ H1 #[] 0 [] rfl (Nat.zero_le _) sm I1 rfl (by simp)
theorem rp_lst {a : Addr} {xs : List V} {ts : List Str} (hna : a ∉ as) (ha : H a = some (.lst xs)) (hlen : ts.length = xs.length) (hT : ∀ (i : Nat) x, xs[i]? = some x → ∃ t, ts[i]? = some t ∧ RpAt X n H x t as) :
    RpAt X (n + 1) H (.ref a) (listText ts) (a :: as) := by
  intro base hz A g pins s σ H' u sb hg hc sm I r
  obtain rfl : u = Value.ref a := r
  obtain ⟨_, its, nn, rv, hget⟩ := I.hok a _ (sm _ _ ha)
  refine wpAny_pyReprUnder_ref (by omega) (wpAny_pyReprObjUnder_twin (twin := "list.__repr__.under") ⟨_, hget, rfl⟩ F.slot_list_repr.toG rfl sb.room.units0
    (call_twin_plain F.plain_list_repr_under F.entry_list_repr_under F.check_list_repr_under ⟨_, hget, rfl⟩ F.slot_list_repr.toG (F.args_list_repr_1 _) ?_))
  exact rp_listAt sb hg hc hna (sm _ _ ha) hlen (fun i x e => let ⟨t, h1, h2⟩ := hT i x e; ⟨t, h1, h2.up sm⟩) hz (Same.refl _) I (fun s' u H2 I2 s2 => ⟨⟨_, _, rfl⟩, _, _, rfl, rfl, H2, I2, s2⟩) fun _ _ q => q
/-- repr(xs) of a list -/
theorem repr_lst {pins : List (Addr × Obj)} {σ : L2.St} {s : Shared} {a : Addr} {xs : List V} {ts : List Str} {Q : VK} (hr : Room (n + 2) X.A) (hG : X.A.guards = some []) (hna : a ∉ as) (ha : H a = some (.lst xs)) (hlen : ts.length = xs.length)
    (hT : ∀ (i : Nat) x, xs[i]? = some x → ∃ t, ts[i]? = some t ∧ RpAt X n H x t as) (hsz : (listText ts).length ≤ sizeLine) (I : Inv X pins σ H s) (q : ∀ H', Same H H' → Q (.str (listText ts)) H') :
    wpAny (model X.prog X.w) X.A (call (.builtin "repr") [.ref a]) (EP X pins σ Q) X.xe s := by
  obtain ⟨_, its, nn, rv, hget⟩ := I.hok a _ ha
  have sb : Sub X (n + 1) X.A.in1 := ⟨hr.in1, rfl⟩
  refine call_repr_slot (hu_of hr) ⟨_, hget, rfl⟩ F.slot_list_repr.toG ?_
  refine wpAny_call (codeAny_call_builtin F.slot_list_repr.plain F.entry_list_repr (F.slot_list_repr.check _ _ _ _ _ _ _ _ ⟨_, hget, rfl⟩ (F.args_list_repr_1 _)
    (rp_listAt (base := 0) (R := callEnd (fun v s' => ∃ x t, v = .str x t ∧ EP X pins σ Q v s') X.xe) sb hG (fun b _ => Clear.nil b) hna ha hlen hT (by omega) (Same.refl _) I (fun s' u H2 I2 s2 => ?_) fun _ _ q => q)))
  exact ⟨_, _, rfl, V.str (listText ts), H2, I2, ⟨_, rfl⟩, q H2 s2⟩
end
/-- what repr tells of a value, by its parts -/
def tCallRepr (X : Cx) : List V → Hp → VK → Prop := fun vs H Q => ∃ a xs ts, vs = [.ref a] ∧ H a = some (.lst xs) ∧ ts.length = xs.length ∧ (∃ as, a ∉ as ∧ ∀ (i : Nat) x, xs[i]? = some x → ∃ t, ts[i]? = some t ∧ RpAt X 20 H x t as) ∧
  (listText ts).length ≤ sizeLine ∧ ∀ H', Same H H' → Q (.str (listText ts)) H'
theorem call_repr_lst {X : Cx} (hr : Room 22 X.A) (hG : X.A.guards = some []) : CallR X (.builtin "repr") (tCallRepr X) := by
  intro pins s σ H vs us Q I r h
  obtain ⟨a, xs, ts, rfl, ha, hl, ⟨as, hn, hT⟩, hz, q⟩ := h
  obtain rfl := Vals.ref1 r
  exact repr_lst hr hG hn ha hl hT hz I q
end BF
set_option maxHeartbeats 2000000
/-! The head's facts: defs at addresses that are found by any path, and one Bool more. -/
namespace BF
open PySem PySem.Spec PyProof.Rows L2

structure DefA where
  adr : PySem.W.Frag → Addr
  name : Str
  qual : Str
  st : Stmt
  dfl : List He.Dv := []
  kwd : List (Str × He.Dv) := []
def DefA.see (d : DefA) (K : PySem.W.Frag) : He.FnW := match K.lookup (d.adr K) with
  | some ⟨_, _, .func fd, _⟩ => some (fd.name, fd.qualname, fd.params, fd.body, fd.scope, fd.globals, fd.closure, fd.builtins)
  | _ => none
def DefA.due (d : DefA) : He.FnW := some (d.name, d.qual, defArgs d.st, .stmts (defBody d.st), defScope d.st, mainGlobals, [], builtinsNs)
def DefA.dvs (K : PySem.W.Frag) (d : DefA) : List V := d.dfl.map (He.Dv.v K)
def DefA.kws (K : PySem.W.Frag) (d : DefA) : List (Str × V) := d.kwd.map fun q => (q.1, q.2.v K)
def DefA.fit (K : PySem.W.Frag) (d : DefA) : Bool := match K.lookup (d.adr K) with
  | some ⟨_, _, .func fd, _⟩ => PySem.W.keepIn K (.ref (d.adr K)) && (PySem.W.codeIn K fd.code d.qual && (He.dflB K fd.defaults (d.dvs K) && He.kwdB K fd.kwdefaults (d.kws K)))
  | _ => false
theorem DefA.fun_ {K : PySem.W.Frag} {d : DefA} (e : d.see K = d.due) (c : d.fit K = true) :
    ∃ fd, FunD K d.name d.qual (defArgs d.st) (defBody d.st) (defScope d.st) (d.dvs K) (d.kws K) (d.adr K) fd := by
  unfold DefA.see at e
  unfold DefA.fit at c
  split at e
  · rename_i oc od fd osl lk
    rw [lk] at c
    obtain ⟨nm, ql, pr, bd, sc, gl, cl, df, kd, dc, md, an, cd, ct, bt⟩ := fd
    injection e with e
    simp only [Prod.mk.injEq] at e
    obtain ⟨rfl, rfl, rfl, rfl, rfl, rfl, rfl, rfl⟩ := e
    obtain ⟨c1, c⟩ := He.ba c
    obtain ⟨c2, c⟩ := He.ba c
    obtain ⟨c3, c4⟩ := He.ba c
    exact ⟨_, ⟨oc, od, df, kd, dc, md, an, cd, ct, osl, rfl, lk, c2, He.dflB_ok c3, He.kwdB_ok c4⟩, c1⟩
  · cases e

abbrev SeenB : Type := Bool × List He.FnW
def seeB (fn : List DefA) (ex : PySem.W.Frag → Bool) (K : PySem.W.Frag) : SeenB := (ex K && fn.all fun d => d.fit K, fn.map fun d => d.see K)
def dueB (fn : List DefA) : SeenB := (true, fn.map DefA.due)
def SaysB (fn : List DefA) (ex : PySem.W.Frag → Bool) (K : PySem.W.Frag) : Prop := seeB fn ex K = dueB fn
def seeBG (n : Nat) (fn : List DefA) (ex : PySem.W.Frag → Bool) (g : Addr → Option Obj) : SeenB := seeB fn ex (He.frG g (He.asD g n ++ [cStatics]))
def hookB (n : Nat) (fn : List DefA) (ex : PySem.W.Frag → Bool) : PySem.W.Hook where
  α := SeenB
  obs := fun s => seeBG n fn ex s.heap.get?
  val := fun _ => dueB fn
  says := fun _ h => ∃ K : PySem.W.Frag, K.In h ∧ SaysB fn ex K
  of := fun _ _ e => ⟨_, He.frG_in, e⟩
  keeps := fun _ _ _ ⟨K, hK, c⟩ k => ⟨K, PySem.W.Frag.In.keeps hK k, c⟩
theorem seeBG_eq {n : Nat} {fn : List DefA} {ex : PySem.W.Frag → Bool} {g : Addr → Option Obj} {s : Shared} (h : ∀ a, g a = s.heap.get? a) : seeBG n fn ex g = (hookB n fn ex).obs s := by
  obtain rfl : g = s.heap.get? := funext h
  rfl
section
variable {fn : List DefA} {ex : PySem.W.Frag → Bool} {K : PySem.W.Frag}
theorem SaysB.more (c : SaysB fn ex K) : ex K = true := (He.ba (congrArg Prod.fst c)).1
theorem SaysB.def_ (c : SaysB fn ex K) (i : Nat) {d : DefA} (h : fn[i]? = some d := by rfl) :
    ∃ fd, FunD K d.name d.qual (defArgs d.st) (defBody d.st) (defScope d.st) (d.dvs K) (d.kws K) (d.adr K) fd := by
  have c2 := (He.ba (congrArg Prod.fst c)).2
  have e : fn.map (fun d => d.see K) = fn.map DefA.due := congrArg Prod.snd c
  have e2 := congrArg (fun l => l[i]?) e
  simp only [List.getElem?_map, h, Option.map_some] at e2
  exact DefA.fun_ (Option.some.inj e2) (List.all_eq_true.mp c2 d (List.mem_of_getElem? h))
end
/-- a def of the module; a method; a class method's def -/
def aG (x : Str) (K : PySem.W.Frag) : Addr := He.ga K x
def aM (c m : Str) (K : PySem.W.Frag) : Addr := He.ma K (He.ga K c) m
/-- the record of a class method, and its def -/
def cmRec (K : PySem.W.Frag) (p : Addr) : Addr := match PySem.W.recIn K p "classmethod" with
  | some (.ref g :: _) => g
  | _ => 0
def aC (c m : Str) (K : PySem.W.Frag) : Addr := cmRec K (He.ma K (He.ga K c) m)
def tyT : Value := .type "type"
def creadB (K : PySem.W.Frag) (c : Str) : Bool := PySem.W.readsIn K (He.ga K c) tyT && He.eqO (PySem.W.specialIn K (.ref (He.ga K c)) "__getattribute__") (some (some (.builtin "type.__getattribute__")))
theorem cread_ok {K : PySem.W.Frag} {c : Str} (h : creadB K c = true) : ClX.CRead K (He.ga K c) tyT := by
  obtain ⟨a, b⟩ := He.ba h
  exact ⟨a, He.eqO_ok b⟩
def cmetB (K : PySem.W.Frag) (c m : Str) : Bool := (match PySem.W.findCls K (.ref (He.ga K c)) tyT m with
  | some (.get (.builtin b) (.ref p) .none (.ref C)) => decide (b = "classmethod.__get__") && (decide (p = He.ma K (He.ga K c) m) && decide (C = He.ga K c))
  | _ => false) && ((match PySem.W.recIn K (He.ma K (He.ga K c) m) "classmethod" with
  | some (.ref _ :: _) => true
  | _ => false) && PySem.W.fnIn K (aC c m K))
theorem cmet_ok {K : PySem.W.Frag} {c m : Str} (h : cmetB K c m = true) : ClX.CMet K (He.ga K c) tyT m (He.ma K (He.ga K c) m) (aC c m K) := by
  unfold cmetB at h
  obtain ⟨h1, h⟩ := He.ba h
  obtain ⟨h2, h3⟩ := He.ba h
  refine ⟨?_, ?_, h3⟩
  · split at h1
    · rename_i b p C e
      obtain ⟨a1, a2⟩ := He.ba h1
      obtain ⟨a2, a3⟩ := He.ba a2
      rw [e, of_decide_eq_true a1, of_decide_eq_true a2, of_decide_eq_true a3]
    · cases h1
  · unfold aC cmRec
    split at h2
    · rename_i g rest e
      rw [e]
      exact ⟨rest, rfl⟩
    · cases h2
end BF
set_option maxHeartbeats 4000000
namespace BF
open PySem PySem.Spec PyProof.Rows L2
def top (i : Nat) : Stmt := PySem.Challenge.pw_betweenfaces_k04_numbers_in_order.main.body.getD i (.Pass ⟨0, 0, 0, 0⟩)
abbrev sIsInt : Stmt := top 7
abbrev sDivisor : Stmt := top 8
abbrev sRatio : Stmt := top 11
abbrev sInit : Stmt := inClass sRatio 0
abbrev FnP (K : PySem.W.Frag) (x q : Str) (st : Stmt) (f : Addr) (fd : FuncData) : Prop := FunD K x q (defArgs st) (defBody st) (defScope st) [] [] f fd

/-- the names of built-ins that the text leaves alone -/
structure Bl (mg : Str → Option Value) : Prop where
  isinstance : mg "isinstance" = none
  int : mg "int" = none
  bool : mg "bool" = none
  abs : mg "abs" = none
  len : mg "len" = none
  list : mg "list" = none
  range : mg "range" = none
  repr : mg "repr" = none
  str : mg "str" = none
/-- a value that is no integer -/
def NoInt (K : PySem.W.Frag) (H : Hp) (v : V) : Prop := (∃ b, v = .bl b) ∨ ∃ t, TyX K H v t ∧ PySem.W.kitOne K t (.type "int") = some false
def spIsInt (K : PySem.W.Frag) : Sp := fun vs H Q _ => ∃ v, vs = [v] ∧ ((∃ i, v = .int i) ∧ Q (.bl true) H ∨ NoInt K H v ∧ Q (.bl false) H)
section
variable {P : Program} {w : World} {K : PySem.W.Frag} {mg : Str → Option Value} {base : Heap} {CX : CXT} {f : Addr} {fd : FuncData}
theorem scIsInt : FnScope ["value"] ["value"] (defScope sIsInt) := ⟨rfl, rfl, rfl, by decide +kernel, rfl, by decide +kernel, by decide +kernel⟩
theorem ok_isint (B : Bl mg) (F : FnP K "is_integer" "is_integer" sIsInt f fd) : FnOk P w K mg base CX 1 f fd ["value"] (spIsInt K) := by
  refine F.ok scIsInt (fun vs H Q E h => ?_) (fun cdv A outer s H vs Q E hr h => ?_)
  · obtain ⟨v, rfl, _⟩ := h
    rfl
  · obtain ⟨v, rfl, h⟩ := h
    refine ⟨_, pss_one (ps_ret (pe_and
      (pe_callB call_isi (by rfl) B.isinstance boot_isinstance (pa_cons (pv 0) (pa_cons (pe_bltn (v := .ty "int") (by rfl) B.int boot_int rfl) pa_nil)))
      (pe_one (pe_not (pe_callB call_isi (by rfl) B.isinstance boot_isinstance (pa_cons (pv 0) (pa_cons (pe_bltn (v := .ty "bool") (by rfl) B.bool boot_bool rfl) pa_nil))))))), ?_⟩
    rcases h with ⟨⟨i, rfl⟩, q⟩ | ⟨⟨b, rfl⟩ | ⟨t, ty, e⟩, q⟩
    · exact ⟨_, rfl, _, _, _, _, true, rfl, .ty _, .base (.int i), kit_ty (by decide +kernel), true, rfl, iteT ⟨_, rfl, _, _, _, _, false, rfl, .ty _, .base (.int i), kit_ty (by decide +kernel), false, rfl, q⟩⟩
    · exact ⟨_, rfl, _, _, _, _, true, rfl, .ty _, .base (.bl b), kit_ty (by decide +kernel), true, rfl, iteT ⟨_, rfl, _, _, _, _, true, rfl, .ty _, .base (.bl b), kit_ty (by decide +kernel), true, rfl, q⟩⟩
    · exact ⟨_, rfl, _, _, _, _, false, rfl, .ty _, ty, e, false, rfl, iteF q⟩

def spDivisor : Sp := fun vs H Q _ => ∃ a b : Nat, vs = [.int a, .int b] ∧ Q (.int (a.gcd b : Nat)) H
theorem scDivisor : FnScope ["one", "other"] ["one", "other"] (defScope sDivisor) := ⟨rfl, rfl, rfl, by decide +kernel, rfl, by decide +kernel, by decide +kernel⟩
theorem ok_divisor (F : FnP K "divisor" "divisor" sDivisor f fd) : FnOk P w K mg base CX0 1 f fd ["one", "other"] spDivisor := by
  refine F.ok scDivisor (fun vs H Q E h => ?_) (fun cdv A outer s H vs Q E hr h => ?_)
  · obtain ⟨a, b, rfl, _⟩ := h
    rfl
  · obtain ⟨a, b, rfl, k⟩ := h
    refine ⟨_, PSs.nox (pss_cons (ps_while PassesOwn.never (pt_cmpR op_gt (pv 1) pe_int (nomark _))
      (pss_one (ps_par (i := 0) (j := 1) (by rfl) scDivisor.nd rfl rfl (by decide) rfl rfl (pa_cons (pv 1) (pa_cons (pe_op op_mod (pv 0) (pv 1)) pa_nil)) (by rfl)))) (pss_one (ps_ret (pv 0)))), ?_⟩
    refine while_by (fun σ H' => H' = H ∧ ∃ x y : Nat, σ = [some (.int x), some (.int y)] ∧ x.gcd y = a.gcd b) (fun σ _ => match σ with | [_, some (.int y)] => y.toNat | _ => 0) ⟨rfl, a, b, rfl, rfl⟩ ?_ ?_
    · rintro σ H' ⟨rfl, x, y, rfl, e⟩
      refine ⟨_, rfl, _, _, rfl, rfl, _, rfl, ite2 (fun hy => ?_) (fun hy => ?_)⟩
      · have hy' : (0 : Int) < y := of_decide_eq_true hy
        refine ⟨_, rfl, _, rfl, _, rfl, _, _, rfl, rfl, hy', _, _, rfl, ⟨rfl, y, x % y, rfl, ?_⟩, ?_⟩
        · rw [← e, Nat.gcd_comm y (x % y), ← Nat.gcd_rec, Nat.gcd_comm]
        · show ((x : Int) % (y : Int)).toNat < (y : Int).toNat
          have := Nat.mod_lt x (show y > 0 by omega)
          omega
      · have hy' : ¬ (0 : Int) < y := fun z => hy (decide_eq_true z)
        have y0 : y = 0 := by omega
        subst y0
        refine ⟨_, rfl, ?_⟩
        rw [Nat.gcd_zero_right] at e
        rw [e]
        exact k
    · rintro σ H' Q1 Q2 m ⟨v, e, _, _, h1, h2, _, h3, h4⟩
      exact ⟨v, e, _, _, h1, h2, _, h3, m _ _ h4⟩

/-! ### Ratio.__init__ -/
/-- the class of fractions and its error -/
structure RT (K : PySem.W.Frag) (mg : Str → Option Value) (C CI fI fD : Addr) : Prop where
  cl : Cls K C
  nT : NoAttr K C "top"
  nB : NoAttr K C "bottom"
  mgC : mg "Ratio" = some (.ref C)
  mgI : mg "is_integer" = some (.ref fI)
  mgD : mg "divisor" = some (.ref fD)
  mgE : mg "InvalidRatio" = some (.ref CI)
  xE : PySem.W.excIn K CI He.veBase "ValueError.__new__" = true
  kE : PySem.W.keepIn K (.ref CI) = true
  bE : PySem.W.subIn K (.ref CI) (.type "BaseException") = some true
  tE : PySem.W.typeIn K (.ref CI) = some (.type "type")
def spInit (K : PySem.W.Frag) (C CI : Addr) : Sp := fun vs H Q E => ∃ (p dx : Addr) (x y : V), vs = [.ref p, x, y] ∧ H p = some (.ins C dx []) ∧
  ((∃ (t b : Int), x = .int t ∧ y = .int b ∧ b ≠ 0 ∧ t.natAbs < 2 ^ 8000 ∧ b.natAbs < 2 ^ 8000 ∧ Q .non (upd H p (.ins C dx (rf (Rat.divInt t b).num (Rat.divInt t b).den)))) ∨
   ((NoInt K H x ∨ (∃ i, x = .int i) ∧ (NoInt K H y ∨ y = .int 0)) ∧ E (.ref CI) none H))
theorem scInit : FnScope ["self", "top", "bottom", "common"] ["self", "top", "bottom"] (defScope sInit) := ⟨rfl, rfl, rfl, by decide +kernel, rfl, by decide +kernel, by decide +kernel⟩
theorem ok_init {C CI fI fD : Addr} {fdI fdD : FuncData} {dvs : List V} (B : Bl mg) (T : RT K mg C CI fI fD) (FI : FnP K "is_integer" "is_integer" sIsInt fI fdI) (FD : FnP K "divisor" "divisor" sDivisor fD fdD)
    (F : FunD K "__init__" "Ratio.__init__" (defArgs sInit) (defBody sInit) (defScope sInit) dvs [] f fd) : FnOk P w K mg base (L2.CX P w) 2 f fd ["self", "top", "bottom"] (spInit K C CI) := by
  have GI : FnOk P w K mg base CX0 1 fI fdI ["value"] (spIsInt K) := ok_isint B FI
  have GD : FnOk P w K mg base CX0 1 fD fdD ["one", "other"] spDivisor := ok_divisor FD
  have bI : Binds K fdI ["value"] [] := FI.bindsN fun _ _ _ _ _ _ us hl => match us, hl with | [_], _ => rfl
  have bD : Binds K fdD ["one", "other"] [] := FD.bindsN fun _ _ _ _ _ _ us hl => match us, hl with | [_, _], _ => rfl
  refine F.ok scInit (fun vs H Q E h => ?_) (fun cdv A outer s H vs Q E hr h => ?_)
  · obtain ⟨p, dx, x, y, rfl, _⟩ := h
    rfl
  · obtain ⟨p, dx, x, y, rfl, hp, h⟩ := h
    refine ⟨_, pss_cons (ps_if (PW.pt (pw_or (pt_not (pt_val (pe_call GI hr (by rfl) T.mgI FI.kp bI .nil pass0 (pa_cons (pv 1) pa_nil))))
        (pw_or (pt_not (pt_val (pe_call GI hr (by rfl) T.mgI FI.kp bI .nil pass0 (pa_cons (pv 2) pa_nil)))) (pw_or1 (pt_cmpR op_eq (pv 2) pe_int (nomark _))))))
        (pss_one (ps_raise (by rfl) (takes_of rfl rfl rfl rfl) (pmk_own0 PySem.F.excBase_ValueError T.xE T.mgE T.kE (raises_own T.bE T.tE) (by rfl)))) pss_nil)
      (pss_cons (ps_set (i := 3) scInit.nd rfl (Or.inl rfl) (pe_call GD hr (by rfl) T.mgD FD.kp bD .nil pass0
        (pa_cons (pe_callB call_abs (by rfl) B.abs (by decide +kernel) (pa_cons (pv 1) pa_nil)) (pa_cons (pe_callB call_abs (by rfl) B.abs (by decide +kernel) (pa_cons (pv 2) pa_nil)) pa_nil))))
      (pss_cons (ps_if (pt_cmpR op_lt (pv 2) pe_int (nomark _)) (pss_one (ps_set (i := 1) scInit.nd rfl (Or.inl rfl) (pe_un un_neg (pv 1)))) pss_nil)
      (pss_cons (ps_fld (pv 0) (pe_op op_fdivW (pv 1) (pv 3)) rfl)
      (pss_one (ps_fld (pv 0) (pe_op op_fdivW (pe_callB call_abs (by rfl) B.abs (by decide +kernel) (pa_cons (pv 2) pa_nil)) (pv 3)) rfl))))), ?_⟩
    rcases h with ⟨t, b, rfl, rfl, hb, ht8, hb8, k⟩ | ⟨h, k⟩
    · have at_ : ∀ z : Int, (if z < 0 then -z else z) = (z.natAbs : Int) := fun z => by split <;> omega
      have hbz : ¬ V.int b = V.int 0 := fun z => hb (V.int.inj z)
      have hg : 0 < t.natAbs.gcd b.natAbs := Nat.gcd_pos_of_pos_right _ (by omega)
      have hgI : (0 : Int) < ((t.natAbs.gcd b.natAbs : Nat) : Int) := by omega
      have hg8 : (((t.natAbs.gcd b.natAbs : Nat) : Int)).natAbs < 2 ^ 8000 := Nat.lt_of_le_of_lt (Nat.gcd_le_right _ (by omega)) hb8
      have wd : ∀ z : Int, CDivW z ((t.natAbs.gcd b.natAbs : Nat) : Int) := fun z => wide_div hgI hg8 (by decide) (by decide)
      refine ⟨_, rfl, _, rfl, .inl ⟨⟨t, rfl⟩, true, rfl, iteF ⟨_, rfl, _, rfl, .inl ⟨⟨b, rfl⟩, true, rfl, iteF ⟨_, rfl, rfl, _, rfl, ?_⟩⟩⟩⟩⟩
      rw [decide_eq_false hbz]
      refine iteF ⟨_, rfl, t, rfl, _, rfl, b, rfl, t.natAbs, b.natAbs, by rw [at_, at_] <;> rfl, ?_⟩
      have fin : ∀ z : Int, z = (if b < 0 then -t else t) → (tSeq (sFld K (tVar 0) (tOp (rI CDivW fun i j => V.int (i / j)) (tVar 1) (tVar 3)) "top")
          (sFld K (tVar 0) (tOp (rI CDivW fun i j => V.int (i / j)) (tCB (fun xs H Q => ∃ i, xs = [V.int i] ∧ Q (V.int (if i < 0 then -i else i)) H) (tCons (tVar 2) tNil)) (tVar 3)) "bottom"))
          { nx := fun _ H' => Q .non H', rt := Q } [some (.ref p), some (.int z), some (.int b), some (.int (t.natAbs.gcd b.natAbs : Nat))] H := by
        intro z ez
        refine ⟨_, rfl, _, rfl, _, _, rfl, rfl, wd _, _, rfl, p, C, dx, [], rfl, hp, T.cl, T.nT, by decide, ?_⟩
        refine ⟨_, rfl, b, rfl, _, rfl, _, _, rfl, rfl, wd _, _, rfl, p, C, dx, _, rfl, upd_same, T.cl, T.nB, (by show 1 < 1000; decide), ?_⟩
        rw [upd_upd, rf_put, at_, ez, ← num_nrm t b hb, ← den_nrm t b hb]
        exact k
      refine ⟨_, rfl, _, _, rfl, rfl, _, rfl, ite2 (fun hn => ?_) (fun hn => ?_)⟩
      · refine ⟨_, rfl, t, rfl, ?_⟩
        exact fin (-t) (by rw [if_pos (of_decide_eq_true hn)])
      · exact fin t (by rw [if_neg fun z => hn (decide_eq_true z)])
    · rcases h with h | ⟨⟨i, rfl⟩, h | rfl⟩
      · exact ⟨_, rfl, x, rfl, .inr ⟨h, false, rfl, iteT (iteT k)⟩⟩
      · exact ⟨_, rfl, _, rfl, .inl ⟨⟨i, rfl⟩, true, rfl, iteF ⟨_, rfl, y, rfl, .inr ⟨h, false, rfl, iteT (iteT k)⟩⟩⟩⟩
      · refine ⟨_, rfl, _, rfl, .inl ⟨⟨i, rfl⟩, true, rfl, iteF ⟨_, rfl, _, rfl, .inl ⟨⟨0, rfl⟩, true, rfl, iteF ⟨_, rfl, rfl, _, rfl, ?_⟩⟩⟩⟩⟩
        rw [decide_eq_true rfl]
        exact iteT k
end
end BF
set_option maxHeartbeats 4000000
namespace BF
open PySem PySem.Spec PyProof.Rows L2
abbrev sOf : Stmt := inClass sRatio 1
abbrev sUnder : Stmt := inClass sRatio 3
abbrev sEq : Stmt := inClass sRatio 9
abbrev sRepr : Stmt := inClass sRatio 12
section
variable {P : Program} {w : World} {K : PySem.W.Frag} {mg : Str → Option Value} {base : Heap} {CX : CXT} {f : Addr} {fd : FuncData} {C CI fI fD : Addr}
/-- what the program's code asks of two fractions: products of them stay within the machine's line -/
def Bd2 (q r : Rat) : Prop := ∃ n m, Bd n q ∧ Bd m r ∧ n + m ≤ 100000
theorem Bd2.mul {q r : Rat} (h : Bd2 q r) : CMulW q.num r.den ∧ CMulW r.num q.den ∧ CMulW q.num r.num ∧ CMulW q.den r.den := by
  obtain ⟨n, m, hq, hr, l⟩ := h
  have a1 := hq.mono (Nat.le_succ n)
  have a2 := hr.mono (Nat.le_succ m)
  have d1 : ((q.den : Int)).natAbs < 2 ^ (n + 1) := by rw [Int.natAbs_natCast]; exact a1.2
  have d2 : ((r.den : Int)).natAbs < 2 ^ (m + 1) := by rw [Int.natAbs_natCast]; exact a2.2
  exact ⟨wide_mul a1.1 d2 (by omega) (by omega) (by omega), wide_mul a2.1 d1 (by omega) (by omega) (by omega), wide_mul a1.1 a2.1 (by omega) (by omega) (by omega), wide_mul d1 d2 (by omega) (by omega) (by omega)⟩
def spUnder (C : Addr) : Sp := fun vs H Q _ => ∃ x y q r, vs = [x, y] ∧ RatV C H x q ∧ RatV C H y r ∧ Bd2 q r ∧ Q (.bl (decide (q < r))) H
theorem scUnder : FnScope ["self", "other"] ["self", "other"] (defScope sUnder) := ⟨rfl, rfl, rfl, by decide +kernel, rfl, by decide +kernel, by decide +kernel⟩
theorem ok_under (T : RT K mg C CI fI fD) (F : FnP K "under" "Ratio.under" sUnder f fd) : FnOk P w K mg base CX0 1 f fd ["self", "other"] (spUnder C) := by
  refine F.ok scUnder (fun vs H Q E h => ?_) (fun cdv A outer s H vs Q E hr h => ?_)
  · obtain ⟨x, y, q, r, rfl, _⟩ := h
    rfl
  · obtain ⟨x, y, q, r, rfl, ⟨p, rfl, dx, hx⟩, ⟨p', rfl, dx', hy⟩, b2, k⟩ := h
    refine ⟨_, PSs.nox (pss_one (ps_ret (pe_cmpR op_lt (pe_op op_mulW (pe_fld (pv 0) rfl) (pe_fld (pv 1) rfl)) (pe_op op_mulW (pe_fld (pv 1) rfl) (pe_fld (pv 0) rfl)) (nomark _)))), ?_⟩
    refine ⟨_, rfl, p, C, dx, _, _, rfl, hx, T.cl, T.nT, rf_top _ _, _, rfl, p', C, dx', _, _, rfl, hy, T.cl, T.nB, rf_bottom _ _, _, _, rfl, rfl, b2.mul.1, ?_⟩
    refine ⟨_, rfl, p', C, dx', _, _, rfl, hy, T.cl, T.nT, rf_top _ _, _, rfl, p, C, dx, _, _, rfl, hx, T.cl, T.nB, rf_bottom _ _, _, _, rfl, rfl, b2.mul.2.1, _, _, rfl, rfl, ?_⟩
    have e : decide (q < r) = decide (q.num * (r.den : Int) < r.num * (q.den : Int)) := by
      rw [decide_eq_decide]
      exact Rat.lt_iff q r
    rw [e] at k
    exact k

/-! ### == -/
/-- the type of a fraction, for isinstance -/
structure RTy (K : PySem.W.Frag) (C : Addr) : Prop where
  ha : PySem.W.findIn K (.ref C) "__class__" = some (some (.builtin "object.__class__"))
  hn : PySem.W.specialIn K (.builtin "object.__class__") "__get__" = some (some (.builtin "getset_descriptor.__get__"))
  htk : PySem.W.takesIn K (.builtin "object.__class__") = some true
  hm : PySem.W.mroIn K C (.type "object") = some true
theorem RTy.ty {H : Hp} {p dx : Addr} {fs : List (Str × V)} (t : RTy K C) (c : Cls K C) (h : H p = some (.ins C dx fs)) : TyX K H (.ref p) (.ref C) := .base (.ins h c t.ha t.hn t.htk t.hm)
theorem kit_self {K : PySem.W.Frag} (t : Value) : PySem.W.kitOne K t t = some true := by
  unfold PySem.W.kitOne
  rw [if_pos (by simp)]
def spEq (C : Addr) : Sp := fun vs H Q _ => ∃ x y q r, vs = [x, y] ∧ RatV C H x q ∧ RatV C H y r ∧ Q (.bl (decide (q = r))) H
theorem scEq : FnScope ["self", "other"] ["self", "other"] (defScope sEq) := ⟨rfl, rfl, rfl, by decide +kernel, rfl, by decide +kernel, by decide +kernel⟩
theorem rat_eq_iff (q r : Rat) : q = r ↔ q.num = r.num ∧ (q.den : Int) = r.den := by
  constructor
  · rintro rfl
    exact ⟨rfl, rfl⟩
  · rintro ⟨a, b⟩
    exact Rat.ext a (by omega)
theorem ok_eq (B : Bl mg) (T : RT K mg C CI fI fD) (Y : RTy K C) (F : FnP K "__eq__" "Ratio.__eq__" sEq f fd) : FnOk P w K mg base CX0 1 f fd ["self", "other"] (spEq C) := by
  refine F.ok scEq (fun vs H Q E h => ?_) (fun cdv A outer s H vs Q E hr h => ?_)
  · obtain ⟨x, y, q, r, rfl, _⟩ := h
    rfl
  · obtain ⟨x, y, q, r, rfl, ⟨p, rfl, dx, hx⟩, ⟨p', rfl, dx', hy⟩, k⟩ := h
    refine ⟨_, PSs.nox (pss_cons (ps_if (pt_not (pt_val (pe_callB call_isi (by rfl) B.isinstance boot_isinstance (pa_cons (pv 1) (pa_cons (pe_glob (v := .ref C) (by rfl) T.mgC rfl) pa_nil))))) (pss_one (ps_ret pe_bl)) pss_nil)
      (pss_one (ps_ret (pe_and (pe_cmpR op_eq (pe_fld (pv 0) rfl) (pe_fld (pv 1) rfl) (nomark _)) (pe_one (pe_cmpR op_eq (pe_fld (pv 0) rfl) (pe_fld (pv 1) rfl) (nomark _))))))), ?_⟩
    refine ⟨_, rfl, _, _, _, _, true, rfl, .own C, Y.ty T.cl hy, kit_self _, true, rfl, iteF ?_⟩
    refine ⟨_, rfl, p, C, dx, _, _, rfl, hx, T.cl, T.nT, rf_top _ _, _, rfl, p', C, dx', _, _, rfl, hy, T.cl, T.nT, rf_top _ _, rfl, _, rfl, ite2 (fun e => ?_) (fun e => ?_)⟩
    · have e1 : q.num = r.num := V.int.inj (of_decide_eq_true e)
      refine ⟨_, rfl, p, C, dx, _, _, rfl, hx, T.cl, T.nB, rf_bottom _ _, _, rfl, p', C, dx', _, _, rfl, hy, T.cl, T.nB, rf_bottom _ _, rfl, ?_⟩
      have e2 : decide (V.int (q.den : Int) = V.int (r.den : Int)) = decide (q = r) := by
        rw [decide_eq_decide, rat_eq_iff q r]
        exact ⟨fun z => ⟨e1, V.int.inj z⟩, fun z => by rw [z.2]⟩
      rw [e2]
      exact k
    · have e1 : ¬ q = r := fun z => e (decide_eq_true (by rw [z]))
      rw [decide_eq_false e1] at k
      exact k
end
end BF
set_option maxHeartbeats 4000000
namespace BF
open PySem PySem.Spec PyProof.Rows L2
section
variable {P : Program} {w : World} {K : PySem.W.Frag} {mg : Str → Option Value} {base : Heap} {CX : CXT} {f : Addr} {fd : FuncData} {C CI fI fD : Addr}
/-! ### repr -/
def rtxt (q : Rat) : Str := Str.empty ++ "Ratio(" ++ (toString q.num : String) ++ ", " ++ (toString (q.den : Int) : String) ++ ")"
def Shown (q : Rat) : Prop := q.num.natAbs.log2 < 1920 ∧ ((q.den : Int)).natAbs.log2 < 1920
def spRepr (C : Addr) : Sp := fun vs H Q _ => ∃ x q, vs = [x] ∧ RatV C H x q ∧ Shown q ∧ Q (.str (rtxt q)) H
theorem scRepr : FnScope ["self"] ["self"] (defScope sRepr) := ⟨rfl, rfl, rfl, by decide +kernel, rfl, by decide +kernel, by decide +kernel⟩
theorem slen (a b : Str) : (a ++ b).length = a.length + b.length := PySem.strLen_append a b
theorem ok_repr (T : RT K mg C CI fI fD) (F : FnP K "__repr__" "Ratio.__repr__" sRepr f fd) : FnOk P w K mg base CX0 1 f fd ["self"] (spRepr C) := by
  refine F.ok scRepr (fun vs H Q E h => ?_) (fun cdv A outer s H vs Q E hr h => ?_)
  · obtain ⟨x, q, rfl, _⟩ := h
    rfl
  · obtain ⟨x, q, rfl, ⟨p, rfl, dx, hx⟩, ⟨s1, s2⟩, k⟩ := h
    have l1 := int_text_len_1921 s1
    have l2 := int_text_len_1921 s2
    have z0 : (Str.empty : Str).length = 0 := rfl
    have z1 : ((("Ratio(" : String) : Str)).length = 6 := rfl
    have z2 : (((", " : String) : Str)).length = 2 := rfl
    have z3 : (((")" : String) : Str)).length = 1 := rfl
    have sl : sizeLine = 16777216 := by decide
    refine ⟨_, PSs.nox (pss_one (ps_ret (pe_joined (.cons pe_str (.cons (pe_fmt (pe_fld (pv 0) rfl)) (.cons pe_str (.cons (pe_fmt (pe_fld (pv 0) rfl)) (.cons pe_str .nil)))))))), ?_⟩
    refine ⟨_, rfl, by decide, _, rfl, p, C, dx, _, _, rfl, hx, T.cl, T.nT, rf_top _ _, .inr ⟨_, rfl, s1, _, rfl, ?_, ?_⟩⟩
    · simp only [slen]; omega
    refine ⟨_, rfl, ?_, _, rfl, p, C, dx, _, _, rfl, hx, T.cl, T.nB, rf_bottom _ _, .inr ⟨_, rfl, s2, _, rfl, ?_, _, rfl, ?_, k⟩⟩
    all_goals (simp only [slen]; omega)

/-! ### of -/
/-- a number: an integer or a fraction -/
def Num (C : Addr) (H : Hp) (v : V) (q : Rat) : Prop := RatV C H v q ∨ ∃ i : Int, v = .int i ∧ q = Rat.divInt i 1 ∧ i.natAbs < 2 ^ 8000
theorem Num.up {H H' : Hp} {v : V} {q : Rat} (h : Num C H v q) (s : Same H H') : Num C H' v q := h.imp (fun z => z.up s) id
structure RT2 (K : PySem.W.Frag) (C fN pO fO : Addr) : Prop where
  mkr : Mk K C fN
  cr : ClX.CRead K C tyT
  cm : ClX.CMet K C tyT "of" pO fO
  iC : PySem.W.kitOne K (.type "int") (.ref C) = some false
def spOf (C : Addr) : Sp := fun vs H Q _ => ∃ v q, vs = [.ref C, v] ∧ Num C H v q ∧ ∀ H' v', Same H H' → RatV C H' v' q → Q v' H'
theorem scOf : FnScope ["cls", "number"] ["cls", "number"] (defScope sOf) := ⟨rfl, rfl, rfl, by decide +kernel, rfl, by decide +kernel, by decide +kernel⟩
theorem one8 : (1 : Int).natAbs < 2 ^ 8000 := Nat.one_lt_two_pow (by decide)
/-- a fraction made: what __init__ leaves -/
theorem made {H : Hp} {t b : Int} {Q : VK} (k : ∀ H' v', Same H H' → RatV C H' v' (Rat.divInt t b) → Q v' H') :
    ∀ x dx : Addr, H x = none → H dx = none → dx ≠ x → Q (.ref x) (upd (upd (upd H dx (.own x)) x (.ins C dx [])) x (.ins C dx (rf (Rat.divInt t b).num (Rat.divInt t b).den))) := by
  intro x dx nx nd ne
  refine k _ _ (fun a o e => ?_) ⟨x, rfl, dx, upd_same⟩
  have n1 := ne_of_none e nx
  rw [upd_ne n1, upd_ne n1, upd_ne (ne_of_none e nd)]
  exact e
theorem ok_of {fN fO pO : Addr} {fdI fdD fdN : FuncData} (B : Bl mg) (T : RT K mg C CI fI fD) (Y : RTy K C) (T2 : RT2 K C fN pO fO) (FI : FnP K "is_integer" "is_integer" sIsInt fI fdI) (FD : FnP K "divisor" "divisor" sDivisor fD fdD)
    (FN : FunD K "__init__" "Ratio.__init__" (defArgs sInit) (defBody sInit) (defScope sInit) [.int 1] [] fN fdN)
    (F : FnP K "of" "Ratio.of" sOf f fd) : FnOk P w K mg base (L2.CX P w) 4 f fd ["cls", "number"] (spOf C) := by
  have GN : FnOk P w K mg base (L2.CX P w) 2 fN fdN ["self", "top", "bottom"] (spInit K C CI) := ok_init B T FI FD FN
  obtain ⟨ds, hds, bN⟩ := FN.binds1 (ps := ["self", "top", "bottom"]) 2 0 (List.cons_ne_nil _ _) rfl fun _ _ _ _ _ _ _ us its hu hi => match us, its, hu, hi with | [_, _], [_], _, _ => ⟨_, rfl, rfl⟩
  refine F.ok scOf (fun vs H Q E h => ?_) (fun cdv A outer s H vs Q E hr h => ?_)
  · obtain ⟨v, q, rfl, _⟩ := h
    rfl
  · obtain ⟨v, q, rfl, hv, k⟩ := h
    refine ⟨_, pss_cons (ps_if (pt_val (pe_callB call_isi (by rfl) B.isinstance boot_isinstance (pa_cons (pv 1) (pa_cons (pe_glob (v := .ref C) (by rfl) T.mgC rfl) pa_nil)))) (pss_one (ps_ret (pv 1))) pss_nil)
      (pss_one (ps_ret (pe_make T2.mkr GN hr (by rfl) T.mgC bN hds passL (pa_cons (pv 1) pa_nil)))), ?_⟩
    rcases hv with hv | ⟨i, rfl, rfl, h8⟩
    · obtain ⟨p, rfl, dx, hp⟩ := id hv
      exact ⟨_, rfl, _, _, _, _, true, rfl, .own C, Y.ty T.cl hp, kit_self _, true, rfl, iteT ⟨_, rfl, k H _ (Same.refl H) hv⟩⟩
    · refine ⟨_, rfl, _, _, _, _, false, rfl, .own C, .base (.int i), T2.iC, false, rfl, iteF ⟨_, rfl, fun x dx nx nd ne => ?_⟩⟩
      exact ⟨x, dx, _, _, rfl, upd_same, .inl ⟨i, 1, rfl, rfl, by decide, h8, one8, rfl, made k x dx nx nd ne⟩⟩
end
end BF
set_option maxHeartbeats 4000000
namespace BF
open PySem PySem.Spec PyProof.Rows L2
abbrev sAsc : Stmt := top 12
abbrev sLeast : Stmt := top 13
abbrev sGreatest : Stmt := top 14
section
variable {P : Program} {w : World} {K : PySem.W.Frag} {mg : Str → Option Value} {base : Heap} {CX : CXT} {f : Addr} {fd : FuncData} {C CI fI fD : Addr}
theorem under_no (q : Rat) : (rf q.num q.den).lookup ("under" : Str) = none := rf_none _ _ (by decide +kernel) (by decide +kernel)
theorem bd2_of {q r : Rat} (a : Bd 8000 q) (b : Bd 8000 r) : Bd2 q r := ⟨8000, 8000, a, b, by decide⟩
/-- the list of some numbers at a -/
def NumsAt (C : Addr) (H : Hp) (a : Addr) (xs : List V) (qs : List Rat) : Prop := H a = some (.lst xs) ∧ Paired (Num C H) xs qs ∧ (∀ q ∈ qs, Bd 8000 q) ∧ xs.length ≤ 1000
def spAsc (C : Addr) : Sp := fun vs H Q _ => ∃ a xs qs, vs = [.ref a] ∧ NumsAt C H a xs qs ∧
  ∀ H' l ys, Same H H' → H l = none → H' l = some (.lst ys) → Paired (RatV C H') ys (ascR qs) → Q (.ref l) H'
theorem scAsc : FnScope ["numbers", "found", "number", "ratio", "at"] ["numbers"] (defScope sAsc) := ⟨rfl, rfl, rfl, by decide +kernel, rfl, by decide +kernel, by decide +kernel⟩
theorem ok_asc {fO pO fN fU : Addr} {fdO fdU : FuncData} (B : Bl mg) (T : RT K mg C CI fI fD) (T2 : RT2 K C fN pO fO) (mU : Meth K C "under" fU)
    (GO : FnOk P w K mg base (L2.CX P w) 4 fO fdO ["cls", "number"] (spOf C)) (bO : Binds K fdO ["cls", "number"] [])
    (GU : FnOk P w K mg base CX0 1 fU fdU ["self", "other"] (spUnder C)) (bU : Binds K fdU ["self", "other"] [])
    (F : FnP K "ascending" "ascending" sAsc f fd) : FnOk P w K mg base CX0 5 f fd ["numbers"] (spAsc C) := by
  refine F.ok scAsc (fun vs H Q E h => ?_) (fun cdv A outer s H vs Q E hr h => ?_)
  · obtain ⟨a, xs, qs, rfl, _⟩ := h
    rfl
  · obtain ⟨a, xs, qs, rfl, ⟨ha, hxs, hbd, hlen⟩, k⟩ := h
    have hr1 : Room 1 (A.deeper (envOfC "ascending" (defScope sAsc) s.heap.objs.size f cdv)) := hr.mono (by decide)
    refine ⟨_, PSs.nox (pss_cons (ps_set (i := 1) scAsc.nd rfl (.inl rfl) (pe_lst pa_nil))
      (pss_cons (ps_for PassesOwn.never rfl (pi_list (pv 0)) (pg_name (i := 2) scAsc.nd rfl (.inl rfl))
        (pss_cons (ps_set (i := 3) scAsc.nd rfl (.inl rfl) (ClX.pe_cmeth (pe_glob (v := .ref C) (by rfl) T.mgC rfl) T2.cr T2.cm (GO.raw bO .nil) hr passL (pa_cons (pv 2) pa_nil)))
        (pss_cons (ps_set (i := 4) scAsc.nd rfl (.inl rfl) pe_int)
        (pss_cons (ps_while PassesOwn.never (pt_mono (PW.pt (pw_and (pt_cmpR op_lt (pv 4) (pe_callB call_len_seq (by rfl) B.len PySem.boot_len (pa_cons (pv 1) pa_nil)) (nomark _))
            (pw_and1 (pt_val (pe_meth (pe_ix ix_list (pv 1) (pv 4) (fun _ _ => rfl)) T.cl mU GU hr1 bU .nil pass0 (pa_cons (pv 3) pa_nil)))))))
          (pss_one (ps_aug (i := 4) scAsc.nd rfl (.inl rfl) pe_int ip_add)))
        (pss_one (ps_if (PW.pt (pw_or (pt_cmpR op_eq (pv 4) (pe_callB call_len_seq (by rfl) B.len PySem.boot_len (pa_cons (pv 1) pa_nil)) (nomark _))
            (pw_or1 (pt_val (pe_meth (pv 3) T.cl mU GU hr1 bU .nil pass0 (pa_cons (pe_ix ix_list (pv 1) (pv 4) (fun _ _ => rfl)) pa_nil))))))
          (pss_one (ps_expr (pe_bm PySem.F.plainAttrs_list PySem.F.slot_list_insert PySem.F.type_list_insert mt_insert (pv 1) (pa_cons (pv 4) (pa_cons (pv 3) pa_nil))))) pss_nil))))))
      (pss_one (ps_ret (pv 1))))), ?_⟩
    refine ⟨Nat.zero_le _, fun p hp => ?_⟩
    refine ⟨_, rfl, a, rfl, ⟨_, SqL.of (same_upd hp _ _ ha)⟩, for_list (K := K) (a := a) (xs := xs) (fun i σ H' => ∃ ys n v m, σ = [some (.ref a), some (.ref p), n, v, m] ∧ Same H H' ∧ H' p = some (.lst ys) ∧ Paired (RatV C H') ys (ascR (qs.take i)))
      ⟨[], none, none, none, rfl, same_upd hp, upd_same, .nil⟩ (fun i σ H' _ ⟨_, _, _, _, _, sm, _⟩ => SqL.of (sm _ _ ha)) ?_ ?_⟩
    · rintro i x σ H' hx ⟨ys, n, v, m, rfl, sm, hl, hys⟩
      obtain ⟨q, hq, nx⟩ := Pd.get hxs hx
      have hq8 : Bd 8000 q := hbd q (List.mem_of_getElem? hq)
      have tk : qs.take (i + 1) = qs.take i ++ [q] := by rw [List.take_add_one, hq]; rfl
      have L8 : ∀ r ∈ ascR (qs.take i), Bd 8000 r := fun r hr => hbd r (List.mem_of_mem_take (ascR_mem hr))
      have ll : ys.length ≤ 1000 := by
        rw [Pd.len hys]
        have h1 := ascR_len (qs.take i)
        have h2 : (qs.take i).length ≤ qs.length := by rw [List.length_take]; omega
        have h3 := Pd.len hxs
        omega
      have eL : ascR (qs.take (i + 1)) = insR q (ascR (qs.take i)) := by rw [tk, ascR_snoc]
      generalize ascR (qs.take i) = L at hys L8 eL
      refine ⟨rfl, _, rfl, x, q, rfl, nx.up sm, fun H1 v1 e1 hv1 => ?_⟩
      have hl1 := e1 _ _ hl
      have hys1 : Paired (RatV C H1) ys L := Pd.imp hys fun _ _ z => z.up e1
      obtain ⟨pv1, rfl, dv1, hpv1⟩ := id hv1
      have ltL : ∀ k : Nat, k < ys.length → ∃ y r pr dr, ys[k]? = some y ∧ L[k]? = some r ∧ y = .ref pr ∧ H1 pr = some (.ins C dr (rf r.num r.den)) := fun k hk => by
        obtain ⟨r, h1, h2⟩ := Pd.get hys1 (List.getElem?_eq_getElem hk)
        obtain ⟨pr, e, dr, h3⟩ := h2
        exact ⟨_, r, pr, dr, List.getElem?_eq_getElem hk, h1, e, h3⟩
      refine while_by (fun σ H2 => H2 = H1 ∧ ∃ k : Nat, σ = [some (.ref a), some (.ref p), some x, some (.ref pv1), some (.int k)] ∧ k ≤ ys.length ∧ ∀ r ∈ L.take k, r < q)
        (fun σ _ => match σ with | [_, _, _, _, some (.int k)] => ys.length - k.toNat | _ => 0) ⟨rfl, 0, rfl, Nat.zero_le _, (fun r hr => by simp at hr)⟩ ?_ monoT
      rintro σ H2 ⟨rfl, k, rfl, hk, pre⟩
      have ex := insR_at (q := q) (L := L) (k := k) (by rw [← Pd.len hys]; exact hk) pre
      have put : insR q L = L.take k ++ [q] ++ L.drop k → ∃ ys' n v m, [some (V.ref a), some (V.ref p), some x, some (V.ref pv1), some (V.int k)] = [some (V.ref a), some (V.ref p), n, v, m] ∧ Same H (upd H2 p (.lst (ys.take (k : Int).toNat ++ [V.ref pv1] ++ ys.drop (k : Int).toNat))) ∧
          (upd H2 p (.lst (ys.take (k : Int).toNat ++ [V.ref pv1] ++ ys.drop (k : Int).toNat))) p = some (.lst ys') ∧ Paired (RatV C (upd H2 p (.lst (ys.take (k : Int).toNat ++ [V.ref pv1] ++ ys.drop (k : Int).toNat)))) ys' (ascR (qs.take (i + 1))) := fun e => by
        have up : ∀ v r, RatV C H2 v r → RatV C (upd H2 p (.lst (ys.take (k : Int).toNat ++ [V.ref pv1] ++ ys.drop (k : Int).toNat))) v r := fun v r ⟨z, e1, dx, e2⟩ => ⟨z, e1, dx, by rw [upd_ne (ne_of e2 hl1 (by intro z; cases z))]; exact e2⟩
        refine ⟨_, _, _, _, rfl, fun b o z => ?_, upd_same, ?_⟩
        · rw [upd_ne (ne_of_none z hp)]
          exact e1 _ _ (sm _ _ z)
        · rw [eL, e, Int.toNat_natCast]
          exact Pd.append (Pd.append (Pd.imp (Pd.take k hys1) up) (.cons (up _ _ hv1) .nil)) (Pd.imp (Pd.drop k hys1) up)
      rcases Nat.lt_or_ge k ys.length with hlt | hge
      · obtain ⟨y, r, pr, dr, gy, gr, rfl, hpr⟩ := ltL k hlt
        have hvr : RatV C H2 (.ref pr) r := ⟨pr, rfl, dr, hpr⟩
        have b2 : Bd2 r q := bd2_of (L8 r (List.mem_of_getElem? gr)) hq8
        have b2' : Bd2 q r := bd2_of hq8 (L8 r (List.mem_of_getElem? gr))
        refine ⟨_, ⟨_, rfl, _, rfl, p, ys, rfl, .inl (SqL.of hl1), _, _, rfl, rfl, _, rfl, ?_⟩, fun _ _ z => z⟩
        rw [decide_eq_true (show (k : Int) < (ys.length : Int) by omega)]
        refine iteT ⟨_, rfl, _, rfl, p, ys, k, _, rfl, rfl, SqL.of hl1, atI_nat gy, pr, dr, _, rfl, hpr, under_no r, _, rfl, _, _, r, q, rfl, hvr, hv1, b2, _, rfl, ite2 (fun hrq => ?_) (fun hrq => ?_)⟩
        · have rq : r < q := of_decide_eq_true hrq
          refine ⟨_, rfl, _, _, rfl, rfl, ⟨rfl, k + 1, rfl, hlt, fun z hz => ?_⟩, ?_⟩
          · rw [List.take_add_one, gr] at hz
            rcases List.mem_append.mp hz with hz | hz
            · exact pre z hz
            · simp only [Option.toList_some, List.mem_singleton] at hz
              rw [hz]
              exact rq
          · show ys.length - ((k : Int) + 1).toNat < ys.length - (k : Int).toNat
            omega
        · have nrq : ¬ r < q := fun z => hrq (decide_eq_true z)
          refine ⟨_, rfl, _, rfl, p, ys, rfl, .inl (SqL.of hl1), rfl, _, rfl, ?_⟩
          rw [decide_eq_false (fun z => by have := V.int.inj z; omega)]
          refine iteF ⟨_, rfl, pv1, dv1, _, rfl, hpv1, under_no q, _, rfl, _, rfl, p, ys, k, _, rfl, rfl, SqL.of hl1, atI_nat gy, _, _, q, r, rfl, hv1, hvr, b2', _, rfl, ite2 (fun hqr => ?_) (fun hqr => ?_)⟩
          · refine ⟨_, rfl, .inl ⟨rfl, _, SqL.of hl1⟩, _, rfl, _, rfl, p, ys, k, _, rfl, rfl, hl1, by show ys.length < 16777216; omega, by omega, by omega, ?_⟩
            exact put ((ex.2 r gr nrq).1 (of_decide_eq_true hqr))
          · refine ⟨ys, _, _, _, rfl, fun b o z => e1 _ _ (sm _ _ z), hl1, ?_⟩
            rw [eL, (ex.2 r gr nrq).2 fun z => hqr (decide_eq_true z)]
            exact hys1
      · have ek : k = ys.length := by omega
        refine ⟨_, ⟨_, rfl, _, rfl, p, ys, rfl, .inl (SqL.of hl1), _, _, rfl, rfl, _, rfl, ?_⟩, fun _ _ z => z⟩
        rw [decide_eq_false (show ¬ (k : Int) < (ys.length : Int) by omega)]
        refine iteF (iteF ?_)
        refine ⟨_, rfl, _, rfl, p, ys, rfl, .inl (SqL.of hl1), rfl, _, rfl, ?_⟩
        rw [decide_eq_true (show V.int (k : Int) = V.int (ys.length : Int) by rw [ek])]
        refine iteT (iteT ?_)
        refine ⟨_, rfl, .inl ⟨rfl, _, SqL.of hl1⟩, _, rfl, _, rfl, p, ys, k, _, rfl, rfl, hl1, by show ys.length < 16777216; omega, by omega, by omega, ?_⟩
        exact put (ex.1 (by rw [ek, Pd.len hys]))
    · rintro σ H' ⟨ys, n, v, m, rfl, sm, hl, hys⟩
      refine ⟨_, rfl, k H' p ys sm hp hl ?_⟩
      rw [List.take_of_length_le (by rw [Pd.len hxs]; exact Nat.le_refl _)] at hys
      exact hys
end
end BF
set_option maxHeartbeats 4000000
namespace BF
open PySem PySem.Spec PyProof.Rows L2
def leastR (q0 : Rat) (qs : List Rat) : Rat := qs.foldl (fun m q => if q < m then q else m) q0
def greatR (q0 : Rat) (qs : List Rat) : Rat := qs.foldl (fun m q => if m < q then q else m) q0
theorem leastR_mem (q0 : Rat) : ∀ qs : List Rat, leastR q0 qs = q0 ∨ leastR q0 qs ∈ qs := by
  intro qs
  induction qs generalizing q0 with
  | nil => exact .inl rfl
  | cons a l ih =>
    unfold leastR
    rw [List.foldl_cons]
    rcases ih (if a < q0 then a else q0) with h | h
    · unfold leastR at h
      rw [h]
      split
      · exact .inr List.mem_cons_self
      · exact .inl rfl
    · exact .inr (List.mem_cons_of_mem _ h)
theorem greatR_mem (q0 : Rat) : ∀ qs : List Rat, greatR q0 qs = q0 ∨ greatR q0 qs ∈ qs := by
  intro qs
  induction qs generalizing q0 with
  | nil => exact .inl rfl
  | cons a l ih =>
    unfold greatR
    rw [List.foldl_cons]
    rcases ih (if q0 < a then a else q0) with h | h
    · unfold greatR at h
      rw [h]
      split
      · exact .inr List.mem_cons_self
      · exact .inl rfl
    · exact .inr (List.mem_cons_of_mem _ h)
section
variable {P : Program} {w : World} {K : PySem.W.Frag} {mg : Str → Option Value} {base : Heap} {CX : CXT} {f : Addr} {fd : FuncData} {C CI fI fD : Addr}
def spEnd (g : Rat → List Rat → Rat) (C : Addr) : Sp := fun vs H Q _ => ∃ a xs qs q0, vs = [.ref a] ∧ NumsAt C H a xs qs ∧ qs[0]? = some q0 ∧
  ∀ H' v, Same H H' → RatV C H' v (g q0 qs) → Q v H'
theorem scLeast : FnScope ["numbers", "found", "number"] ["numbers"] (defScope sLeast) := ⟨rfl, rfl, rfl, by decide +kernel, rfl, by decide +kernel, by decide +kernel⟩
theorem scGreatest : FnScope ["numbers", "found", "number"] ["numbers"] (defScope sGreatest) := ⟨rfl, rfl, rfl, by decide +kernel, rfl, by decide +kernel, by decide +kernel⟩
theorem ok_least {fO pO fN fU : Addr} {fdO fdU : FuncData} (B : Bl mg) (T : RT K mg C CI fI fD) (T2 : RT2 K C fN pO fO) (mU : Meth K C "under" fU)
    (GO : FnOk P w K mg base (L2.CX P w) 4 fO fdO ["cls", "number"] (spOf C)) (bO : Binds K fdO ["cls", "number"] [])
    (GU : FnOk P w K mg base CX0 1 fU fdU ["self", "other"] (spUnder C)) (bU : Binds K fdU ["self", "other"] [])
    (F : FnP K "least" "least" sLeast f fd) : FnOk P w K mg base CX0 5 f fd ["numbers"] (spEnd leastR C) := by
  refine F.ok scLeast (fun vs H Q E h => ?_) (fun cdv A outer s H vs Q E hr h => ?_)
  · obtain ⟨a, xs, qs, q0, rfl, _⟩ := h
    rfl
  · obtain ⟨a, xs, qs, q0, rfl, ⟨ha, hxs, hbd, hlen⟩, h0, k⟩ := h
    have hr1 : Room 1 (A.deeper (envOfC "least" (defScope sLeast) s.heap.objs.size f cdv)) := hr.mono (by decide)
    obtain ⟨x0, g0, n0⟩ := Pd.getR hxs h0
    refine ⟨_, PSs.nox (pss_cons (ps_set (i := 1) scLeast.nd rfl (.inl rfl) (ClX.pe_cmeth (pe_glob (v := .ref C) (by rfl) T.mgC rfl) T2.cr T2.cm (GO.raw bO .nil) hr passL (pa_cons (pe_ix ix_list (pv 0) pe_int (fun _ _ => rfl)) pa_nil)))
      (pss_cons (ps_for PassesOwn.never rfl (pi_list (pv 0)) (pg_name (i := 2) scLeast.nd rfl (.inl rfl))
        (pss_one (ps_if (pt_val (pe_meth (ClX.pe_cmeth (pe_glob (v := .ref C) (by rfl) T.mgC rfl) T2.cr T2.cm (GO.raw bO .nil) hr passL (pa_cons (pv 2) pa_nil)) T.cl mU GU hr1 bU .nil pass0 (pa_cons (pv 1) pa_nil)))
          (pss_one (ps_set (i := 1) scLeast.nd rfl (.inl rfl) (ClX.pe_cmeth (pe_glob (v := .ref C) (by rfl) T.mgC rfl) T2.cr T2.cm (GO.raw bO .nil) hr passL (pa_cons (pv 2) pa_nil)))) pss_nil)))
      (pss_one (ps_ret (pv 1))))), ?_⟩
    refine ⟨rfl, _, rfl, a, xs, 0, _, rfl, rfl, SqL.of ha, atI_nat g0, _, q0, rfl, n0, fun H1 v1 s1 hv1 => ?_⟩
    refine ⟨_, rfl, a, rfl, ⟨_, SqL.of (s1 _ _ ha)⟩, for_list (K := K) (a := a) (xs := xs) (fun i σ H' => ∃ v n, σ = [some (.ref a), some v, n] ∧ Same H H' ∧ RatV C H' v (leastR q0 (qs.take i)))
      ⟨v1, none, rfl, s1, hv1⟩ (fun i σ H' _ ⟨_, _, _, sm, _⟩ => SqL.of (sm _ _ ha)) ?_ ?_⟩
    · rintro i x σ H' hx ⟨v, n, rfl, sm, hv⟩
      obtain ⟨q, hq, nx⟩ := Pd.get hxs hx
      have hq8 : Bd 8000 q := hbd q (List.mem_of_getElem? hq)
      have tk : qs.take (i + 1) = qs.take i ++ [q] := by rw [List.take_add_one, hq]; rfl
      have m8 : Bd 8000 (leastR q0 (qs.take i)) := by
        rcases leastR_mem q0 (qs.take i) with h | h
        · rw [h]
          exact hbd q0 (List.mem_of_getElem? h0)
        · exact hbd _ (List.mem_of_mem_take h)
      have eL : leastR q0 (qs.take (i + 1)) = if q < leastR q0 (qs.take i) then q else leastR q0 (qs.take i) := by
        rw [tk]
        unfold leastR
        rw [List.foldl_append]
        rfl
      rw [eL]
      generalize leastR q0 (qs.take i) = m at hv m8
      refine ⟨rfl, _, rfl, x, q, rfl, nx.up sm, fun H2 v2 s2 hv2 => ?_⟩
      obtain ⟨p2, rfl, d2, hp2⟩ := id hv2
      refine ⟨p2, d2, _, rfl, hp2, under_no q, _, rfl, _, _, q, m, rfl, hv2, hv.up s2, bd2_of hq8 m8, _, rfl, ite2 (fun hl => ?_) (fun hl => ?_)⟩
      · refine ⟨rfl, _, rfl, x, q, rfl, (nx.up sm).up s2, fun H3 v3 s3 hv3 => ?_⟩
        rw [if_pos (of_decide_eq_true hl)]
        exact ⟨v3, _, rfl, (sm.trans s2).trans s3, hv3⟩
      · rw [if_neg fun z => hl (decide_eq_true z)]
        exact ⟨v, _, rfl, sm.trans s2, hv.up s2⟩
    · rintro σ H' ⟨v, n, rfl, sm, hv⟩
      rw [List.take_of_length_le (by rw [Pd.len hxs]; exact Nat.le_refl _)] at hv
      exact ⟨_, rfl, k H' v sm hv⟩
theorem ok_greatest {fO pO fN fU : Addr} {fdO fdU : FuncData} (B : Bl mg) (T : RT K mg C CI fI fD) (T2 : RT2 K C fN pO fO) (mU : Meth K C "under" fU)
    (GO : FnOk P w K mg base (L2.CX P w) 4 fO fdO ["cls", "number"] (spOf C)) (bO : Binds K fdO ["cls", "number"] [])
    (GU : FnOk P w K mg base CX0 1 fU fdU ["self", "other"] (spUnder C)) (bU : Binds K fdU ["self", "other"] [])
    (F : FnP K "greatest" "greatest" sGreatest f fd) : FnOk P w K mg base CX0 5 f fd ["numbers"] (spEnd greatR C) := by
  refine F.ok scGreatest (fun vs H Q E h => ?_) (fun cdv A outer s H vs Q E hr h => ?_)
  · obtain ⟨a, xs, qs, q0, rfl, _⟩ := h
    rfl
  · obtain ⟨a, xs, qs, q0, rfl, ⟨ha, hxs, hbd, hlen⟩, h0, k⟩ := h
    have hr1 : Room 1 (A.deeper (envOfC "greatest" (defScope sGreatest) s.heap.objs.size f cdv)) := hr.mono (by decide)
    obtain ⟨x0, g0, n0⟩ := Pd.getR hxs h0
    refine ⟨_, PSs.nox (pss_cons (ps_set (i := 1) scGreatest.nd rfl (.inl rfl) (ClX.pe_cmeth (pe_glob (v := .ref C) (by rfl) T.mgC rfl) T2.cr T2.cm (GO.raw bO .nil) hr passL (pa_cons (pe_ix ix_list (pv 0) pe_int (fun _ _ => rfl)) pa_nil)))
      (pss_cons (ps_for PassesOwn.never rfl (pi_list (pv 0)) (pg_name (i := 2) scGreatest.nd rfl (.inl rfl))
        (pss_one (ps_if (pt_val (pe_meth (pv 1) T.cl mU GU hr1 bU .nil pass0 (pa_cons (ClX.pe_cmeth (pe_glob (v := .ref C) (by rfl) T.mgC rfl) T2.cr T2.cm (GO.raw bO .nil) hr passL (pa_cons (pv 2) pa_nil)) pa_nil)))
          (pss_one (ps_set (i := 1) scGreatest.nd rfl (.inl rfl) (ClX.pe_cmeth (pe_glob (v := .ref C) (by rfl) T.mgC rfl) T2.cr T2.cm (GO.raw bO .nil) hr passL (pa_cons (pv 2) pa_nil)))) pss_nil)))
      (pss_one (ps_ret (pv 1))))), ?_⟩
    refine ⟨rfl, _, rfl, a, xs, 0, _, rfl, rfl, SqL.of ha, atI_nat g0, _, q0, rfl, n0, fun H1 v1 s1 hv1 => ?_⟩
    refine ⟨_, rfl, a, rfl, ⟨_, SqL.of (s1 _ _ ha)⟩, for_list (K := K) (a := a) (xs := xs) (fun i σ H' => ∃ v n, σ = [some (.ref a), some v, n] ∧ Same H H' ∧ RatV C H' v (greatR q0 (qs.take i)))
      ⟨v1, none, rfl, s1, hv1⟩ (fun i σ H' _ ⟨_, _, _, sm, _⟩ => SqL.of (sm _ _ ha)) ?_ ?_⟩
    · rintro i x σ H' hx ⟨v, n, rfl, sm, hv⟩
      obtain ⟨q, hq, nx⟩ := Pd.get hxs hx
      have hq8 : Bd 8000 q := hbd q (List.mem_of_getElem? hq)
      have tk : qs.take (i + 1) = qs.take i ++ [q] := by rw [List.take_add_one, hq]; rfl
      have m8 : Bd 8000 (greatR q0 (qs.take i)) := by
        rcases greatR_mem q0 (qs.take i) with h | h
        · rw [h]
          exact hbd q0 (List.mem_of_getElem? h0)
        · exact hbd _ (List.mem_of_mem_take h)
      have eL : greatR q0 (qs.take (i + 1)) = if greatR q0 (qs.take i) < q then q else greatR q0 (qs.take i) := by
        rw [tk]
        unfold greatR
        rw [List.foldl_append]
        rfl
      rw [eL]
      generalize greatR q0 (qs.take i) = m at hv m8
      obtain ⟨p2, rfl, d2, hp2⟩ := id hv
      refine ⟨_, rfl, p2, d2, _, rfl, hp2, under_no m, rfl, _, rfl, x, q, rfl, nx.up sm, fun H2 v2 s2 hv2 => ?_⟩
      refine ⟨_, _, m, q, rfl, hv.up s2, hv2, bd2_of m8 hq8, _, rfl, ite2 (fun hl => ?_) (fun hl => ?_)⟩
      · refine ⟨rfl, _, rfl, x, q, rfl, (nx.up sm).up s2, fun H3 v3 s3 hv3 => ?_⟩
        rw [if_pos (of_decide_eq_true hl)]
        exact ⟨v3, _, rfl, (sm.trans s2).trans s3, hv3⟩
      · rw [if_neg fun z => hl (decide_eq_true z)]
        exact ⟨_, _, rfl, sm.trans s2, hv.up s2⟩
    · rintro σ H' ⟨v, n, rfl, sm, hv⟩
      rw [List.take_of_length_le (by rw [Pd.len hxs]; exact Nat.le_refl _)] at hv
      exact ⟨_, rfl, k H' v sm hv⟩
end
end BF
set_option maxHeartbeats 4000000
namespace BF
open PySem PySem.Spec PyProof.Rows L2
abbrev sPen : Stmt := top 16
abbrev sDraw : Stmt := top 17
section
variable {P : Program} {w : World} {K : PySem.W.Frag} {mg : Str → Option Value} {base : Heap} {CX : CXT} {f : Addr} {fd : FuncData}
theorem scPen : FnScope ["_law_script"] ["_law_script"] (defScope sPen) := ⟨rfl, rfl, rfl, by decide +kernel, rfl, by decide +kernel, by decide +kernel⟩
theorem ok_pen (B : Bl mg) (F : FnP K "_law_pen" "_law_pen" sPen f fd) : FnOk P w K mg base CX0 1 f fd ["_law_script"] (spPen K) := by
  refine F.ok scPen (fun vs H Q E h => ?_) (fun cdv A outer s H vs Q E hr h => ?_)
  · obtain ⟨a, ns, rfl, _⟩ := h
    rfl
  · obtain ⟨a, ns, rfl, hS, k⟩ := h
    refine ⟨_, PSs.nox (pss_one (ps_ret (pe_lst (pa_cons (pe_callTy call_list_of (by rfl) B.list boot_list (pa_cons (pe_slice sl_list (pv 0) po_none (po_some pe_int)) pa_nil)) (pa_cons pe_int (pa_cons pe_int pa_nil)))))), ?_⟩
    refine ⟨_, rfl, _, rfl, a, _, rfl, hS, fun p hp => ?_⟩
    refine ⟨p, _, rfl, .inl (SqL.of upd_same), fun l hl => ?_⟩
    refine ⟨by show 3 ≤ sizeLine; decide, fun t ht => ?_⟩
    have s1 := same_upd (o := .lst (cutV (ns.map V.int) none (some 63))) hp
    have s2 := same_upd (o := .lst (cutV (ns.map V.int) none (some 63))) hl
    have s3 := same_upd (o := .lst [.ref l, .int 0, .int 0]) ht
    refine k _ t l ((s1.trans s2).trans s3) (Same.free (s1.trans s2) ht) ⟨ns.take 63, 0, 0, upd_same, ?_, ?_, Nat.le_refl _, Int.le_refl _⟩
    · refine s3 _ _ ?_
      rw [upd_same]
      have e : cutV (ns.map V.int) none (some 63) = (ns.take 63).map V.int := by
        unfold cutV
        have e1 : HT.sIx (ns.map V.int).length (ns.map V.int).length (some 63) = min 63 (ns.map V.int).length := HT.sIx_nat _ _ 63
        rw [HT.sIx_none, e1]
        simp only [List.drop_zero, Nat.sub_zero, List.map_take]
        rw [List.take_eq_take_iff]
        omega
      rw [e]
    · rw [List.length_take]
      omega
theorem ret_mod {Q : VK} {H : Hp} {x m : Int} (h : 0 < m) (k : ∀ d : Nat, (d : Int) < m → Q (.int d) H) : Q (.int (x % m)) H := by
  obtain ⟨d, e, hd⟩ := drawn x h
  rw [e]
  exact k d hd
theorem scDraw : FnScope ["_law_pen_here", "_law_many", "_law_digit", "_law_at", "_law_cell", "_law_large", "_law_mixed"] ["_law_pen_here", "_law_many"] (defScope sDraw) := ⟨rfl, rfl, rfl, by decide +kernel, rfl, by decide +kernel, by decide +kernel⟩
theorem ok_draw (B : Bl mg) (F : FnP K "_law_draw" "_law_draw" sDraw f fd) : FnOk P w K mg base CX0 1 f fd ["_law_pen_here", "_law_many"] spDraw := by
  refine F.ok scDraw (fun vs H Q E h => ?_) (fun cdv A outer s H vs Q E hr h => ?_)
  · obtain ⟨P, c, k, m, rfl, _⟩ := h
    rfl
  · obtain ⟨P, c, k, m, rfl, ⟨ns, n, lf, hP, hc, hns, hn, hlf⟩, hk, m0, m1, q⟩ := h
    refine ⟨_, PSs.nox (pss_cons (ps_if (pt_cmpR op_gt (pe_ix ix_list (pv 0) pe_int (fun _ _ => rfl)) pe_int (nomark _))
        (pss_cons (ps_set (i := 2) scDraw.nd rfl (.inl rfl) (pe_op op_mod (pe_callTy call_int1 (by rfl) B.int boot_int (pa_cons (pe_ix ix_list (pv 0) pe_int (fun _ _ => rfl)) pa_nil)) (pv 1)))
        (pss_cons (ps_asg (pe_op op_fdiv (pe_callTy call_int1 (by rfl) B.int boot_int (pa_cons (pe_ix ix_list (pv 0) pe_int (fun _ _ => rfl)) pa_nil)) (pv 1)) (pg_sub (pv 0) pe_int set_list))
        (pss_one (ps_ret (pv 2))))) pss_nil)
      (pss_cons (ps_set (i := 3) scDraw.nd rfl (.inl rfl) (pe_ix ix_list (pv 0) pe_int (fun _ _ => rfl)))
      (pss_cons (ps_asg (pe_op op_add (pv 3) pe_int) (pg_sub (pv 0) pe_int set_list))
      (pss_cons (ps_set (i := 4) scDraw.nd rfl (.inl rfl) (pe_op op_add (pe_op op_mul pe_int (pv 3)) pe_int))
      (C8.pss_cut (ps_if (pt_cmpR (op_neD hr.units) (pe_ix ix_list (pv 0) pe_int (fun _ _ => rfl)) (pe_lst pa_nil) (nomark _))
        (pss_one (ps_set (i := 4) scDraw.nd rfl (.inl rfl) (pe_ix ix_list (pe_ix ix_list (pv 0) pe_int (fun _ _ => rfl)) (pe_op op_mod (pe_callTy call_int1 (by rfl) B.int boot_int (pa_cons (pv 3) pa_nil)) (pe_callB call_len_seq (by rfl) B.len PySem.boot_len (pa_cons (pe_ix ix_list (pv 0) pe_int (fun _ _ => rfl)) pa_nil))) (fun _ _ => rfl)))) pss_nil)
      (C8.pss_cut (ps_if (PW.pt (pw_and (pt_cmpR op_lt (pv 3) (pe_callB call_len_seq (by rfl) B.len PySem.boot_len (pa_cons (pe_ix ix_list (pv 0) pe_int (fun _ _ => rfl)) pa_nil)) (nomark _))
          (pw_and1 (pt_cmpR op_ge (pe_callB call_abs (by rfl) B.abs (by decide +kernel) (pa_cons (pv 4) pa_nil)) (pe_op op_pow pe_int pe_int) (nomark _)))))
        (pss_cons (ps_set (i := 5) scDraw.nd rfl (.inl rfl) (pe_op op_add (pe_op op_mul pe_int (pe_callB call_abs (by rfl) B.abs (by decide +kernel) (pa_cons (pv 4) pa_nil))) (pe_callTy call_int1 (by rfl) B.int boot_int (pa_cons (pe_cmpR op_lt (pv 4) pe_int (nomark _)) pa_nil))))
        (pss_cons (ps_asg (pe_op op_fdiv (pv 5) (pv 1)) (pg_sub (pv 0) pe_int set_list))
        (pss_one (ps_ret (pe_op op_mod (pe_callTy call_int1 (by rfl) B.int boot_int (pa_cons (pv 5) pa_nil)) (pv 1)))))) pss_nil)
      (C8.pss_cut (ps_set (i := 6) scDraw.nd rfl (.inl rfl) (pe_op op_mod (pe_callTy call_int1 (by rfl) B.int boot_int (pa_cons (pe_op op_pow (pe_op op_add (pe_op op_add (pe_op op_mod (pe_callTy call_int1 (by rfl) B.int boot_int (pa_cons (pv 4) pa_nil)) pe_int) (pe_op op_mul pe_int (pv 3))) pe_int) pe_int) pa_nil)) pe_int))
      (C8.pss_cut (ps_set (i := 6) scDraw.nd rfl (.inl rfl) (pe_op op_mod (pe_callTy call_int1 (by rfl) B.int boot_int (pa_cons (pe_op op_pow (pe_op op_add (pe_op op_add (pe_op op_mul (pv 6) (pe_op op_add (pe_op op_mul pe_int (pv 3)) pe_int)) (pe_op op_mul (pe_op op_mul pe_int (pv 3)) (pv 3))) pe_int) pe_int) pa_nil)) pe_int))
      (pss_one (ps_ret (pe_op op_mod (pe_callTy call_int1 (by rfl) B.int boot_int (pa_cons (pe_op op_fdiv (pv 6) pe_int) pa_nil)) (pv 1)))))))))))), ?_⟩
    have g0 : atI [V.ref c, .int n, .int lf] 0 = some (.ref c) := rfl
    have g1 : atI [V.ref c, .int n, .int lf] 1 = some (.int n) := rfl
    have g2 : atI [V.ref c, .int n, .int lf] 2 = some (.int lf) := rfl
    have cP : c ≠ P := Pen.ne hP hc
    refine ⟨_, rfl, P, _, 2, _, rfl, rfl, SqL.of hP, g2, _, _, rfl, rfl, _, rfl, ite2 (fun hl => ?_) (fun hl => ?_)⟩
    · obtain ⟨d, ed, hd⟩ := drawn lf m0
      have hl0 : (0 : Int) < lf := of_decide_eq_true hl
      refine ⟨_, rfl, P, _, 2, _, rfl, rfl, SqL.of hP, g2, .inl ⟨lf, rfl, _, rfl, _, _, rfl, rfl, m0, ?_⟩⟩
      refine ⟨_, rfl, P, _, 2, _, rfl, rfl, SqL.of hP, g2, .inl ⟨lf, rfl, _, rfl, _, _, rfl, rfl, ⟨m0, m1⟩, _, rfl, P, _, 2, 2, rfl, rfl, hP, rfl, ?_⟩⟩
      refine ⟨_, rfl, ?_⟩
      show Q (V.int (lf % m)) _
      rw [ed]
      refine q _ d (Off.upd _) ⟨ns, n, lf / m, upd_same, ?_, hns, by omega, Int.ediv_nonneg (by omega) (by omega)⟩ hd
      rw [upd_ne cP]
      exact hc
    · refine ?_
      refine ⟨_, rfl, P, _, 1, _, rfl, rfl, SqL.of hP, g1, ?_⟩
      refine ⟨_, rfl, _, _, rfl, rfl, _, rfl, P, _, 1, 1, rfl, rfl, hP, rfl, ?_⟩
      have hP1 : (upd H P (.lst [.ref c, .int ((n : Int) + 1), .int lf])) P = some (.lst [.ref c, .int ((n : Int) + 1), .int lf]) := upd_same
      have hc1 : (upd H P (.lst [.ref c, .int ((n : Int) + 1), .int lf])) c = some (.lst (ns.map V.int)) := (upd_ne cP).trans hc
      have o1 : Off P H (upd H P (.lst [.ref c, .int ((n : Int) + 1), .int lf])) := Off.upd _
      have f0 : ∀ {j l : Int}, atI [V.ref c, .int j, .int l] 0 = some (.ref c) := rfl
      refine ⟨_, rfl, _, _, rfl, rfl, .inl ⟨by decide, by decide⟩, _, _, rfl, rfl, ?_⟩
      refine ⟨fun σ' H' => ∃ z : Int, σ' = [some (.ref P), some (.int m), none, some (.int n), some (.int z), none, none] ∧ Same (upd H P (.lst [.ref c, .int ((n : Int) + 1), .int lf])) H', ?_, ?_⟩
      · refine ⟨_, rfl, P, _, 0, _, rfl, rfl, SqL.of hP1, f0, Nat.zero_le _, fun e he => ?_⟩
        have s1 := same_upd (o := .lst []) he
        refine ⟨.list (ns.map PyData.int), .list [], .lst (SqL.of (s1 _ _ hc1)) (dp_ints _ _ ns), .lst (SqL.of upd_same) .nil, shaped_ints ns, shaped_ints [], _, rfl, ?_⟩
        rw [eqv_ints_nil]
        cases ns with
        | nil => exact iteF ⟨_, rfl, s1⟩
        | cons n0 nr =>
          have L1 : (0 : Int) < (((n0 :: nr).map V.int).length : Int) := by simp only [List.map_cons, List.length_cons]; omega
          obtain ⟨j, ej, hj⟩ := drawn (n : Int) L1
          have hj2 : j < (n0 :: nr).length := by rw [List.length_map] at hj; omega
          refine iteT ⟨_, rfl, P, _, 0, _, rfl, rfl, SqL.of (s1 _ _ hP1), f0, _, rfl, .inl ⟨_, rfl, _, rfl, P, _, 0, _, rfl, rfl, SqL.of (s1 _ _ hP1), f0, c, _, rfl, .inl (SqL.of (s1 _ _ hc1)), _, _, rfl, rfl, L1, c, _, j, .int ((n0 :: nr)[j]), rfl, congrArg V.int ej, SqL.of (s1 _ _ hc1), atI_nat ?_, ?_⟩⟩
          · rw [List.getElem?_map, List.getElem?_eq_getElem hj2]
            rfl
          · exact ⟨_, rfl, s1⟩
      · rintro σ' H' ⟨z, rfl, s2⟩
        have hP2 := s2 _ _ hP1
        have hc2 := s2 _ _ hc1
        have o2 : Off P H H' := o1.trans (Off.of s2)
        have at_ : ∀ z : Int, (if z < 0 then -z else z) = (z.natAbs : Int) := fun z => by split <;> omega
        have pen : ∀ l : Int, 0 ≤ l → Pen (upd H' P (.lst [.ref c, .int ((n : Int) + 1), .int l])) P c (k + 1) := fun l hl => ⟨ns, n + 1, l, upd_same, (upd_ne cP).trans hc2, hns, by omega, hl⟩
        refine ⟨fun σ2 H2 => σ2 = [some (.ref P), some (.int m), none, some (.int n), some (.int z), none, none] ∧ H2 = H', ?_, ?_⟩
        · refine ⟨_, rfl, _, rfl, P, _, 0, _, rfl, rfl, SqL.of hP2, f0, c, _, rfl, .inl (SqL.of hc2), _, _, rfl, rfl, _, rfl, ite2 (fun _ => ?_) (fun _ => iteF ⟨rfl, rfl⟩)⟩
          refine ⟨_, rfl, z, rfl, _, _, rfl, rfl, ⟨by decide, by decide, by decide⟩, _, _, rfl, rfl, _, rfl, ite2 (fun _ => ?_) (fun _ => ⟨rfl, rfl⟩)⟩
          refine ⟨_, rfl, z, rfl, _, _, rfl, rfl, .inl ⟨by decide, by decide⟩, _, rfl, _, _, rfl, rfl, .inr ⟨_, rfl, _, _, rfl, rfl, ?_⟩⟩
          refine ⟨_, rfl, _, rfl, _, _, rfl, rfl, ⟨m0, m1⟩, _, rfl, P, _, 2, 2, rfl, rfl, hP2, rfl, ?_⟩
          have big : (0 : Int) ≤ 2 * (if z < 0 then -z else z) + (if decide (z < 0) = true then 1 else 0) := by
            rw [at_]
            split <;> omega
          obtain ⟨d, ed, hd⟩ := drawn (2 * (if z < 0 then -z else z) + (if decide (z < 0) = true then 1 else 0)) m0
          refine ⟨_, rfl, .inl ⟨_, rfl, _, rfl, _, _, rfl, rfl, m0, ?_⟩⟩
          show Q (V.int ((2 * (if z < 0 then -z else z) + (if decide (z < 0) = true then 1 else 0)) % m)) _
          rw [ed]
          exact q _ d (o2.trans (Off.upd _)) (pen _ (Int.ediv_nonneg big (by omega))) hd
        · rintro σ2 H2 ⟨rfl, rfl⟩
          have hn6 : (0 : Int) ≤ n ∧ (n : Int) ≤ 1000000 := by omega
          refine ⟨fun σ3 H3 => ∃ x : Int, σ3 = [some (.ref P), some (.int m), none, some (.int n), some (.int z), none, some (.int x)] ∧ H3 = H2 ∧ 0 ≤ x ∧ x ≤ 2147483647, ?_, ?_⟩
          · refine ⟨_, rfl, .inl ⟨z, rfl, _, _, rfl, rfl, by show (0 : Int) < _; decide, _, rfl, _, _, rfl, rfl, .inl ⟨by decide, by decide⟩, _, _, rfl, rfl, _, _, rfl, rfl, _, _, rfl, rfl, ⟨by decide, by decide, ?_⟩, .inl ⟨_, rfl, _, _, rfl, rfl, by show (0 : Int) < _; decide, ?_⟩⟩⟩
            · exact mix1 _ _ hn6 (by decide) _ (by decide)
            · exact ⟨_, rfl, rfl, Int.emod_nonneg _ (by decide), Int.le_of_lt (Int.lt_of_lt_of_le (Int.emod_lt_of_pos _ (by decide)) (by decide))⟩
          rintro σ3 H3 ⟨x, rfl, rfl, x0, x1⟩
          refine ⟨fun σ4 H4 => ∃ y : Int, σ4 = [some (.ref P), some (.int m), none, some (.int n), some (.int z), none, some (.int y)] ∧ H4 = H3, ?_, ?_⟩
          · refine ⟨_, rfl, _, rfl, _, _, rfl, rfl, .inl ⟨by decide, by decide⟩, _, _, rfl, rfl, _, _, rfl, rfl, .inl ⟨by omega, by omega⟩, _, rfl, _, _, rfl, rfl, .inl ⟨by decide, by decide⟩, _, rfl, _, _, rfl, rfl, .inr ⟨by omega, by omega⟩, _, _, rfl, rfl, _, _, rfl, rfl, _, _, rfl, rfl, ⟨by decide, by decide, ?_⟩, .inl ⟨_, rfl, _, _, rfl, rfl, by show (0 : Int) < _; decide, ?_⟩⟩
            · exact mix2 _ _ _ hn6 ⟨x0, x1⟩ (by decide)
            · exact ⟨_, rfl, rfl⟩
          rintro σ4 H4 ⟨y, rfl, rfl⟩
          refine ⟨_, rfl, _, _, rfl, rfl, ⟨by decide, by decide⟩, .inl ⟨_, rfl, _, rfl, _, _, rfl, rfl, m0, ?_⟩⟩
          exact ret_mod m0 fun d hd => q H4 d o2 ⟨ns, n + 1, lf, hP2, hc2, hns, by omega, hlf⟩ hd
end
end BF
set_option maxHeartbeats 4000000
namespace BF
open PySem PySem.Spec PyProof.Rows L2
abbrev sParts : Stmt := top 18
abbrev sNumber : Stmt := top 19
abbrev sBefore : Stmt := top 20
section
variable {P : Program} {w : World} {K : PySem.W.Frag} {mg : Str → Option Value} {base : Heap} {CX : CXT} {f : Addr} {fd : FuncData} {C CI fI fD : Addr}
/-- a top and a bottom, drawn -/
def PartOk (t b : Int) : Prop := t.natAbs < 2 ^ 20 ∧ 1 ≤ b ∧ b ≤ 1000
def PartAt (H : Hp) (v : V) (z : Int × Int) : Prop := ∃ p, v = .ref p ∧ H p = some (.tup [.int z.1, .int z.2]) ∧ PartOk z.1 z.2
theorem PartAt.up {H H' : Hp} {v : V} {z : Int × Int} (h : PartAt H v z) (s : Same H H') : PartAt H' v z := by
  obtain ⟨p, e, a, b⟩ := h
  exact ⟨p, e, s _ _ a, b⟩
theorem PartAt.off {H H' : Hp} {P c : Addr} {k : Nat} {v : V} {z : Int × Int} (h : PartAt H v z) (p : Pen H P c k) (s : Off P H H') : PartAt H' v z := by
  obtain ⟨a, e, b, c⟩ := h
  exact ⟨a, e, s _ _ (p.apartT b) b, c⟩
def spParts : Sp := fun vs H Q _ => ∃ (P c : Addr) (k : Nat), vs = [.ref P] ∧ Pen H P c k ∧ k ≤ 900000 ∧
  ∀ (H' : Hp) (v : V) (z : Int × Int), Off P H H' → Pen H' P c (k + 5) → PartAt H' v z → Q v H'
theorem scParts : FnScope ["_law_pen_here", "_law_top"] ["_law_pen_here"] (defScope sParts) := ⟨rfl, rfl, rfl, by decide +kernel, rfl, by decide +kernel, by decide +kernel⟩
theorem ok_parts {fW : Addr} {fdW : FuncData} (B : Bl mg) (FW : FnP K "_law_draw" "_law_draw" sDraw fW fdW) (mW : mg "_law_draw" = some (.ref fW))
    (F : FnP K "_law_parts" "_law_parts" sParts f fd) : FnOk P w K mg base CX0 2 f fd ["_law_pen_here"] spParts := by
  have GW : FnOk P w K mg base CX0 1 fW fdW ["_law_pen_here", "_law_many"] spDraw := ok_draw B FW
  have bW : Binds K fdW ["_law_pen_here", "_law_many"] [] := FW.bindsN fun _ _ _ _ _ _ us hl => match us, hl with | [_, _], _ => rfl
  refine F.ok scParts (fun vs H Q E h => ?_) (fun cdv A outer s H vs Q E hr h => ?_)
  · obtain ⟨P, c, k, rfl, _⟩ := h
    rfl
  · obtain ⟨P, c, k, rfl, hp, hk, q⟩ := h
    refine ⟨_, PSs.nox (C8.pss_cut (ps_set (i := 1) scParts.nd rfl (.inl rfl) (pe_ix ix_list (pe_lst (pa_cons (pe_op op_sub (pe_call GW hr (by rfl) mW FW.kp bW .nil pass0 (pa_cons (pv 0) (pa_cons pe_int pa_nil))) pe_int)
          (pa_cons (pe_op op_sub (pe_call GW hr (by rfl) mW FW.kp bW .nil pass0 (pa_cons (pv 0) (pa_cons pe_int pa_nil))) pe_int) pa_nil)))
        (pe_callTy call_int1 (by rfl) B.int boot_int (pa_cons (pe_cmpR op_eq (pe_call GW hr (by rfl) mW FW.kp bW .nil pass0 (pa_cons (pv 0) (pa_cons pe_int pa_nil))) pe_int (nomark _)) pa_nil)) (fun _ _ => rfl)))
      (pss_one (ps_ret (pe_tup (pa_cons (pv 1) (pa_cons (pe_ix ix_list (pe_lst (pa_cons pe_int (pa_cons pe_int (pa_cons pe_int (pa_cons pe_int (pa_cons (pe_op op_add pe_int (pe_call GW hr (by rfl) mW FW.kp bW .nil pass0 (pa_cons (pv 0) (pa_cons pe_int pa_nil)))) pa_nil))))))
        (pe_call GW hr (by rfl) mW FW.kp bW .nil pass0 (pa_cons (pv 0) (pa_cons pe_int pa_nil))) (fun _ _ => rfl)) pa_nil)))))), ?_⟩
    refine ⟨fun σ' H' => ∃ t : Int, σ' = [some (.ref P), some (.int t)] ∧ t.natAbs < 2 ^ 20 ∧ Off P H H' ∧ Pen H' P c (k + 3), ?_, ?_⟩
    · refine ⟨_, rfl, P, c, k, 7, rfl, hp, by omega, by decide, by decide, fun H1 d1 o1 p1 h1 => ?_⟩
      refine ⟨_, _, rfl, rfl, _, rfl, P, c, k + 1, 1999999, rfl, p1, by omega, by decide, by decide, fun H2 d2 o2 p2 h2 => ?_⟩
      refine ⟨_, _, rfl, rfl, by show 2 ≤ sizeLine; decide, fun l hl => ?_⟩
      have s3 := same_upd (o := .lst [.int ((d1 : Int) - 3), .int ((d2 : Int) - 999999)]) hl
      have lP : l ≠ P := p2.fresh hl
      refine ⟨_, rfl, P, c, k + 2, 4, rfl, p2.up s3, by omega, by decide, by decide, fun H4 d4 o4 p4 h4 => ?_⟩
      have hl4 : H4 l = some (.lst [.int ((d1 : Int) - 3), .int ((d2 : Int) - 999999)]) := o4 _ _ lP upd_same
      refine ⟨rfl, .inr ⟨_, rfl, ?_⟩⟩
      have oo : Off P H H4 := ((o1.trans o2).trans (Off.of s3)).trans o4
      by_cases hd : V.int (d4 : Int) = V.int 0
      · rw [decide_eq_true hd]
        exact ⟨l, _, 1, .int ((d2 : Int) - 999999), rfl, rfl, SqL.of hl4, rfl, _, rfl, by omega, oo, p4⟩
      · rw [decide_eq_false hd]
        exact ⟨l, _, 0, .int ((d1 : Int) - 3), rfl, rfl, SqL.of hl4, rfl, _, rfl, by omega, oo, p4⟩
    · rintro σ' H5 ⟨t, rfl, ht, o5, p5⟩
      refine ⟨_, rfl, _, rfl, P, c, k + 3, 1000, rfl, p5, by omega, by decide, by decide, fun H6 d6 o6 p6 h6 => ?_⟩
      refine ⟨_, _, rfl, rfl, by show 5 ≤ sizeLine; decide, fun l hl => ?_⟩
      have s7 := same_upd (o := .lst [.int 1, .int 2, .int 3, .int 4, .int (1 + (d6 : Int))]) hl
      have lP : l ≠ P := p6.fresh hl
      refine ⟨_, rfl, P, c, k + 4, 5, rfl, p6.up s7, by omega, by decide, by decide, fun H8 d8 o8 p8 h8 => ?_⟩
      have hl8 : H8 l = some (.lst [.int 1, .int 2, .int 3, .int 4, .int (1 + (d6 : Int))]) := o8 _ _ lP upd_same
      have oo : Off P H H8 := ((o5.trans o6).trans (Off.of s7)).trans o8
      have fin : ∀ b : Int, 1 ≤ b → b ≤ 1000 → atI [V.int 1, .int 2, .int 3, .int 4, .int (1 + (d6 : Int))] (d8 : Int) = some (.int b) →
          ∃ p xs i v, V.ref l = .ref p ∧ V.int (d8 : Int) = .int i ∧ SqL K H8 p xs ∧ atI xs i = some v ∧ [V.int t, v].length ≤ sizeLine ∧ ∀ p, H8 p = none → Q (.ref p) (upd H8 p (.tup [.int t, v])) := fun b b0 b1 e =>
        ⟨l, _, _, _, rfl, rfl, SqL.of hl8, e, by show 2 ≤ sizeLine; decide, fun p np => q _ _ (t, b) (oo.trans (Off.of (same_upd np))) (p8.up (same_upd np)) ⟨p, rfl, upd_same, ht, b0, b1⟩⟩
      have c5 : d8 = 0 ∨ d8 = 1 ∨ d8 = 2 ∨ d8 = 3 ∨ d8 = 4 := by omega
      rcases c5 with rfl | rfl | rfl | rfl | rfl
      · exact fin 1 (by decide) (by decide) rfl
      · exact fin 2 (by decide) (by decide) rfl
      · exact fin 3 (by decide) (by decide) rfl
      · exact fin 4 (by decide) (by decide) rfl
      · exact fin (1 + (d6 : Int)) (by omega) (by omega) rfl
def spBefore : Sp := fun vs H Q _ => ∃ x y z u, vs = [x, y] ∧ PartAt H x z ∧ PartAt H y u ∧ Q (.bl (decide (z.1 * u.2 < u.1 * z.2))) H
theorem scBefore : FnScope ["_law_one", "_law_other"] ["_law_one", "_law_other"] (defScope sBefore) := ⟨rfl, rfl, rfl, by decide +kernel, rfl, by decide +kernel, by decide +kernel⟩
theorem ok_before (F : FnP K "_law_before" "_law_before" sBefore f fd) : FnOk P w K mg base CX0 1 f fd ["_law_one", "_law_other"] spBefore := by
  refine F.ok scBefore (fun vs H Q E h => ?_) (fun cdv A outer s H vs Q E hr h => ?_)
  · obtain ⟨x, y, z, u, rfl, _⟩ := h
    rfl
  · obtain ⟨x, y, ⟨a, b⟩, ⟨c, d⟩, rfl, ⟨p, rfl, hp, a1, b1, b2⟩, ⟨p', rfl, hp', c1, d1, d2⟩, k⟩ := h
    refine ⟨_, PSs.nox (pss_one (ps_ret (pe_cmpR op_lt (pe_op op_mul (pe_ix ix_tup (pv 0) pe_int (fun _ _ => rfl)) (pe_ix ix_tup (pv 1) pe_int (fun _ _ => rfl)))
      (pe_op op_mul (pe_ix ix_tup (pv 1) pe_int (fun _ _ => rfl)) (pe_ix ix_tup (pv 0) pe_int (fun _ _ => rfl))) (nomark _)))), ?_⟩
    simp only at a1 b1 b2 c1 d1 d2
    refine ⟨_, rfl, p, _, 0, _, rfl, rfl, SqT.of hp, rfl, _, rfl, p', _, 1, _, rfl, rfl, SqT.of hp', rfl, _, _, rfl, rfl, .inr ⟨by omega, by omega⟩, ?_⟩
    exact ⟨_, rfl, p', _, 0, _, rfl, rfl, SqT.of hp', rfl, _, rfl, p, _, 1, _, rfl, rfl, SqT.of hp, rfl, _, _, rfl, rfl, .inr ⟨by omega, by omega⟩, _, _, rfl, rfl, k⟩
end
end BF
set_option maxHeartbeats 4000000
namespace BF
open PySem PySem.Spec PyProof.Rows L2
section
variable {P : Program} {w : World} {K : PySem.W.Frag} {mg : Str → Option Value} {base : Heap} {CX : CXT} {f : Addr} {fd : FuncData} {C CI fI fD : Addr}
def zR (z : Int × Int) : Rat := Rat.divInt z.1 z.2
theorem small8 {i : Int} (h : i.natAbs < 2 ^ 30) : i.natAbs < 2 ^ 8000 := Nat.lt_of_lt_of_le h (pow_mono (by decide))
theorem Num.off {H H' : Hp} {P c : Addr} {k : Nat} {v : V} {q : Rat} (h : Num C H v q) (p : Pen H P c k) (s : Off P H H') : Num C H' v q := h.imp (fun z => z.off p s) id
/-- __init__ with both arguments given -/
theorem bind2 {fN : Addr} {fdN : FuncData} (FN : FunD K "__init__" "Ratio.__init__" (defArgs sInit) (defBody sInit) (defScope sInit) [.int 1] [] fN fdN) : Binds K fdN ["self", "top", "bottom"] [] := by
  obtain ⟨ds, hds, bN⟩ := FN.binds1 (ps := ["self", "top", "bottom"]) 3 1 (List.cons_ne_nil _ _) rfl fun _ _ _ _ _ _ _ us its hu hi => match us, its, hu, hi with | [_, _, _], [_], _, _ => ⟨_, rfl, rfl⟩
  cases hds
  exact bN
def spNumber (C : Addr) : Sp := fun vs H Q _ => ∃ (P c : Addr) (k : Nat) (x : V) (z : Int × Int), vs = [.ref P, x] ∧ Pen H P c k ∧ k ≤ 900000 ∧ PartAt H x z ∧
  ∀ (H' : Hp) (v : V), Off P H H' → Pen H' P c (k + 2) → Num C H' v (zR z) → Q v H'
theorem scNumber : FnScope ["_law_pen_here", "_law_part", "_law_top", "_law_bottom", "_law_often"] ["_law_pen_here", "_law_part"] (defScope sNumber) := ⟨rfl, rfl, rfl, by decide +kernel, rfl, by decide +kernel, by decide +kernel⟩
theorem ok_number {fW fN pO fO : Addr} {fdW fdN : FuncData} (B : Bl mg) (T : RT K mg C CI fI fD) (T2 : RT2 K C fN pO fO) (FW : FnP K "_law_draw" "_law_draw" sDraw fW fdW) (mW : mg "_law_draw" = some (.ref fW))
    (FN : FunD K "__init__" "Ratio.__init__" (defArgs sInit) (defBody sInit) (defScope sInit) [.int 1] [] fN fdN)
    (GN : FnOk P w K mg base (L2.CX P w) 2 fN fdN ["self", "top", "bottom"] (spInit K C CI))
    (F : FnP K "_law_number" "_law_number" sNumber f fd) : FnOk P w K mg base CX0 4 f fd ["_law_pen_here", "_law_part"] (spNumber C) := by
  have GW : FnOk P w K mg base CX0 1 fW fdW ["_law_pen_here", "_law_many"] spDraw := ok_draw B FW
  have bW : Binds K fdW ["_law_pen_here", "_law_many"] [] := FW.bindsN fun _ _ _ _ _ _ us hl => match us, hl with | [_, _], _ => rfl
  have bN := bind2 FN
  refine F.ok scNumber (fun vs H Q E h => ?_) (fun cdv A outer s H vs Q E hr h => ?_)
  · obtain ⟨P, c, k, x, z, rfl, _⟩ := h
    rfl
  · obtain ⟨P, c, k, x, ⟨t, b⟩, rfl, hp, hk, ⟨p, rfl, hpt, t0, b0, b1⟩, q⟩ := h
    simp only at hpt t0 b0 b1
    have hr1 : Room 1 (A.deeper (envOfC "_law_number" (defScope sNumber) s.heap.objs.size f cdv)) := hr.mono (by decide)
    refine ⟨_, PSs.nox (pss_cons (ps_asg (pv 1) (pg_tup (by rfl) (pgs_cons (pg_name (i := 2) scNumber.nd rfl (.inl rfl)) (pgs_cons (pg_name (i := 3) scNumber.nd rfl (.inl rfl)) pgs_nil))))
      (C8.pss_cut (ps_if (PW.pt (pw_and (pt_cmpR op_eq (pv 3) pe_int (nomark _)) (pw_and1 (pt_cmpR op_eq (pe_call GW hr1 (by rfl) mW FW.kp bW .nil pass0 (pa_cons (pv 0) (pa_cons pe_int pa_nil))) pe_int (nomark _))))) (pss_one (ps_ret (pv 2))) pss_nil)
      (pss_cons (ps_set (i := 4) scNumber.nd rfl (.inl rfl) (pe_ix ix_list (pe_lst (pa_cons pe_int (pa_cons pe_int (pa_cons pe_int (pa_cons pe_int pa_nil))))) (pe_call GW hr1 (by rfl) mW FW.kp bW .nil pass0 (pa_cons (pv 0) (pa_cons pe_int pa_nil))) (fun _ _ => rfl)))
      (pss_one (ps_ret (pe_make T2.mkr GN hr (by rfl) T.mgC bN .nil passL (pa_cons (pe_op op_mul (pv 2) (pv 4)) (pa_cons (pe_op op_mul (pv 3) (pv 4)) pa_nil)))))))), ?_⟩
    refine ⟨_, rfl, p, _, rfl, SqT.of hpt, rfl, _, _, rfl, _, _, rfl, rfl, ?_⟩
    refine ⟨fun σ' H' => σ' = [some (.ref P), some (.ref p), some (.int t), some (.int b), none] ∧ Off P H H' ∧ Pen H' P c (k + 1), ?_, ?_⟩
    · refine ⟨_, rfl, rfl, _, rfl, ite2 (fun hb => ?_) (fun hb => iteF ⟨rfl, Off.refl _ _, hp.mono (by omega)⟩)⟩
      have e1 : b = 1 := V.int.inj (of_decide_eq_true hb)
      refine ⟨_, rfl, P, c, k, 2, rfl, hp, by omega, by decide, by decide, fun H1 d1 o1 p1 h1 => ?_⟩
      refine ⟨rfl, _, rfl, ite2 (fun _ => ?_) (fun _ => ⟨rfl, o1, p1⟩)⟩
      exact ⟨_, rfl, q H1 _ o1 (p1.mono (by omega)) (.inr ⟨t, rfl, by rw [e1]; rfl, small8 (by omega)⟩)⟩
    · rintro σ' H1 ⟨rfl, o1, p1⟩
      refine ⟨by show 4 ≤ sizeLine; decide, fun l hl => ?_⟩
      have s2 := same_upd (o := .lst [.int 1, .int 1, .int 2, .int 3]) hl
      have lP : l ≠ P := p1.fresh hl
      refine ⟨_, rfl, P, c, k + 1, 4, rfl, p1.up s2, by omega, by decide, by decide, fun H3 d3 o3 p3 h3 => ?_⟩
      have hl3 : H3 l = some (.lst [.int 1, .int 1, .int 2, .int 3]) := o3 _ _ lP upd_same
      have oo : Off P H H3 := (o1.trans (Off.of s2)).trans o3
      have fin : ∀ o : Int, 1 ≤ o → o ≤ 3 → ∀ x dx : Addr, H3 x = none → H3 dx = none → dx ≠ x →
          spInit K C CI (V.ref x :: ([V.int (t * o), V.int (b * o)] ++ [])) (upd (upd H3 dx (.own x)) x (.ins C dx [])) (fun v H2 => v = .non ∧ Q (.ref x) H2) E0 := fun o o0 o1 x dx nx nd ne => by
        have hto : (t * o).natAbs < 2 ^ 30 := by
          have : (t * o).natAbs = t.natAbs * o.natAbs := Int.natAbs_mul t o
          have h2 : t.natAbs * o.natAbs ≤ 2 ^ 20 * 3 := Nat.mul_le_mul (by omega) (by omega)
          omega
        have hbo : (b * o).natAbs < 2 ^ 30 := by
          have : (b * o).natAbs = b.natAbs * o.natAbs := Int.natAbs_mul b o
          have h2 : b.natAbs * o.natAbs ≤ 1000 * 3 := Nat.mul_le_mul (by omega) (by omega)
          omega
        have hb0 : b * o ≠ 0 := Int.mul_ne_zero (by omega) (by omega)
        refine ⟨x, dx, _, _, rfl, upd_same, .inl ⟨t * o, b * o, rfl, rfl, hb0, small8 hto, small8 hbo, rfl, ?_⟩⟩
        refine made (Q := Q) (C := C) (t := t * o) (b := b * o) (fun H4 v4 s4 hv4 => ?_) x dx nx nd ne
        refine q H4 v4 (oo.trans (Off.of s4)) (p3.up s4) (.inl ?_)
        have e : Rat.divInt (t * o) (b * o) = zR (t, b) := Rat.divInt_mul_right (by omega)
        rw [← e]
        exact hv4
      have c4 : d3 = 0 ∨ d3 = 1 ∨ d3 = 2 ∨ d3 = 3 := by omega
      rcases c4 with rfl | rfl | rfl | rfl
      · exact ⟨l, _, _, _, rfl, rfl, SqL.of hl3, rfl, _, rfl, _, rfl, _, _, rfl, rfl, .inr ⟨by decide, by decide⟩, _, rfl, _, rfl, _, _, rfl, rfl, .inr ⟨by decide, by decide⟩, fin 1 (by decide) (by decide)⟩
      · exact ⟨l, _, _, _, rfl, rfl, SqL.of hl3, rfl, _, rfl, _, rfl, _, _, rfl, rfl, .inr ⟨by decide, by decide⟩, _, rfl, _, rfl, _, _, rfl, rfl, .inr ⟨by decide, by decide⟩, fin 1 (by decide) (by decide)⟩
      · exact ⟨l, _, _, _, rfl, rfl, SqL.of hl3, rfl, _, rfl, _, rfl, _, _, rfl, rfl, .inr ⟨by decide, by decide⟩, _, rfl, _, rfl, _, _, rfl, rfl, .inr ⟨by decide, by decide⟩, fin 2 (by decide) (by decide)⟩
      · exact ⟨l, _, _, _, rfl, rfl, SqL.of hl3, rfl, _, rfl, _, rfl, _, _, rfl, rfl, .inr ⟨by decide, by decide⟩, _, rfl, _, rfl, _, _, rfl, rfl, .inr ⟨by decide, by decide⟩, fin 3 (by decide) (by decide)⟩
end
end BF
set_option maxHeartbeats 4000000
namespace BF
open PySem PySem.Spec PyProof.Rows L2
abbrev sSorted : Stmt := top 21
def bef (z u : Int × Int) : Bool := decide (z.1 * u.2 < u.1 * z.2)
def srtZ (zs : List (Int × Int)) : List (Int × Int) := zs.foldl (fun L z => L.filter (fun u => bef u z) ++ [z] ++ L.filter (fun u => bef z u)) []
theorem srtZ_snoc (zs : List (Int × Int)) (z : Int × Int) : srtZ (zs ++ [z]) = (srtZ zs).filter (fun u => bef u z) ++ [z] ++ (srtZ zs).filter (fun u => bef z u) := by
  unfold srtZ
  rw [List.foldl_append]
  rfl
section
variable {P : Program} {w : World} {K : PySem.W.Frag} {mg : Str → Option Value} {base : Heap} {CX : CXT} {f : Addr} {fd : FuncData} {C CI fI fD : Addr}
def spSorted : Sp := fun vs H Q _ => ∃ a xs zs, vs = [.ref a] ∧ H a = some (.lst xs) ∧ Paired (PartAt H) xs zs ∧ xs.length ≤ 9 ∧
  ∀ H' l ys, Same H H' → H l = none → H' l = some (.lst ys) → Paired (PartAt H') ys (srtZ zs) → Q (.ref l) H'
abbrev nSorted : List Str := ["_law_parts_here", "_law_found", "_law_part", "_law_ahead", "_law_behind", "_law_one"]
theorem scSorted : FnScope nSorted ["_law_parts_here"] (defScope sSorted) := ⟨rfl, rfl, rfl, by decide +kernel, rfl, by decide +kernel, by decide +kernel⟩
theorem ok_sorted {fB : Addr} {fdB : FuncData} (FB : FnP K "_law_before" "_law_before" sBefore fB fdB) (mB : mg "_law_before" = some (.ref fB))
    (F : FnP K "_law_sorted" "_law_sorted" sSorted f fd) : FnOk P w K mg base CX0 2 f fd ["_law_parts_here"] spSorted := by
  have GB : FnOk P w K mg base CX0 1 fB fdB ["_law_one", "_law_other"] spBefore := ok_before FB
  have bB : Binds K fdB ["_law_one", "_law_other"] [] := FB.bindsN fun _ _ _ _ _ _ us hl => match us, hl with | [_, _], _ => rfl
  refine F.ok scSorted (fun vs H Q E h => ?_) (fun cdv A outer s H vs Q E hr h => ?_)
  · obtain ⟨a, xs, zs, rfl, _⟩ := h
    rfl
  · obtain ⟨a, xs, zs, rfl, ha, hz, hlen, k⟩ := h
    refine ⟨_, PSs.nox (pss_cons (ps_set (i := 1) scSorted.nd rfl (.inl rfl) (pe_lst pa_nil))
      (pss_cons (ps_for PassesOwn.never rfl (pi_list (pv 0)) (pg_name (i := 2) scSorted.nd rfl (.inr rfl))
        (pss_cons (ps_setLc (i := 3) (own := [("_law_one", 5)]) (g := gName 5) (te := tVar 5) rfl scSorted.nd rfl rfl (sw_true rfl rfl rfl (by decide +kernel)) (pi_list (pv 1)) (blkOk_by (N := nSorted) (sc := defScope sSorted) (by decide +kernel)) (fun _ _ _ _ _ => pg_name (i := 5) scSorted.nd rfl (.inl rfl))
          (fun _ _ _ _ _ => pts_one (pt_val (pe_call GB hr (by rfl) mB FB.kp bB .nil pass0 (pa_cons (pv 5) (pa_cons (pv 2) pa_nil))))) (fun _ _ _ _ _ => pv 5))
        (pss_cons (ps_setLc (i := 4) (own := [("_law_one", 5)]) (g := gName 5) (te := tVar 5) rfl scSorted.nd rfl rfl (sw_true rfl rfl rfl (by decide +kernel)) (pi_list (pv 1)) (blkOk_by (N := nSorted) (sc := defScope sSorted) (by decide +kernel)) (fun _ _ _ _ _ => pg_name (i := 5) scSorted.nd rfl (.inl rfl))
          (fun _ _ _ _ _ => pts_one (pt_val (pe_call GB hr (by rfl) mB FB.kp bB .nil pass0 (pa_cons (pv 2) (pa_cons (pv 5) pa_nil))))) (fun _ _ _ _ _ => pv 5))
        (pss_one (ps_set (i := 1) scSorted.nd rfl (.inl rfl) (pe_op op_cat (pe_op op_cat (pv 3) (pe_lst (pa_cons (pv 2) pa_nil))) (pv 4)))))))
      (pss_one (ps_ret (pv 1))))), ?_⟩
    refine ⟨Nat.zero_le _, fun p hp => ?_⟩
    refine ⟨_, rfl, a, rfl, ⟨_, SqL.of (same_upd hp _ _ ha)⟩, for_list (K := K) (a := a) (xs := xs) (fun i σ H' => ∃ l ys u1 u2 u3 u4, σ = [some (.ref a), some (.ref l), u1, u2, u3, u4] ∧ Same H H' ∧ H l = none ∧ H' l = some (.lst ys) ∧ Paired (PartAt H') ys (srtZ (zs.take i)) ∧ ys.length + 1 ≤ 2 ^ i)
      ⟨p, [], none, none, none, none, rfl, same_upd hp, hp, upd_same, .nil, Nat.le_refl _⟩ (fun i σ H' _ ⟨_, _, _, _, _, _, _, sm, _⟩ => SqL.of (sm _ _ ha)) ?_ ?_⟩
    · rintro i x σ H1 hx ⟨l, ys, u1, u2, u3, u4, rfl, sm, nl, hl, hys, hlen1⟩
      obtain ⟨z, gz, fz⟩ := Pd.get hz hx
      have tk : zs.take (i + 1) = zs.take i ++ [z] := by rw [List.take_add_one, gz]; rfl
      have i9 : i < 9 := by
        have := (List.getElem?_eq_some_iff.mp hx).1
        omega
      have p9 : 2 ^ i ≤ 2 ^ 9 := pow_mono (by omega)
      have fz1 := fz.up sm
      rw [tk, srtZ_snoc]
      generalize srtZ (zs.take i) = L at hys
      refine gnm ?_
      refine asgLc ?_
      refine lc_filt (s := 5) (F := PartAt) (a := l) (xs := ys) (fun u => bef u z) ?_ hl hys (fun _ _ _ _ h s => h.up s) ?_ (by omega) ?_ ?_
      · exact fun k h => ⟨_, rfl, h⟩
      · show 5 < 6; decide
      · intro x1 z1 H2 s2 f2 kk hk
        exact ⟨_, rfl, _, rfl, x1, x, z1, z, rfl, f2, fz1.up s2, _, rfl, hk⟩
      intro H2 D2 ys2 s2 n2 h2 q2
      refine asgLc ?_
      refine lc_filt (s := 5) (F := PartAt) (a := l) (xs := ys) (zs := L) (fun u => bef z u) ?_ (s2 _ _ hl) (Pd.imp hys fun _ _ q => q.up s2) (fun _ _ _ _ h s => h.up s) ?_ (by omega) ?_ ?_
      · exact fun k h => ⟨_, rfl, h⟩
      · show 5 < 6; decide
      · intro x1 z1 H3 s3 f3 kk hk
        exact ⟨_, rfl, _, rfl, x, x1, z, z1, rfl, (fz1.up s2).up s3, f3, _, rfl, hk⟩
      intro H3 D3 ys3 s3 n3 h3 q3
      have l2 : ys2.length ≤ ys.length := by
        rw [Pd.len q2, Pd.len hys]
        exact List.length_filter_le _ _
      have l3 : ys3.length ≤ ys.length := by
        rw [Pd.len q3, Pd.len hys]
        exact List.length_filter_le _ _
      refine ⟨_, rfl, _, rfl, by show 1 ≤ sizeLine; decide, fun D4 n4 => ?_⟩
      have s4 := same_upd (o := .lst [x]) n4
      have h4 := upd_same (H := H3) (a := D4) (o := .lst [x])
      generalize upd H3 D4 (.lst [x]) = H4 at s4 h4 ⊢
      refine ⟨D2, D4, ys2, [x], rfl, rfl, s4 _ _ (s3 _ _ h2), h4, by show ys2.length + 1 ≤ 16777216; omega, fun D5 n5 => ?_⟩
      have s5 := same_upd (o := .lst (ys2 ++ [x])) n5
      have h5 := upd_same (H := H4) (a := D5) (o := .lst (ys2 ++ [x]))
      generalize upd H4 D5 (.lst (ys2 ++ [x])) = H5 at s5 h5 ⊢
      refine ⟨_, rfl, D5, D3, ys2 ++ [x], ys3, rfl, rfl, h5, s5 _ _ (s4 _ _ h3), by show (ys2 ++ [x]).length + ys3.length ≤ 16777216; rw [List.length_append, List.length_singleton]; omega, fun D6 n6 => ?_⟩
      have s6 := same_upd (o := .lst (ys2 ++ [x] ++ ys3)) n6
      have h6 := upd_same (H := H5) (a := D6) (o := .lst (ys2 ++ [x] ++ ys3))
      generalize upd H5 D6 (.lst (ys2 ++ [x] ++ ys3)) = H6 at s6 h6 ⊢
      have s25 : Same H1 H5 := ((s2.trans s3).trans s4).trans s5
      refine ⟨D6, _, _, _, _, _, rfl, (sm.trans s25).trans s6, Same.free (sm.trans s25) n6, h6, ?_, ?_⟩
      · exact Pd.append (Pd.append (Pd.imp q2 fun _ _ q => (((q.up s3).up s4).up s5).up s6) (.cons ((fz1.up s25).up s6) .nil)) (Pd.imp q3 fun _ _ q => ((q.up s4).up s5).up s6)
      · rw [List.length_append, List.length_append, List.length_singleton, Nat.pow_succ]
        omega
    · rintro σ H' ⟨l, ys, u1, u2, u3, u4, rfl, sm, nl, hl, hys, _⟩
      rw [List.take_of_length_le (by rw [Pd.len hz]; exact Nat.le_refl _)] at hys
      exact ⟨_, rfl, k H' l ys sm nl hl hys⟩
end
end BF
set_option maxHeartbeats 4000000
namespace BF
open PySem PySem.Spec PyProof.Rows L2
abbrev sAre : Stmt := top 22
section
variable {P : Program} {w : World} {K : PySem.W.Frag} {mg : Str → Option Value} {base : Heap} {CX : CXT} {f : Addr} {fd : FuncData} {C CI fI fD : Addr}
theorem RatV.updL {D : Addr} {H : Hp} {acc : List V} {o : HO} {v : V} {q : Rat} (h : H D = some (.lst acc)) (r : RatV C H v q) : RatV C (upd H D o) v q := by
  obtain ⟨a, e, dx, z⟩ := r
  exact ⟨a, e, dx, by rw [upd_ne (ne_of z h (by intro z; cases z))]; exact z⟩
/-- two fractions that are one -/
def OneR (C : Addr) (a b : Addr) (H : Hp) : Prop := ∃ q, RatO C H a q ∧ RatO C H b q
theorem eq_imp {fE : Addr} {fdE : FuncData} (GE : FnOk P w K mg base CX0 1 fE fdE ["self", "other"] (BF.spEq C)) : FnOk P w K mg base CX0 1 fE fdE ["self", "other"] (L2.spEq (OneR C)) :=
  GE.imp fun vs H Q E ⟨a, b, e, ⟨q, ha, hb⟩, k⟩ => ⟨_, _, q, q, e, ⟨a, rfl, ha⟩, ⟨b, rfl, hb⟩, by rw [decide_eq_true rfl]; exact k H L2.Ext.rfl'⟩
/-- == of two lists of the same fractions -/
theorem eq_rats {X : Cx} {fE : Addr} {fdE : FuncData} (GE : FnOk X.prog X.w X.K X.mg X.base CX0 1 fE fdE ["self", "other"] (BF.spEq C)) (mE : Meth X.K C "__eq__" fE) (bE : Binds X.K fdE ["self", "other"] []) (hr : Room 2 X.A) :
    OpR X (compareOp .Eq) (rEqG (DList (DIns C (OneR C)))) := by
  have mon : Mon (DIns C (OneR C)) := mon_ins fun a b H H' e ⟨q, ⟨d1, h1⟩, ⟨d2, h2⟩⟩ => ⟨q, ⟨d1, e _ _ h1⟩, ⟨d2, e _ _ h2⟩⟩
  have g : EqG X 1 (DIns C (OneR C)) := (rcG_ins (eq_imp GE) mE.at_ mE.fn bE pass0).eqG fun x y H ⟨a, b, _, _, _, _, h1, h2, _⟩ => ⟨a, b, h1, h2⟩
  exact op_eqG (rcG_list mon g) hr
theorem prs_of {H : Hp} : ∀ {xs ys : List V} {qs : List Rat}, Paired (RatV C H) xs qs → Paired (RatV C H) ys qs → Prs (DIns C (OneR C)) xs ys H
  | _, _, _, .nil, .nil => Prs.nil
  | _, _, _, .cons ⟨a, e1, dx, h1⟩ r1, .cons ⟨b, e2, dy, h2⟩ r2 => Prs.cons ⟨a, b, dx, dy, _, _, e1, e2, h1, h2, _, ⟨dx, h1⟩, ⟨dy, h2⟩⟩ (prs_of r1 r2)
def spAre (C : Addr) : Sp := fun vs H Q _ => ∃ a b xs ys zs, vs = [.ref a, .ref b] ∧ H a = some (.lst xs) ∧ Paired (RatV C H) xs (zs.map zR) ∧ H b = some (.lst ys) ∧ Paired (PartAt H) ys zs ∧ zs.length ≤ 1000 ∧ ∀ H', Same H H' → Q (.bl true) H'
abbrev nAre : List Str := ["_law_found", "_law_parts_here", "_law_due", "_law_one", "_law_part"]
theorem scAre : FnScope nAre ["_law_found", "_law_parts_here"] (defScope sAre) := ⟨rfl, rfl, rfl, by decide +kernel, rfl, by decide +kernel, by decide +kernel⟩
theorem ok_are {fN pO fO fE : Addr} {fdN fdE : FuncData} (B : Bl mg) (T : RT K mg C CI fI fD) (Y : RTy K C) (T2 : RT2 K C fN pO fO)
    (FN : FunD K "__init__" "Ratio.__init__" (defArgs sInit) (defBody sInit) (defScope sInit) [.int 1] [] fN fdN)
    (GN : FnOk P w K mg base (L2.CX P w) 2 fN fdN ["self", "top", "bottom"] (spInit K C CI))
    (GE : FnOk P w K mg base CX0 1 fE fdE ["self", "other"] (BF.spEq C)) (mE : Meth K C "__eq__" fE) (bE : Binds K fdE ["self", "other"] [])
    (F : FnP K "_law_are" "_law_are" sAre f fd) : FnOk P w K mg base CX0 4 f fd ["_law_found", "_law_parts_here"] (spAre C) := by
  have bN := bind2 FN
  refine F.ok scAre (fun vs H Q E h => ?_) (fun cdv A outer s H vs Q E hr h => ?_)
  · obtain ⟨a, b, xs, ys, zs, rfl, _⟩ := h
    rfl
  · obtain ⟨a, b, xs, ys, zs, rfl, ha, hxs, hb, hys, hzl, k⟩ := h
    have hr2 : Room 2 (A.deeper (envOfC "_law_are" (defScope sAre) s.heap.objs.size f cdv)) := hr.mono (by decide)
    refine ⟨_, PSs.nox (pss_cons (ps_if (PW.pt (pw_or (pt_not (pt_val (pe_callB call_isi (by rfl) B.isinstance boot_isinstance (pa_cons (pv 0) (pa_cons (pe_bltn (v := .ty "list") (by rfl) B.list boot_list rfl) pa_nil)))))
        (pw_or1 (pt_cmpR (op_neD hr.units) (pe_lc (own := [("_law_one", 3)]) (g := gName 3) (te := tVar 3) rfl scAre.nd (pi_list (pv 0)) (blkOk_by (N := nAre) (sc := defScope sAre) (by decide +kernel)) (fun _ _ _ _ _ => pg_name (i := 3) scAre.nd rfl (.inl rfl))
          (fun _ _ _ _ _ => pts_one (pt_not (pt_val (pe_callB (isiK K) (by rfl) B.isinstance boot_isinstance (pa_cons (pv 3) (pa_cons (pe_glob (v := .ref C) (by rfl) T.mgC rfl) pa_nil)))))) (fun _ _ _ _ _ => pv 3)) (pe_lst pa_nil) (nomark _)))))
        (pss_one (ps_ret pe_bl)) pss_nil)
      (pss_cons (ps_setLc (i := 2) (own := [("_law_part", 4)]) (g := gName 4) (tt := tYes) rfl scAre.nd rfl rfl (sw_true rfl rfl rfl (by decide +kernel)) (pi_list (pv 1)) (blkOk_by (N := nAre) (sc := defScope sAre) (by decide +kernel)) (fun _ _ _ _ _ => pg_name (i := 4) scAre.nd rfl (.inl rfl))
          (fun _ _ _ _ _ => pts_nil) (fun _ _ _ _ _ => pe_make T2.mkr GN hr (by rfl) T.mgC bN .nil passL (pa_cons (pe_ix (ixT K) (pv 4) pe_int (fun _ _ => rfl)) (pa_cons (pe_ix (ixT K) (pv 4) pe_int (fun _ _ => rfl)) pa_nil))))
      (pss_one (ps_ret (pe_cmpR (eq_rats GE mE bE hr2) (pv 0) (pv 2) (nomark _)))))), ?_⟩
    refine ⟨_, rfl, _, _, _, _, true, rfl, .ty _, .base (.lst ha), kit_ty (by decide +kernel), true, rfl, iteF ?_⟩
    have lx : xs.length ≤ 1000 := by rw [Pd.len hxs, List.length_map]; exact hzl
    have ly : ys.length ≤ 1000 := by rw [Pd.len hys]; exact hzl
    refine testOp ?_
    refine lc_filt (s := 3) (tl := tVar 0) (F := RatV C) (a := a) (xs := xs) (fun _ => false) ?_ ha hxs (fun _ _ _ _ h s => h.up s) ?_ lx ?_ ?_
    · exact fun k h => ⟨_, rfl, h⟩
    · show 3 < 5; decide
    · intro x q H1 s1 f1 kk hk
      obtain ⟨p, rfl, dx, hp⟩ := f1
      exact ⟨_, rfl, _, _, _, _, true, rfl, .own C, Y.ty T.cl hp, kit_self _, true, rfl, hk⟩
    intro H1 D1 ys1 s1 n1 h1 q1
    have e0 : (zs.map zR).filter (fun _ => false) = [] := List.filter_eq_nil_iff.mpr fun _ _ z => by cases z
    rw [e0] at q1
    cases q1
    refine ⟨Nat.zero_le _, fun p np => ?_⟩
    have s2 := same_upd (o := .lst []) np
    refine ⟨.list [], .list [], .lst (SqL.of (s2 _ _ h1)) .nil, .lst (SqL.of upd_same) .nil, shaped_ints [], shaped_ints [], _, rfl, ?_⟩
    rw [show PyData.eqv (.list []) (.list []) = true from eqv_ints_nil []]
    refine iteF ?_
    generalize upd H1 p (.lst []) = H2 at s2 ⊢
    have s02 := s1.trans s2
    refine nextE ?_
    dsimp only
    refine asgLc ?_
    refine lc_map (s := 4) (tl := tVar 1) (F := PartAt) (G := RatV C) (a := b) (xs := ys) (zs := zs) zR ?_ (s02 _ _ hb) (Pd.imp hys fun _ _ q => q.up s02) (fun _ _ _ _ h s => h.up s) (fun _ _ _ _ h s => h.up s) (fun _ _ _ _ _ _ h r => r.updL h) ?_ ly ?_ ?_
    · exact fun k h => ⟨_, rfl, h⟩
    · show 4 < 5; decide
    · intro x z H3 s3 f3 kk hk
      obtain ⟨t, b⟩ := z
      obtain ⟨p, rfl, hp, t0, b0, b1⟩ := f3
      simp only at hp t0 b0 b1
      refine ⟨_, rfl, p, _, 0, _, rfl, rfl, SqT.of hp, rfl, _, rfl, p, _, 1, _, rfl, rfl, SqT.of hp, rfl, fun x dx nx nd ne => ?_⟩
      exact ⟨x, dx, _, _, rfl, upd_same, .inl ⟨t, b, rfl, rfl, by omega, small8 (by omega), small8 (by omega), rfl, made (fun H4 v4 s4 hv4 => hk H4 v4 s4 hv4) x dx nx nd ne⟩⟩
    intro H3 D3 ys3 s3 n3 h3 q3
    refine ⟨_, rfl, _, rfl, ⟨a, D3, xs, ys3, rfl, rfl, s3 _ _ (s02 _ _ ha), h3, prs_of (Pd.imp hxs fun _ _ q => (q.up s02).up s3) q3⟩, fun H4 e4 => ?_⟩
    exact k H4 ((s02.trans s3).trans e4)
end
end BF
set_option maxHeartbeats 4000000
namespace BF
open PySem PySem.Spec PyProof.Rows L2
theorem divInt_lt {a b c d : Int} (hb : 0 < b) (hd : 0 < d) : (a * d < c * b) ↔ Rat.divInt a b < Rat.divInt c d := by
  have hb' : (0 : Rat) < (b : Rat) := by exact_mod_cast hb
  have hd' : (0 : Rat) < (d : Rat) := by exact_mod_cast hd
  rw [Rat.divInt_eq_div, Rat.divInt_eq_div, Rat.lt_div_iff hd']
  have e : (a : Rat) / b * d = (a * d : Rat) / b := by grind
  rw [e, Rat.div_lt_iff hb']
  norm_cast
abbrev Pos2 (z : Int × Int) : Prop := 0 < z.2
theorem bef_lt {z u : Int × Int} (hz : Pos2 z) (hu : Pos2 u) : bef z u = decide (zR z < zR u) := by
  unfold bef zR
  rw [decide_eq_decide]
  exact divInt_lt hz hu
theorem srtZ_pos : ∀ {zs : List (Int × Int)}, (∀ z ∈ zs, Pos2 z) → ∀ z ∈ srtZ zs, Pos2 z := by
  intro zs
  have h : ∀ (l acc : List (Int × Int)), (∀ z ∈ l, Pos2 z) → (∀ z ∈ acc, Pos2 z) → ∀ z ∈ l.foldl (fun L z => L.filter (fun u => bef u z) ++ [z] ++ L.filter (fun u => bef z u)) acc, Pos2 z := by
    intro l
    induction l with
    | nil => intro acc _ h; exact h
    | cons a l ih =>
      intro acc h1 h2
      refine ih _ (fun z hz => h1 z (List.mem_cons_of_mem _ hz)) fun z hz => ?_
      rcases List.mem_append.mp hz with hz | hz
      · rcases List.mem_append.mp hz with hz | hz
        · exact h2 z (List.mem_filter.mp hz).1
        · rw [List.mem_singleton.mp hz]; exact h1 a List.mem_cons_self
      · exact h2 z (List.mem_filter.mp hz).1
  intro hp
  exact h zs [] hp fun z hz => by cases hz
theorem filter_map_zR {L : List (Int × Int)} (p : Int × Int → Bool) (q : Rat → Bool) (h : ∀ u ∈ L, p u = q (zR u)) : (L.filter p).map zR = (L.map zR).filter q := by
  induction L with
  | nil => rfl
  | cons a L ih =>
    have ih := ih fun u hu => h u (List.mem_cons_of_mem _ hu)
    rw [List.filter_cons, List.map_cons, List.filter_cons, h a List.mem_cons_self]
    split
    · rw [List.map_cons, ih]
    · exact ih
/-- the law's own sorting and the program's -/
theorem srtZ_asc {zs : List (Int × Int)} (hp : ∀ z ∈ zs, Pos2 z) : (srtZ zs).map zR = ascR (zs.map zR) := by
  have h : ∀ n : Nat, (srtZ (zs.take n)).map zR = ascR ((zs.take n).map zR) := by
    intro n
    induction n with
    | zero => rfl
    | succ n ih =>
      cases e : zs[n]? with
      | none => 
        have l : zs.length ≤ n := List.getElem?_eq_none_iff.mp e
        rw [List.take_of_length_le (by omega)]
        rw [List.take_of_length_le l] at ih
        exact ih
      | some z =>
        have tk : zs.take (n + 1) = zs.take n ++ [z] := by rw [List.take_add_one, e]; rfl
        have hz : Pos2 z := hp z (List.mem_of_getElem? e)
        have hL := srtZ_pos fun u hu => hp u (List.mem_of_mem_take (i := n) hu)
        rw [tk, srtZ_snoc, List.map_append, List.map_append, List.map_append, List.map_singleton, ascR_snoc, insR_filter (srt_ascR _), ← ih]
        rw [filter_map_zR (fun u => bef u z) (fun r => decide (r < zR z)) fun u hu => bef_lt (hL u hu) hz, filter_map_zR (fun u => bef z u) (fun r => decide (zR z < r)) fun u hu => bef_lt hz (hL u hu)]
  have := h zs.length
  rwa [List.take_length] at this
/-! ### the law -/
abbrev sLaw : Stmt := top 23
abbrev nLaw : List Str := ["_law_script", "_law_pen_here", "_law_turn", "_law_parts_here", "_law_some", "_law_kept", "_law_due", "_law_at", "_law_part"]
section
variable {P : Program} {w : World} {K : PySem.W.Frag} {mg : Str → Option Value} {base : Heap} {CX : CXT} {f : Addr} {fd : FuncData} {C CI fI fD : Addr}
theorem scLaw : FnScope nLaw ["_law_script"] (defScope sLaw) := ⟨rfl, rfl, rfl, by decide +kernel, rfl, by decide +kernel, by decide +kernel⟩
def spLaw (K : PySem.W.Frag) : Sp := fun vs H Q _ => ∃ (a : Addr) (ns : List Int), vs = [.ref a] ∧ SqL K H a (ns.map V.int) ∧ ∀ H', Q (.bl true) H'
/-- all that the law calls -/
structure Cs (P : Program) (w : World) (K : PySem.W.Frag) (mg : Str → Option Value) (base : Heap) (C : Addr) : Prop where
  pen : Cal P w K mg base CX0 1 "_law_pen" ["_law_script"] (spPen K)
  draw : Cal P w K mg base CX0 1 "_law_draw" ["_law_pen_here", "_law_many"] spDraw
  parts : Cal P w K mg base CX0 2 "_law_parts" ["_law_pen_here"] spParts
  number : Cal P w K mg base CX0 4 "_law_number" ["_law_pen_here", "_law_part"] (spNumber C)
  sorted : Cal P w K mg base CX0 2 "_law_sorted" ["_law_parts_here"] spSorted
  are : Cal P w K mg base CX0 4 "_law_are" ["_law_found", "_law_parts_here"] (spAre C)
  asc : Cal P w K mg base CX0 5 "ascending" ["numbers"] (spAsc C)
  least : Cal P w K mg base CX0 5 "least" ["numbers"] (spEnd leastR C)
  great : Cal P w K mg base CX0 5 "greatest" ["numbers"] (spEnd greatR C)
  ascK : CalK P w K mg base CX0 5 "ascending" ["numbers"] ["numbers"] 0 (spAsc C) kcat
  leastK : CalK P w K mg base CX0 5 "least" ["numbers"] ["numbers"] 0 (spEnd leastR C) kcat
  greatK : CalK P w K mg base CX0 5 "greatest" ["numbers"] ["numbers"] 0 (spEnd greatR C) kcat
theorem pd_last {α β : Type} {F : α → β → Prop} {xs : List α} {L : List β} {z : β} (h : Paired F xs (L ++ [z])) : ∃ x, atI xs (-1) = some x ∧ F x z := by
  obtain ⟨x, e, f⟩ := Pd.getR h (show (L ++ [z])[L.length]? = some z by simp)
  have hl : xs.length = L.length + 1 := by rw [Pd.len h]; simp
  have tk : xs.take (L.length + 1) = xs.take L.length ++ [x] := by rw [List.take_add_one, e]; rfl
  rw [List.take_of_length_le (by omega)] at tk
  exact ⟨x, by rw [tk]; exact atI_last _ _, f⟩
theorem cut_take (ys : List V) (d : Nat) : cutV ys none (some (d : Int)) = ys.take d := by
  unfold cutV
  rw [HT.sIx_none, HT.sIx_nat]
  simp only [List.drop_zero, Nat.sub_zero]
  rw [List.take_eq_take_iff]
  omega
theorem pd_map {α β γ : Type} {F : α → γ → Prop} (g : β → γ) : ∀ {xs : List α} {zs : List β}, Paired (fun x z => F x (g z)) xs zs → Paired F xs (zs.map g)
  | _, _, .nil => .nil
  | _, _, .cons r t => .cons r (pd_map g t)
theorem isLeast_rev {q : Rat} {qs : List Rat} (h : IsLeast q qs.reverse) : IsLeast q qs := ⟨List.mem_reverse.mp h.1, fun r hr => h.2 r (List.mem_reverse.mpr hr)⟩
theorem isGreat_rev {q : Rat} {qs : List Rat} (h : IsGreat q qs.reverse) : IsGreat q qs := ⟨List.mem_reverse.mp h.1, fun r hr => h.2 r (List.mem_reverse.mpr hr)⟩
/-- the ends of the sorted parts are the least and the greatest number, however the list is told -/
theorem ends {zs : List (Int × Int)} (hp : ∀ z ∈ zs, Pos2 z) (hn : zs ≠ []) : ∃ z0 zl L, (srtZ zs)[0]? = some z0 ∧ srtZ zs = L ++ [zl] ∧
    (∀ q0, (zs.map zR)[0]? = some q0 → leastR q0 (zs.map zR) = zR z0 ∧ greatR q0 (zs.map zR) = zR zl) ∧
    (∀ q0, (zs.map zR).reverse[0]? = some q0 → leastR q0 (zs.map zR).reverse = zR z0 ∧ greatR q0 (zs.map zR).reverse = zR zl) := by
  have e := srtZ_asc hp
  have hne : srtZ zs ≠ [] := fun z => by
    rw [z] at e
    cases zs with
    | nil => exact hn rfl
    | cons a l =>
      have : zR a ∈ ascR ((a :: l).map zR) := mem_ascR.mpr (by simp)
      rw [← e] at this
      cases this
  obtain ⟨z0, h0⟩ : ∃ z0, (srtZ zs)[0]? = some z0 := by
    cases q : srtZ zs with
    | nil => exact absurd q hne
    | cons a l => exact ⟨a, rfl⟩
  have hl : srtZ zs = (srtZ zs).dropLast ++ [(srtZ zs).getLast hne] := (List.dropLast_concat_getLast hne).symm
  have a0 : IsLeast (zR z0) (zs.map zR) := isLeast_head (by rw [← e, List.getElem?_map, h0]; rfl)
  have al : IsGreat (zR ((srtZ zs).getLast hne)) (zs.map zR) := isGreat_last (L := (srtZ zs).dropLast.map zR) (by
    rw [← e]
    conv => lhs; rw [hl]
    rw [List.map_append]
    rfl)
  refine ⟨z0, _, _, h0, hl, fun q0 hq => ⟨?_, ?_⟩, fun q0 hq => ⟨?_, ?_⟩⟩
  · exact (isLeast_fold (List.mem_of_getElem? hq)).one a0
  · exact (isGreat_fold (List.mem_of_getElem? hq)).one al
  · exact (isLeast_rev (isLeast_fold (List.mem_of_getElem? hq))).one a0
  · exact (isGreat_rev (isGreat_fold (List.mem_of_getElem? hq))).one al
theorem partBd {z : Int × Int} (h : PartOk z.1 z.2) : Bd 30 (zR z) := bd_divInt (by have := h.2.1; omega) (by have := h.1; omega) (by have := h.2; omega)
theorem log30 {n : Nat} (h : n < 2 ^ 30) : n.log2 < 1920 := Nat.lt_of_lt_of_le (PySem.Flt.log2_lt_of (by decide) h) (by decide)
theorem shownBd {q : Rat} (h : Bd 30 q) : Shown q := ⟨log30 h.1, log30 (by rw [Int.natAbs_natCast]; exact h.2)⟩
theorem rtxt_len {q : Rat} (h : Shown q) : (rtxt q).length ≤ 4000 := by
  have l1 := int_text_len_1921 h.1
  have l2 := int_text_len_1921 h.2
  have z0 : (Str.empty : Str).length = 0 := rfl
  have z1 : ((("Ratio(" : String) : Str)).length = 6 := rfl
  have z2 : (((", " : String) : Str)).length = 2 := rfl
  have z3 : (((")" : String) : Str)).length = 1 := rfl
  unfold rtxt
  simp only [slen]
  omega
theorem listText_len (ts : List Str) (h : ∀ t ∈ ts, t.length ≤ 4000) : (listText ts).length ≤ ts.length * 4002 + 2 := by
  have piledLe : ∀ l : List Str, (∀ t ∈ l, t.length ≤ 4000) → piled l ≤ l.length * 4002 := by
    intro l
    induction l with
    | nil => intro _; simp [piled]
    | cons t l ih =>
      intro h
      have h1 := ih fun u hu => h u (List.mem_cons_of_mem _ hu)
      have h2 := h t List.mem_cons_self
      rw [piled_cons, List.length_cons, Nat.succ_mul]
      omega
  cases ts with
  | nil => rw [listText_nil]; decide
  | cons t r =>
    have hX : (listText (t :: r)).length = (textFrom 1 (("[" : Str) ++ (if (0 : Nat) > 0 then ", " else "" : String) ++ t) r).length + 1 := by
      show (textFrom 0 "[" (t :: r) ++ "]").length = _
      rw [strLen_append] <;> rfl
    have hY := textFrom_length_pos r 1 (("[" : Str) ++ (if (0 : Nat) > 0 then ", " else "" : String) ++ t) (by decide)
    have hZ : (("[" : Str) ++ (if (0 : Nat) > 0 then ", " else "" : String) ++ t).length = 1 + t.length := by
      rw [strLen_append, strLen_append] <;> rfl
    have h1 := piledLe r fun u hu => h u (List.mem_cons_of_mem _ hu)
    have h2 := h t List.mem_cons_self
    rw [hX, hY, hZ, List.length_cons, Nat.succ_mul]
    omega
/-- the texts of some numbers -/
theorem num_texts {X : Cx} {fR : Addr} {fdR : FuncData} (GR : FnOk X.prog X.w X.K X.mg X.base CX0 1 fR fdR ["self"] (spRepr C)) (mR : Meth X.K C "__repr__" fR) (bR : Binds X.K fdR ["self"] []) {H : Hp} :
    ∀ {xs : List V} {qs : List Rat}, Paired (Num C H) xs qs → (∀ q ∈ qs, Bd 30 q) → ∃ ts : List Str, ts.length = xs.length ∧ (∀ t ∈ ts, t.length ≤ 4000) ∧ ∀ (i : Nat) x, xs[i]? = some x → ∃ t, ts[i]? = some t ∧ RpAt X 20 H x t []
  | _, _, .nil, _ => ⟨[], rfl, (fun t h => by cases h), fun i x e => by simp at e⟩
  | _, _, .cons (a := v) (b := q) hv r, hb => by
    obtain ⟨ts, h1, h2, h3⟩ := num_texts GR mR bR r fun q hq => hb q (List.mem_cons_of_mem _ hq)
    have b30 := hb q List.mem_cons_self
    obtain ⟨t, ht, hl⟩ : ∃ t, RpAt X 20 H v t [] ∧ t.length ≤ 4000 := by
      rcases hv with ⟨p, rfl, dx, hp⟩ | ⟨i, rfl, rfl, _⟩
      · refine ⟨rtxt q, (rp_own (n := 1) GR bR pass0 mR.at_ mR.fn hp fun H' s => ?_).more (by decide) fun _ h => h, rtxt_len (shownBd b30)⟩
        exact ⟨_, q, rfl, ⟨p, rfl, dx, s _ _ hp⟩, shownBd b30, rfl, Same.refl _⟩
      · have e : (Rat.divInt i 1).num = i := by
          rw [num_nrm i 1 (by decide)]
          simp
        have li : i.natAbs.log2 < 1920 := log30 (by have := b30.1; rw [e] at this; exact this)
        exact ⟨_, rp_int li, Nat.le_trans (int_text_len_1921 li) (by decide)⟩
    refine ⟨t :: ts, by simp [h1], fun u hu => ?_, fun i x e => ?_⟩
    · rcases List.mem_cons.mp hu with rfl | hu
      · exact hl
      · exact h2 u hu
    · cases i with
      | zero =>
        simp at e
        subst e
        exact ⟨t, rfl, ht⟩
      | succ i =>
        simp at e
        simpa using h3 i x e
theorem ok_law {P : Program} {fR : Addr} {fdR : FuncData} (B : Bl mg) (T : RT K mg C CI fI fD) (c : Cs P w K mg base C) (GR : FnOk P w K mg base CX0 1 fR fdR ["self"] (spRepr C)) (mR : Meth K C "__repr__" fR) (bR : Binds K fdR ["self"] [])
    (F : FnP K "law" "law" sLaw f fd) : FnG P w K mg base CX0 31 f fd ["_law_script"] (spLaw K) := by
  refine FunD.okG F scLaw (fun vs H Q E h => ?_) (fun cdv A outer s H vs Q E hr hG h => ?_)
  · obtain ⟨a, ns, rfl, _⟩ := h
    rfl
  · obtain ⟨a, ns, rfl, hS, k⟩ := h
    have r1 := hr.mono (show 1 ≤ 30 by decide)
    have r2 := hr.mono (show 2 ≤ 30 by decide)
    have r4 := hr.mono (show 4 ≤ 30 by decide)
    have r5 := hr.mono (show 5 ≤ 30 by decide)
    have r22 := hr.mono (show 22 ≤ 30 by decide)
    refine ⟨_, PSs.nox (pss_cons (ps_set (i := 1) scLaw.nd rfl (.inr rfl) (pe_cal c.pen r1 (by rfl) pass0 (pa_cons (pv 0) pa_nil)))
      (pss_cons (ps_if (pt_cmpR (op_neD hr.units) (pe_cal c.asc r5 (by rfl) pass0 (pa_cons (pe_lst pa_nil) pa_nil)) (pe_lst pa_nil) (nomark _)) (pss_one (ps_ret pe_bl)) pss_nil)
      (pss_cons (ps_for PassesOwn.never rfl (pi_range1 rfl B.range (pa_cons pe_int pa_nil)) (pg_name (i := 2) scLaw.nd rfl (.inl rfl))
        (pss_cons (ps_setLc (i := 3) (own := [("_law_at", 7)]) (g := gName 7) (tt := tYes) rfl scLaw.nd rfl rfl (sw_true rfl rfl rfl (by decide +kernel)) (pi_range1 rfl B.range (pa_cons (pe_op op_add pe_int (pe_cal c.draw r1 (by rfl) pass0 (pa_cons (pv 1) (pa_cons pe_int pa_nil)))) pa_nil))
          (blkOk_by (N := nLaw) (sc := defScope sLaw) (by decide +kernel)) (fun _ _ _ _ _ => pg_name (i := 7) scLaw.nd rfl (.inl rfl)) (fun _ _ _ _ _ => pts_nil) (fun _ _ _ _ _ => pe_cal c.parts r2 (by rfl) pass0 (pa_cons (pv 1) pa_nil)))
        (pss_cons (ps_set (i := 3) scLaw.nd rfl (.inl rfl) (pe_op op_cat (pv 3) (pe_slice sl_list (pv 3) po_none (po_some (pe_cal c.draw r1 (by rfl) pass0 (pa_cons (pv 1) (pa_cons pe_int pa_nil)))))))
        (pss_cons (ps_setLc (i := 4) (own := [("_law_part", 8)]) (g := gName 8) (tt := tYes) rfl scLaw.nd rfl rfl (sw_true rfl rfl rfl (by decide +kernel)) (pi_list (pv 3))
          (blkOk_by (N := nLaw) (sc := defScope sLaw) (by decide +kernel)) (fun _ _ _ _ _ => pg_name (i := 8) scLaw.nd rfl (.inl rfl)) (fun _ _ _ _ _ => pts_nil) (fun _ _ _ _ _ => pe_cal c.number r4 (by rfl) pass0 (pa_cons (pv 1) (pa_cons (pv 8) pa_nil))))
        (pss_cons (ps_set (i := 5) scLaw.nd rfl (.inl rfl) (pe_callB (call_repr_lst r22 hG) (by rfl) B.repr (by decide +kernel) (pa_cons (pv 4) pa_nil)))
        (pss_cons (ps_set (i := 6) scLaw.nd rfl (.inl rfl) (pe_cal c.sorted r2 (by rfl) pass0 (pa_cons (pv 3) pa_nil)))
        (pss_cons (ps_if (PW.pt (pw_or (pt_not (pt_val (pe_cal c.are r4 (by rfl) pass0 (pa_cons (pe_cal c.asc r5 (by rfl) pass0 (pa_cons (pv 4) pa_nil)) (pa_cons (pv 6) pa_nil)))))
            (pw_or1 (pt_not (pt_val (pe_cal c.are r4 (by rfl) pass0 (pa_cons (pe_calK0 c.ascK r5 (by rfl) pass0 (pk_cons (pe_revL (pv 4)) pk_nil)) (pa_cons (pv 6) pa_nil)))))))) (pss_one (ps_ret pe_bl)) pss_nil)
        (pss_cons (ps_if (pt_not (pt_val (pe_cal c.are r4 (by rfl) pass0 (pa_cons (pe_lst (pa_cons (pe_cal c.least r5 (by rfl) pass0 (pa_cons (pv 4) pa_nil)) (pa_cons (pe_cal c.great r5 (by rfl) pass0 (pa_cons (pv 4) pa_nil)) pa_nil)))
            (pa_cons (pe_lst (pa_cons (pe_ix ix_list (pv 6) pe_int (fun _ _ => rfl)) (pa_cons (pe_ix ix_list (pv 6) (pe_un un_neg pe_int) (fun _ _ => rfl)) pa_nil))) pa_nil))))) (pss_one (ps_ret pe_bl)) pss_nil)
        (pss_cons (ps_if (pt_not (pt_val (pe_cal c.are r4 (by rfl) pass0 (pa_cons (pe_lst (pa_cons (pe_calK0 c.leastK r5 (by rfl) pass0 (pk_cons (pe_revL (pv 4)) pk_nil)) (pa_cons (pe_calK0 c.greatK r5 (by rfl) pass0 (pk_cons (pe_revL (pv 4)) pk_nil)) pa_nil)))
            (pa_cons (pe_lst (pa_cons (pe_ix ix_list (pv 6) pe_int (fun _ _ => rfl)) (pa_cons (pe_ix ix_list (pv 6) (pe_un un_neg pe_int) (fun _ _ => rfl)) pa_nil))) pa_nil))))) (pss_one (ps_ret pe_bl)) pss_nil)
        (pss_one (ps_if (pt_cmpR op_ne (pe_callB (call_repr_lst r22 hG) (by rfl) B.repr (by decide +kernel) (pa_cons (pv 4) pa_nil)) (pv 5) (nomark _)) (pss_one (ps_ret pe_bl)) pss_nil)))))))))))
      (pss_one (ps_ret pe_bl))))), ?_⟩
    refine ⟨_, rfl, a, ns, rfl, hS, fun H1 Pn c1 s1 nP pen0 => ?_⟩
    refine ⟨Nat.zero_le _, fun e ne => ?_⟩
    have se := same_upd (o := .lst []) ne
    refine ⟨e, [], [], rfl, ⟨upd_same, .nil, (fun q h => by cases h), Nat.zero_le _⟩, fun H2 l2 ys2 s2 n2 h2 q2 => ?_⟩
    cases q2
    refine ⟨Nat.zero_le _, fun e3 ne3 => ?_⟩
    have s3 := same_upd (o := .lst []) ne3
    refine ⟨.list [], .list [], .lst (SqL.of (s3 _ _ h2)) .nil, .lst (SqL.of upd_same) .nil, shaped_ints [], shaped_ints [], _, rfl, ?_⟩
    rw [show PyData.eqv (.list []) (.list []) = true from eqv_ints_nil []]
    refine iteF ?_
    have pen3 : Pen (upd H2 e3 (.lst [])) Pn c1 0 := ((pen0.up se).up s2).up s3
    generalize upd H2 e3 (.lst []) = H3 at pen3
    refine ⟨6, rfl, by decide, by decide, for_range (n := 6) (fun i σ H' => ∃ u2 u3 u4 u5 u6 u7 u8, σ = [some (.ref a), some (.ref Pn), u2, u3, u4, u5, u6, u7, u8] ∧ Pen H' Pn c1 (100 * i))
      ⟨none, none, none, none, none, none, none, rfl, pen3⟩ ?_ ?_⟩
    · rintro i σ H4 hi ⟨u2, u3, u4, u5, u6, u7, u8, rfl, pen4⟩
      refine gnm ?_
      refine asgLc ?_
      refine lcE ?_
      refine ⟨_, rfl, Pn, c1, 100 * i, 7, rfl, pen4, by omega, by decide, by decide, fun H5 d5 o5 pen5 hd5 => ?_⟩
      refine ⟨_, _, rfl, rfl, 1 + (d5 : Int), rfl, by omega, by omega, ?_⟩
      have en : (1 + (d5 : Int)).toNat = 1 + d5 := by omega
      rw [en]
      refine lc_rngP (s := 7) (n := 1 + d5) (d := 5) (G := PartAt) pen5 (by omega) (fun _ _ _ _ _ g p o => g.off p o) (fun D H acc o v z hd g => ?_) ?_ ?_
      · obtain ⟨p, e, h1, h2⟩ := g
        exact ⟨p, e, by rw [upd_ne (ne_of h1 hd (by intro z; cases z))]; exact h1, h2⟩
      · intro i' H6 j hi' o6 hj pen6 kk hk
        exact ⟨_, rfl, Pn, c1, j, rfl, pen6, by omega, fun H7 v z o7 pen7 hz => hk H7 v z o7 pen7 hz⟩
      intro H6 D6 ys6 zs6 o6 n6 h6 pen6 pr6 zl6
      have dP6 : D6 ≠ Pn := pen5.fresh n6
      have l6 : ys6.length = 1 + d5 := (Pd.len pr6).trans zl6
      refine ⟨_, rfl, _, rfl, _, rfl, Pn, c1, _, 3, rfl, pen6, by omega, by decide, by decide, fun H7 d7 o7 pen7 hd7 => ⟨_, rfl, D6, _, rfl, SqL.of (o7 _ _ dP6 h6), fun p8 n8 => ?_⟩⟩
      rw [cut_take]
      have s8 := same_upd (o := .lst (ys6.take d7)) n8
      have h8 := upd_same (H := H7) (a := p8) (o := .lst (ys6.take d7))
      have pen8 := pen7.up s8
      generalize upd H7 p8 (.lst (ys6.take d7)) = H8 at s8 h8 pen8 ⊢
      have tl : (ys6.take d7).length ≤ 2 := by rw [List.length_take]; omega
      refine ⟨D6, p8, ys6, _, rfl, rfl, s8 _ _ (o7 _ _ dP6 h6), h8, by show ys6.length + (ys6.take d7).length ≤ 16777216; omega, fun D9 n9 => ?_⟩
      have s9 := same_upd (o := .lst (ys6 ++ ys6.take d7)) n9
      have h9 := upd_same (H := H8) (a := D9) (o := .lst (ys6 ++ ys6.take d7))
      have pen9 := pen8.up s9
      have dP9 : D9 ≠ Pn := pen8.fresh n9
      generalize upd H8 D9 (.lst (ys6 ++ ys6.take d7)) = H9 at s9 h9 pen9 ⊢
      have pr9 : Paired (PartAt H9) (ys6 ++ ys6.take d7) (zs6 ++ zs6.take d7) := by
        have q : Paired (PartAt H9) ys6 zs6 := Pd.imp pr6 fun _ _ z => ((z.off pen6 o7).up s8).up s9
        exact Pd.append q (Pd.take d7 q)
      have l9 : (ys6 ++ ys6.take d7).length ≤ 9 := by rw [List.length_append]; omega
      have z9n : zs6 ++ zs6.take d7 ≠ [] := fun z => by
        have hz6 : zs6 = [] := (List.append_eq_nil_iff.mp z).1
        rw [hz6] at zl6
        simp at zl6
        omega
      have zl9 : (zs6 ++ zs6.take d7).length ≤ 9 := by rw [← Pd.len pr9]; exact l9
      generalize ys6 ++ ys6.take d7 = ys9 at h9 pr9 l9
      generalize zs6 ++ zs6.take d7 = zs9 at pr9 z9n zl9
      have ok9 : ∀ z ∈ zs9, PartOk z.1 z.2 := fun z hz => by
        obtain ⟨j, hj, e⟩ := List.mem_iff_getElem.mp hz
        obtain ⟨x, _, p, _, _, h⟩ := Pd.getR pr9 (show zs9[j]? = some z by rw [List.getElem?_eq_getElem hj, e])
        exact h
      refine gnm ?_
      dsimp only
      refine asgLc ?_
      refine lcE ?_
      refine ⟨_, rfl, D9, rfl, ⟨_, SqL.of h9⟩, ?_⟩
      refine lc_lstP (s := 8) (d := 2) (F := PartAt) (G := fun H v z => Num C H v (zR z)) pen9 (by omega) h9 dP9 pr9 (fun _ _ _ _ _ g p o => g.off p o) (fun _ _ _ _ _ g p o => g.off p o) (fun D H acc o v z hd g => g.imp (fun r => r.updL hd) id) ?_ ?_
      · intro x z H10 j hz o10 hj pen10 fx kk hk
        exact ⟨_, rfl, _, rfl, Pn, c1, j, x, z, rfl, pen10, by omega, fx, fun H11 v o11 pen11 hv => hk H11 v o11 pen11 hv⟩
      intro H10 D10 vs10 o10 n10 h10 pen10 pr10
      have h9' := o10 _ _ dP9 h9
      have pr9' : Paired (PartAt H10) ys9 zs9 := Pd.imp pr9 fun _ _ z => z.off pen9 o10
      have prN : Paired (Num C H10) vs10 (zs9.map zR) := pd_map zR pr10
      have bd30 : ∀ q ∈ zs9.map zR, Bd 30 q := fun q hq => by
        obtain ⟨z, hz, rfl⟩ := List.mem_map.mp hq
        exact partBd (ok9 z hz)
      have bd8 : ∀ q ∈ zs9.map zR, Bd 8000 q := fun q hq => (bd30 q hq).mono (by decide)
      have l10 : vs10.length ≤ 9 := by rw [Pd.len pr10]; exact zl9
      have pos9 : ∀ z ∈ zs9, Pos2 z := fun z hz => by have := (ok9 z hz).2.1; exact this
      obtain ⟨z0, zl, L9, e0, el, ends1, ends2⟩ := ends pos9 z9n
      have asc9 := srtZ_asc pos9
      have ln : zs9.map zR ≠ [] := fun z => z9n (List.map_eq_nil_iff.mp z)
      obtain ⟨ts, tsl, ts4, hT⟩ := num_texts (X := (cxOf CX0 P w K mg base nLaw "law" (defScope sLaw) f cdv A outer s H E).nox) GR mR bR prN bd30
      have szl : (listText ts).length ≤ sizeLine := Nat.le_trans (listText_len ts ts4) (by rw [tsl]; exact Nat.le_trans (show vs10.length * 4002 + 2 ≤ 9 * 4002 + 2 by omega) (by decide))
      refine ⟨_, rfl, D10, vs10, ts, rfl, h10, tsl, ⟨[], by simp, hT⟩, szl, fun H11 s11 => ?_⟩
      refine ⟨_, rfl, D9, ys9, zs9, rfl, s11 _ _ h9', Pd.imp pr9' (fun _ _ z => z.up s11), l9, fun H12 l12 ys12 s12 n12 h12 pr12 => ?_⟩
      have sA : Same H10 H12 := s11.trans s12
      have nums : ∀ {H'}, Same H12 H' → NumsAt C H' D10 vs10 (zs9.map zR) := fun {H'} s => ⟨(sA.trans s) _ _ h10, Pd.imp prN (fun _ _ z => z.up (sA.trans s)), bd8, by omega⟩
      have l12z : (srtZ zs9).length ≤ 1000 := by
        have e := congrArg List.length asc9
        have h := ascR_len (zs9.map zR)
        rw [List.length_map] at e h
        omega
      refine ⟨_, rfl, D10, vs10, _, rfl, nums (Same.refl _), fun H13 l13 ys13 s13 n13 h13 pr13 => ?_⟩
      refine ⟨_, rfl, l13, l12, ys13, ys12, srtZ zs9, rfl, h13, asc9 ▸ pr13, s13 _ _ h12, Pd.imp pr12 (fun _ _ z => z.up s13), l12z, fun H14 s14 => ?_⟩
      refine ⟨true, rfl, iteF ?_⟩
      refine ⟨_, rfl, D10, _, rfl, SqL.of ((sA.trans (s13.trans s14)) _ _ h10), fun p15 n15 => ?_⟩
      have s15 := same_upd (o := .lst vs10.reverse) n15
      have h15 := upd_same (H := H14) (a := p15) (o := .lst vs10.reverse)
      generalize upd H14 p15 (.lst vs10.reverse) = H15 at s15 h15 ⊢
      have sB : Same H12 H15 := (s13.trans s14).trans s15
      have revs : ∀ {H' p}, Same H12 H' → H' p = some (.lst vs10.reverse) → NumsAt C H' p vs10.reverse (zs9.map zR).reverse := fun {H' p} s e => ⟨e, Pd.rev (nums s).2.1, fun q hq => bd8 q (List.mem_reverse.mp hq), by rw [List.length_reverse]; omega⟩
      refine ⟨rfl, rfl, p15, vs10.reverse, (zs9.map zR).reverse, rfl, revs sB h15, fun H16 l16 ys16 s16 n16 h16 pr16 => ?_⟩
      rw [ascR_rev] at pr16
      have s17 : Same H12 H16 := sB.trans s16
      refine ⟨_, rfl, l16, l12, ys16, ys12, srtZ zs9, rfl, h16, asc9 ▸ pr16, s17 _ _ h12, Pd.imp pr12 (fun _ _ z => z.up s17), l12z, fun H18 s18 => ?_⟩
      refine ⟨true, rfl, iteF ?_⟩
      have sC : Same H12 H18 := s17.trans s18
      obtain ⟨q0, hq0⟩ : ∃ q0, (zs9.map zR)[0]? = some q0 := by
        cases e : zs9.map zR with
        | nil => exact absurd e ln
        | cons a l => exact ⟨a, rfl⟩
      obtain ⟨q1, hq1⟩ : ∃ q1, (zs9.map zR).reverse[0]? = some q1 := by
        cases e : (zs9.map zR).reverse with
        | nil => exact absurd (List.reverse_eq_nil_iff.mp e) ln
        | cons a l => exact ⟨a, rfl⟩
      obtain ⟨b1, b2⟩ := ends1 q0 hq0
      obtain ⟨b3, b4⟩ := ends2 q1 hq1
      obtain ⟨x0, ex0, fx0⟩ := Pd.getR pr12 e0
      obtain ⟨xl, exl, fxl⟩ := pd_last (el ▸ pr12)
      refine ⟨_, rfl, D10, vs10, _, q0, rfl, nums sC, hq0, fun H19 v19 s19 r19 => ?_⟩
      have sD : Same H12 H19 := sC.trans s19
      refine ⟨_, rfl, D10, vs10, _, q0, rfl, nums sD, hq0, fun H20 v20 s20 r20 => ⟨(show (2 : Nat) ≤ sizeLine by decide), fun p21 n21 => ?_⟩⟩
      have sE : Same H12 H20 := sD.trans s20
      have s21 := same_upd (o := .lst [v19, v20]) n21
      have h21 := upd_same (H := H20) (a := p21) (o := .lst [v19, v20])
      generalize upd H20 p21 (.lst [v19, v20]) = H21 at s21 h21 ⊢
      have sF : Same H12 H21 := sE.trans s21
      refine ⟨_, rfl, l12, ys12, 0, x0, rfl, rfl, SqL.of (sF _ _ h12), atI_nat (j := 0) ex0, ?_⟩
      refine ⟨_, rfl, 1, rfl, l12, ys12, -1, xl, rfl, rfl, SqL.of (sF _ _ h12), exl, (show (2 : Nat) ≤ sizeLine by decide), fun p22 n22 => ?_⟩
      have s22 := same_upd (o := .lst [x0, xl]) n22
      have h22 := upd_same (H := H21) (a := p22) (o := .lst [x0, xl])
      generalize upd H21 p22 (.lst [x0, xl]) = H22 at s22 h22 ⊢
      have sG : Same H12 H22 := sF.trans s22
      refine ⟨p21, p22, [v19, v20], [x0, xl], [z0, zl], rfl, s22 _ _ h21, .cons (b1 ▸ ((r19.up s20).up s21).up s22) (.cons (b2 ▸ (r20.up s21).up s22) .nil), h22, .cons (fx0.up sG) (.cons (fxl.up sG) .nil), (show (2 : Nat) ≤ 1000 by decide), fun H23 s23 => ?_⟩
      refine ⟨true, rfl, iteF ?_⟩
      have sH : Same H12 H23 := sG.trans s23
      refine ⟨_, rfl, D10, _, rfl, SqL.of ((sA.trans sH) _ _ h10), fun p24 n24 => ?_⟩
      have s24 := same_upd (o := .lst vs10.reverse) n24
      have h24 := upd_same (H := H23) (a := p24) (o := .lst vs10.reverse)
      generalize upd H23 p24 (.lst vs10.reverse) = H24 at s24 h24 ⊢
      have sI : Same H12 H24 := sH.trans s24
      refine ⟨rfl, rfl, p24, vs10.reverse, (zs9.map zR).reverse, q1, rfl, revs sI h24, hq1, fun H25 v25 s25 r25 => ?_⟩
      have sJ : Same H12 H25 := sI.trans s25
      refine ⟨_, rfl, D10, _, rfl, SqL.of ((sA.trans sJ) _ _ h10), fun p26 n26 => ?_⟩
      have s26 := same_upd (o := .lst vs10.reverse) n26
      have h26 := upd_same (H := H25) (a := p26) (o := .lst vs10.reverse)
      generalize upd H25 p26 (.lst vs10.reverse) = H26 at s26 h26 ⊢
      have sK : Same H12 H26 := sJ.trans s26
      refine ⟨rfl, rfl, p26, vs10.reverse, (zs9.map zR).reverse, q1, rfl, revs sK h26, hq1, fun H27 v27 s27 r27 => ⟨(show (2 : Nat) ≤ sizeLine by decide), fun p28 n28 => ?_⟩⟩
      have sL : Same H12 H27 := sK.trans s27
      have s28 := same_upd (o := .lst [v25, v27]) n28
      have h28 := upd_same (H := H27) (a := p28) (o := .lst [v25, v27])
      generalize upd H27 p28 (.lst [v25, v27]) = H28 at s28 h28 ⊢
      have sM : Same H12 H28 := sL.trans s28
      refine ⟨_, rfl, l12, ys12, 0, x0, rfl, rfl, SqL.of (sM _ _ h12), atI_nat (j := 0) ex0, ?_⟩
      refine ⟨_, rfl, 1, rfl, l12, ys12, -1, xl, rfl, rfl, SqL.of (sM _ _ h12), exl, (show (2 : Nat) ≤ sizeLine by decide), fun p29 n29 => ?_⟩
      have s29 := same_upd (o := .lst [x0, xl]) n29
      have h29 := upd_same (H := H28) (a := p29) (o := .lst [x0, xl])
      generalize upd H28 p29 (.lst [x0, xl]) = H29 at s29 h29 ⊢
      have sN : Same H12 H29 := sM.trans s29
      refine ⟨p28, p29, [v25, v27], [x0, xl], [z0, zl], rfl, s29 _ _ h28, .cons (b3 ▸ (((r25.up s26).up s27).up s28).up s29) (.cons (b4 ▸ (r27.up s28).up s29) .nil), h29, .cons (fx0.up sN) (.cons (fxl.up sN) .nil), (show (2 : Nat) ≤ 1000 by decide), fun H30 s30 => ?_⟩
      refine ⟨true, rfl, iteF ?_⟩
      have sO : Same H10 H30 := (sA.trans sN).trans s30
      refine ⟨_, rfl, D10, vs10, ts, rfl, sO _ _ h10, tsl, ⟨[], by simp, fun i x e => by
        obtain ⟨t, h1, h2⟩ := hT i x e
        exact ⟨t, h1, h2.up sO⟩⟩, szl, fun H31 s31 => ?_⟩
      refine ⟨_, rfl, rfl, _, rfl, ?_⟩
      rw [decide_eq_true rfl]
      refine iteF ?_
      exact ⟨_, _, _, _, _, _, _, rfl, ((pen10.up sO).up s31).mono (by omega)⟩
    · rintro σ H' ⟨u2, u3, u4, u5, u6, u7, u8, rfl, _⟩
      exact k H'
end
end BF
set_option maxHeartbeats 0
namespace BF
open PySem PySem.Spec PyProof.Rows L2
def fn : List DefA := [⟨aG "is_integer", "is_integer", "is_integer", sIsInt, [], []⟩, ⟨aG "divisor", "divisor", "divisor", sDivisor, [], []⟩, ⟨aM "Ratio" "__init__", "__init__", "Ratio.__init__", sInit, [.int 1], []⟩,
  ⟨aC "Ratio" "of", "of", "Ratio.of", sOf, [], []⟩, ⟨aM "Ratio" "under", "under", "Ratio.under", sUnder, [], []⟩, ⟨aM "Ratio" "__eq__", "__eq__", "Ratio.__eq__", sEq, [], []⟩, ⟨aM "Ratio" "__repr__", "__repr__", "Ratio.__repr__", sRepr, [], []⟩,
  ⟨aG "ascending", "ascending", "ascending", sAsc, [], []⟩, ⟨aG "least", "least", "least", sLeast, [], []⟩, ⟨aG "greatest", "greatest", "greatest", sGreatest, [], []⟩,
  ⟨aG "_law_pen", "_law_pen", "_law_pen", sPen, [], []⟩, ⟨aG "_law_draw", "_law_draw", "_law_draw", sDraw, [], []⟩, ⟨aG "_law_parts", "_law_parts", "_law_parts", sParts, [], []⟩, ⟨aG "_law_number", "_law_number", "_law_number", sNumber, [], []⟩,
  ⟨aG "_law_before", "_law_before", "_law_before", sBefore, [], []⟩, ⟨aG "_law_sorted", "_law_sorted", "_law_sorted", sSorted, [], []⟩, ⟨aG "_law_are", "_law_are", "_law_are", sAre, [], []⟩, ⟨aG "law", "law", "law", sLaw, [], []⟩]
def fas : List He.Fa := [.free "isinstance", .free "int", .free "bool", .free "abs", .free "len", .free "list", .free "range", .free "repr", .free "str",
  .cls "Ratio", .noat "Ratio" "top", .noat "Ratio" "bottom", .glo "Ratio", .glo "is_integer", .glo "divisor", .glo "InvalidRatio", .exc "InvalidRatio", .mkr "Ratio",
  .meth "Ratio" "under", .meth "Ratio" "__eq__", .meth "Ratio" "__repr__", .glo "ascending", .glo "least", .glo "greatest", .glo "_law_pen", .glo "_law_draw", .glo "_law_parts", .glo "_law_number", .glo "_law_before", .glo "_law_sorted", .glo "_law_are", .glo "law"]
def ex (K : PySem.W.Frag) : Bool := (fas.all fun f => f.ok K) && (creadB K "Ratio" && (cmetB K "Ratio" "of" && (decide (PySem.W.kitOne K (.type "int") (.ref (He.ga K "Ratio")) = some false) &&
  (He.eqO (PySem.W.findIn K (.ref (He.ga K "Ratio")) "__class__") (some (some (.builtin "object.__class__"))) && (He.eqO (PySem.W.specialIn K (.builtin "object.__class__") "__get__") (some (some (.builtin "getset_descriptor.__get__"))) &&
  (decide (PySem.W.takesIn K (.builtin "object.__class__") = some true) && decide (PySem.W.mroIn K (He.ga K "Ratio") (.type "object") = some true)))))))
abbrev R : PySem.W.OpenRow := PySem.W.OpenLaw.row PySem.Challenge.rw_betweenfaces_k04_numbers_in_order
abbrev hk : PySem.W.Hook := hookB 5 fn ex
def ob (s : PySem.W.SharedT) : SeenB := seeBG 5 fn ex (HandSHeadRun.getT s)
theorem ob_eq (s : PySem.W.SharedT) : ob s = hk.obs s.abs := seeBG_eq (HandSHeadRun.getT_eq s)
def names : List PySem.Str := ["_wall", "FaceError", "InvalidRatio", "FIGURES", "MOST_FIGURES", "is_integer", "divisor", "is_written", "is_ratio_text", "Ratio", "ascending", "least", "greatest", "_law_pen", "_law_draw", "_law_parts", "_law_number", "_law_before", "_law_sorted", "_law_are"]
theorem run (w : World) : HandSHeadRun.RunEq R (PySem.W.view R.prog [23]) hk ob 4000 names w := by
  intro os
  kernel_rfl
end BF
set_option maxHeartbeats 0
namespace BF
open PySem PySem.Spec PyProof.Rows L2
theorem facts {P : Program} {w : World} {K : PySem.W.Frag} {h : Heap} {mg : Str → Option Value} {f : Addr} (X : K.In h) (G : h.Ns mainGlobals mg) (hfa : mg ("law" : Str) = some (.ref f)) (c : SaysB fn ex K) :
    ∃ fd : FuncData, (∀ (s : Shared) (v : Value), BindsTo s fd ⟨[v], []⟩ [("_law_script", v)]) ∧ ∀ base : Heap, K.In base → base.Ns mainGlobals mg → FnG P w K mg base CX0 31 f fd ["_law_script"] (spLaw K) := by
  obtain ⟨m1, m2⟩ := He.ba c.more
  obtain ⟨m2, m3⟩ := He.ba m2
  obtain ⟨m3, m4⟩ := He.ba m3
  obtain ⟨m4, m5⟩ := He.ba m4
  obtain ⟨m5, m6⟩ := He.ba m5
  obtain ⟨m6, m7⟩ := He.ba m6
  obtain ⟨m7, m8⟩ := He.ba m7
  have fact : ∀ {f : He.Fa}, f ∈ fas → f.ok K = true := fun {f} h => List.all_eq_true.mp m1 f h
  have free : ∀ {x : Str}, He.Fa.free x ∈ fas → mg x = none := fun h => He.free_ok X G (fact h)
  have glo : ∀ {x : Str}, He.Fa.glo x ∈ fas → mg x = some (.ref (He.ga K x)) := fun h => He.glo_ok X G (fact h)
  have B : Bl mg := ⟨free (by simp [fas]), free (by simp [fas]), free (by simp [fas]), free (by simp [fas]), free (by simp [fas]), free (by simp [fas]), free (by simp [fas]), free (by simp [fas]), free (by simp [fas])⟩
  obtain ⟨e1, e2, e3, e4⟩ := He.exc_ok (fact (f := .exc "InvalidRatio") (by simp [fas]))
  have T : RT K mg (He.ga K "Ratio") (He.ga K "InvalidRatio") (He.ga K "is_integer") (He.ga K "divisor") := ⟨He.cls_ok (fact (by simp [fas])), He.noat_ok (fact (by simp [fas])), He.noat_ok (fact (by simp [fas])), glo (by simp [fas]), glo (by simp [fas]), glo (by simp [fas]), glo (by simp [fas]), e1, e2, e3, e4⟩
  have Y : RTy K (He.ga K "Ratio") := ⟨He.eqO_ok m5, He.eqO_ok m6, of_decide_eq_true m7, of_decide_eq_true m8⟩
  have T2 : RT2 K (He.ga K "Ratio") (He.ma K (He.ga K "Ratio") "__init__") (He.ma K (He.ga K "Ratio") "of") (aC "Ratio" "of" K) := ⟨He.mkr_ok (fact (by simp [fas])), cread_ok m2, cmet_ok m3, of_decide_eq_true m4⟩
  have mU := He.meth_ok (fact (f := .meth "Ratio" "under") (by simp [fas]))
  have mE := He.meth_ok (fact (f := .meth "Ratio" "__eq__") (by simp [fas]))
  have mR := He.meth_ok (fact (f := .meth "Ratio" "__repr__") (by simp [fas]))
  obtain ⟨fdI, FI⟩ : ∃ fd, FnP K "is_integer" "is_integer" sIsInt (He.ga K "is_integer") fd := c.def_ 0
  obtain ⟨fdD, FD⟩ : ∃ fd, FnP K "divisor" "divisor" sDivisor (He.ga K "divisor") fd := c.def_ 1
  obtain ⟨fdN, FN⟩ : ∃ fd, FunD K "__init__" "Ratio.__init__" (defArgs sInit) (defBody sInit) (defScope sInit) [.int 1] [] (He.ma K (He.ga K "Ratio") "__init__") fd := c.def_ 2
  obtain ⟨fdO, FO⟩ : ∃ fd, FnP K "of" "Ratio.of" sOf (aC "Ratio" "of" K) fd := c.def_ 3
  obtain ⟨fdU, FU⟩ : ∃ fd, FnP K "under" "Ratio.under" sUnder (He.ma K (He.ga K "Ratio") "under") fd := c.def_ 4
  obtain ⟨fdE, FE⟩ : ∃ fd, FnP K "__eq__" "Ratio.__eq__" sEq (He.ma K (He.ga K "Ratio") "__eq__") fd := c.def_ 5
  obtain ⟨fdR, FR⟩ : ∃ fd, FnP K "__repr__" "Ratio.__repr__" sRepr (He.ma K (He.ga K "Ratio") "__repr__") fd := c.def_ 6
  obtain ⟨fdA, FA⟩ : ∃ fd, FnP K "ascending" "ascending" sAsc (He.ga K "ascending") fd := c.def_ 7
  obtain ⟨fdL, FL⟩ : ∃ fd, FnP K "least" "least" sLeast (He.ga K "least") fd := c.def_ 8
  obtain ⟨fdG, FG⟩ : ∃ fd, FnP K "greatest" "greatest" sGreatest (He.ga K "greatest") fd := c.def_ 9
  obtain ⟨fdP, FP⟩ : ∃ fd, FnP K "_law_pen" "_law_pen" sPen (He.ga K "_law_pen") fd := c.def_ 10
  obtain ⟨fdW, FW⟩ : ∃ fd, FnP K "_law_draw" "_law_draw" sDraw (He.ga K "_law_draw") fd := c.def_ 11
  obtain ⟨fdS, FS⟩ : ∃ fd, FnP K "_law_parts" "_law_parts" sParts (He.ga K "_law_parts") fd := c.def_ 12
  obtain ⟨fdM, FM⟩ : ∃ fd, FnP K "_law_number" "_law_number" sNumber (He.ga K "_law_number") fd := c.def_ 13
  obtain ⟨fdB, FB⟩ : ∃ fd, FnP K "_law_before" "_law_before" sBefore (He.ga K "_law_before") fd := c.def_ 14
  obtain ⟨fdQ, FQ⟩ : ∃ fd, FnP K "_law_sorted" "_law_sorted" sSorted (He.ga K "_law_sorted") fd := c.def_ 15
  obtain ⟨fdZ, FZ⟩ : ∃ fd, FnP K "_law_are" "_law_are" sAre (He.ga K "_law_are") fd := c.def_ 16
  obtain ⟨fd, F⟩ : ∃ fd, FnP K "law" "law" sLaw (He.ga K "law") fd := c.def_ 17
  have e := hfa.symm.trans (glo (x := "law") (by simp [fas]))
  cases e
  have b := FunD.bindsA (ps := ["_law_script"]) F fun _ _ _ _ _ _ us hl => match us, hl with | [_], _ => rfl
  refine ⟨fd, fun s v => b s [v] rfl, fun base _ _ => ?_⟩
  have mW : mg "_law_draw" = some (.ref (He.ga K "_law_draw")) := glo (by simp [fas])
  have GN : FnOk P w K mg base (L2.CX P w) 2 _ fdN ["self", "top", "bottom"] (spInit K (He.ga K "Ratio") (He.ga K "InvalidRatio")) := ok_init B T FI FD FN
  have GO : FnOk P w K mg base (L2.CX P w) 4 _ fdO ["cls", "number"] (spOf (He.ga K "Ratio")) := ok_of B T Y T2 FI FD FN FO
  have bO : Binds K fdO ["cls", "number"] [] := FO.bindsN fun _ _ _ _ _ _ us hl => match us, hl with | [_, _], _ => rfl
  have GU : FnOk P w K mg base CX0 1 _ fdU ["self", "other"] (spUnder (He.ga K "Ratio")) := ok_under T FU
  have bU : Binds K fdU ["self", "other"] [] := FU.bindsN fun _ _ _ _ _ _ us hl => match us, hl with | [_, _], _ => rfl
  have GE : FnOk P w K mg base CX0 1 _ fdE ["self", "other"] (BF.spEq (He.ga K "Ratio")) := ok_eq B T Y FE
  have bE : Binds K fdE ["self", "other"] [] := FE.bindsN fun _ _ _ _ _ _ us hl => match us, hl with | [_, _], _ => rfl
  have GR : FnOk P w K mg base CX0 1 _ fdR ["self"] (spRepr (He.ga K "Ratio")) := ok_repr T FR
  have bR : Binds K fdR ["self"] [] := FR.bindsN fun _ _ _ _ _ _ us hl => match us, hl with | [_], _ => rfl
  have GA : FnOk P w K mg base CX0 5 _ fdA ["numbers"] (spAsc (He.ga K "Ratio")) := ok_asc B T T2 mU GO bO GU bU FA
  have GL : FnOk P w K mg base CX0 5 _ fdL ["numbers"] (spEnd leastR (He.ga K "Ratio")) := ok_least B T T2 mU GO bO GU bU FL
  have GG : FnOk P w K mg base CX0 5 _ fdG ["numbers"] (spEnd greatR (He.ga K "Ratio")) := ok_greatest B T T2 mU GO bO GU bU FG
  have cs : Cs P w K mg base (He.ga K "Ratio") :=
    { pen := ⟨_, fdP, glo (by simp [fas]), FP.kp, ok_pen B FP, FP.bindsN fun _ _ _ _ _ _ us hl => match us, hl with | [_], _ => rfl⟩
      draw := ⟨_, fdW, mW, FW.kp, ok_draw B FW, FW.bindsN fun _ _ _ _ _ _ us hl => match us, hl with | [_, _], _ => rfl⟩
      parts := ⟨_, fdS, glo (by simp [fas]), FS.kp, ok_parts B FW mW FS, FS.bindsN fun _ _ _ _ _ _ us hl => match us, hl with | [_], _ => rfl⟩
      number := ⟨_, fdM, glo (by simp [fas]), FM.kp, ok_number B T T2 FW mW FN GN FM, FM.bindsN fun _ _ _ _ _ _ us hl => match us, hl with | [_, _], _ => rfl⟩
      sorted := ⟨_, fdQ, glo (by simp [fas]), FQ.kp, ok_sorted FB (glo (by simp [fas])) FQ, FQ.bindsN fun _ _ _ _ _ _ us hl => match us, hl with | [_], _ => rfl⟩
      are := ⟨_, fdZ, glo (by simp [fas]), FZ.kp, ok_are B T Y T2 FN GN GE mE bE FZ, FZ.bindsN fun _ _ _ _ _ _ us hl => match us, hl with | [_, _], _ => rfl⟩
      asc := ⟨_, fdA, glo (by simp [fas]), FA.kp, GA, FA.bindsN fun _ _ _ _ _ _ us hl => match us, hl with | [_], _ => rfl⟩
      least := ⟨_, fdL, glo (by simp [fas]), FL.kp, GL, FL.bindsN fun _ _ _ _ _ _ us hl => match us, hl with | [_], _ => rfl⟩
      great := ⟨_, fdG, glo (by simp [fas]), FG.kp, GG, FG.bindsN fun _ _ _ _ _ _ us hl => match us, hl with | [_], _ => rfl⟩
      ascK := ⟨_, fdA, kcat, glo (by simp [fas]), FA.kp, GA, kbn_of FA kcat (fun _ _ _ _ _ _ us ws h1 h2 => match us, ws, h1, h2 with | [], [_], _, _ => rfl) kcat_rel⟩
      leastK := ⟨_, fdL, kcat, glo (by simp [fas]), FL.kp, GL, kbn_of FL kcat (fun _ _ _ _ _ _ us ws h1 h2 => match us, ws, h1, h2 with | [], [_], _, _ => rfl) kcat_rel⟩
      greatK := ⟨_, fdG, kcat, glo (by simp [fas]), FG.kp, GG, kbn_of FG kcat (fun _ _ _ _ _ _ us ws h1 h2 => match us, ws, h1, h2 with | [], [_], _, _ => rfl) kcat_rel⟩ }
  exact ok_law B T cs GR mR bR F
end BF
open PySem PySem.W PySem.Calls PyProof.Rows
theorem PySem.Challenge.cw_betweenfaces_k04_numbers_in_order_holds : PySem.Challenge.rw_betweenfaces_k04_numbers_in_order.Holds := by
  w_on; o_law
  refine HandSHeadRun.head_any (r := OpenLaw.row PySem.Challenge.rw_betweenfaces_k04_numbers_in_order) (q := view (OpenLaw.row PySem.Challenge.rw_betweenfaces_k04_numbers_in_order).prog [23]) (H := BF.hk) (ob := BF.ob) (M := 4000) (loose := BF.names) (d := HandSHeadRun.topDef (OpenLaw.row PySem.Challenge.rw_betweenfaces_k04_numbers_in_order).prog 23) (kwd := []) BF.ob_eq
    (by kernel_rfl) (fun s => by kernel_rfl) BF.run (by kernel_rfl) (by kernel_rfl) (by kernel_rfl) (by rfl) (by first | assumption | decide +kernel) (by decide +kernel) ⟨rfl, rfl, rfl, rfl, rfl, by decide +kernel⟩ ?hw ?hc
  case hw => w_witness2
  case hc =>
    refine BF.walk_G (l := PySem.Challenge.rw_betweenfaces_k04_numbers_in_order) (n := 63) (k := 31) (x := "_law_script") (CX := fun _ => L2.CX0) rfl (by decide) (by kernel_rfl) ⟨rfl, by decide, by decide⟩ ?F (fun _ _ _ _ _ z => z)
    intro w mg fa h Y G hmg0
    obtain ⟨K, KX, c⟩ := Y
    have hmg : mg ("law" : PySem.Str) = some (.ref fa) := by
      have e : (HandSHeadRun.topDef (OpenLaw.row PySem.Challenge.rw_betweenfaces_k04_numbers_in_order).prog 23).name = ("law" : PySem.Str) := by kernel_rfl
      rw [← e]
      exact hmg0
    obtain ⟨fd, hb, hF⟩ := BF.facts (P := (PySem.Challenge.rw_betweenfaces_k04_numbers_in_order).prog) (w := w) KX G hmg c
    exact ⟨K, fd, BF.spLaw K, KX, hb, fun H a ns hl _ hS => ⟨a, ns, rfl, hS, fun _ => rfl⟩, hF⟩
