import PyProof.Rows.All
import Wide.All
import OpenK.AllK
import Wide.FinOn
import HandS.ForMost
import HandS.ForExc
import HandS.More
import HandS.Defaults
import HandS.HeadEnd
import HandS.Wide
import HandS.IsInst
import HandS.Flow
import HandS.Small
import HandS.Head0
import HandS.Head1
import HandS.Head2
import HandS.HeadHook1
import HandS.HeadHook2
import HandS.HeadHook3
import HandS.ClsMeth
import HandS.OwnEq
import HandS.DictComp
import HandS.Iter
import PyProof.EnumIter
import PyProof.EnumMake
import PyProof.EnumStmt
import PyProof.CollectWalk
import PyProof.ListNew
import HandS.Conv
import HandS.FStr
import HandS.Codes
import HandS.Style
import PySem.Challenge.RW_betweenfaces_k23_whole_moves_that_go_alo
set_option Elab.async false
set_option linter.all false
set_option maxRecDepth 100000
set_option maxHeartbeats 2000000
/-! Promises of defs that run where nothing is being shown (repr's guards are empty). -/
namespace BF
open PySem PySem.Spec PyProof.Rows L2

theorem gd_deeper (A : Around) (env : Env) : (A.deeper env).guards = A.guards := rfl
theorem gd_make (A : Around) (C : Addr) (us : List Value) (kw : List (Str × Value)) : (A.under (.builtin "type.__call__" ⟨.ref C :: us, kw⟩)).guards = A.guards := by
  rfl

/-- a def's promise, kept where the guards are empty -/
structure FnG (P : Program) (w : World) (K : PySem.W.Frag) (mg : Str → Option Value) (base : Heap) (CX : CXT) (k : Nat) (f : Addr) (fd : FuncData) (ps : List Str) (sp : Sp) : Prop where
  len : ∀ vs H Q E, sp vs H Q E → vs.length = ps.length
  go : ∀ (A : Around) (outer : List Env) (s : Shared) (H : Hp) (args : Args) (us : List Value) (vs : List V) (Q : VK) (E : XK), Room k A → A.guards = some [] → Env0 P w K mg base A outer s H → BindsTo s fd args (ps.zip us) → Vals vs us → sp vs H Q E →
    codeAny (model P w) A (.call (.ref f) args) (CR CX outer P w H s Q E) s

section
variable {P : Program} {w : World} {K : PySem.W.Frag} {mg : Str → Option Value} {base : Heap} {CX : CXT} {k : Nat} {f : Addr} {fd : FuncData} {ps : List Str} {sp : Sp}
theorem FnG.of (F : FnOk P w K mg base CX k f fd ps sp) : FnG P w K mg base CX k f fd ps sp :=
  ⟨F.len, fun A o s H ar us vs Q E r _ e b v h => F.run A o s H ar us vs Q E r e b v h⟩
theorem FnG.up {j : Nat} (F : FnG P w K mg base CX j f fd ps sp) (h : j ≤ k) : FnG P w K mg base CX k f fd ps sp :=
  ⟨F.len, fun A o s H ar us vs Q E r g e b v q => F.go A o s H ar us vs Q E (r.mono h) g e b v q⟩

/-- a def by its body, the guards being empty -/
theorem FunD.okG {x qual : Str} {params : Arguments} {body : List Stmt} {scope : Scope} {dvs : List V} {kws : List (Str × V)} {N : List Str}
    (F : FunD K x qual params body scope dvs kws f fd) (S : FnScope N ps scope) (len : ∀ vs H Q E, sp vs H Q E → vs.length = ps.length)
    (hb : ∀ (cdv : Value) (A : Around) (outer : List Env) (s : Shared) (H : Hp) (vs : List V) (Q : VK) (E : XK),
      Room k (A.deeper (envOfC qual scope s.heap.objs.size f cdv)) → (A.deeper (envOfC qual scope s.heap.objs.size f cdv)).guards = some [] → sp vs H Q E →
      ∃ t, PSs (cxOf CX P w K mg base N qual scope f cdv A outer s H E) body t ∧ t { nx := fun _ H' => Q .non H', rt := Q } (start N vs) H) :
    FnG P w K mg base CX (k + 1) f fd ps sp := by
  obtain ⟨⟨oc, od, dV, kV, doc, pm, an, cdv, ct, osl, rfl, lk, hcd, -, -⟩, -⟩ := F
  refine ⟨len, fun A outer s H args us vs Q E hr hg e0 bnd r hsp => ?_⟩
  have hl := len _ _ _ _ hsp
  have keep : ∀ b o, base.get? b = some o → s.heap.get? b = some o := fun b o e => (e0.bs b o e).1
  have KI : K.In s.heap := e0.mod.kin.keeps keep
  refine codeAny_call_function hr.depth (KI _ _ lk) rfl S.co S.gen rfl (PySem.W.codeRec_of KI hcd) (bnd _ _ _ _ ?_)
  refine wpAny_newFunctionEnv_cells S.kind (fun ⟨n, v⟩ hy => ?_) fun env he s1 x1 => ?_
  · cases S.par n (List.of_mem_zip hy).1 with
    | inl q => exact Or.inl q
    | inr q => exact Or.inr ⟨q, PySem.W.cellsFrom_some _ _ _ (Or.inl q)⟩
  · subst he
    refine ⟨(e0.mod.nolimit.keeps keep).keeps x1.toInCall.keep, codeAny_func ?_⟩
    obtain ⟨t, ht, hq⟩ := hb cdv A outer s H vs Q E (hr.deeper _) hg hsp
    have I := inv_start (CX := CX) (E := E) S hr.hd e0 hl r x1
    refine wpAny_mono (ht.run [] s1 (start N vs) H _ I hq) (fun fl s' hs => ?_) fun e s' hs => hs
    cases fl with
    | ret u =>
      obtain ⟨v, _, H', J, rv, q⟩ := hs
      exact ⟨v, H', J.os, J.bare, J.base, J.hok, rv, q⟩
    | next =>
      obtain ⟨_, H', J, q⟩ := hs
      exact ⟨V.non, H', J.os, J.bare, J.base, J.hok, rfl, q⟩
    | brk => exact hs.elim fun _ z => z.elim fun _ z => False.elim z.2
    | cont => exact hs.elim fun _ z => z.elim fun _ z => False.elim z.2
end

section
variable {X : Cx} {CX : CXT} {k : Nat} {f C : Addr} {fd : FuncData} {ps : List Str} {sp : Sp} {dvs : List V} {ds : List Value} {E : XK} {x m : Str} {p pos apos : Pos} {e o : Expr} {es : List Expr} {ta : TE} {t : TA}
theorem run_fnG {pins : List (Addr × Obj)} {σ : L2.St} {H : Hp} {s : Shared} {Q : VK} {us : List Value} {vs : List V} (F : FnG X.prog X.w X.K X.mg X.base CX k f fd ps sp)
    (hr : Room k X.A) (hG : X.A.guards = some []) (hb : Binds X.K fd ps ds) (hd : Vals dvs ds) (hx : Passes CX X E)
    (I : Inv X pins σ H s) (r : Vals vs us) (h : sp (vs ++ dvs) H Q E) : wpAny (model X.prog X.w) X.A (call (.ref f) us) (EP X pins σ Q) X.xe s := by
  have r2 : Vals (vs ++ dvs) (us ++ ds) := r.append hd
  have hl : (us ++ ds).length = ps.length := r2.length.symm.trans (F.len _ _ _ _ h)
  refine wpAny_call (codeAny_mono (F.go X.A X.stack s H ⟨us, []⟩ (us ++ ds) (vs ++ dvs) Q E hr hG I.env0 (hb s us I.kIn hl) r2 h) fun r s' hq => ?_)
  cases r with
  | error e => exact hx pins σ H s e s' I hq
  | ok fl => cases fl with
    | ret u => exact I.after hq
    | next => exact hq.elim
    | brk => exact hq.elim
    | cont => exact hq.elim
/-- f(e, ..) of a def that wants empty guards -/
theorem pe_callG (F : FnG X.prog X.w X.K X.mg X.base CX k f fd ps sp) (hr : Room k X.A) (hG : X.A.guards = some []) (hg : Gl X x) (hm : X.mg x = some (.ref f)) (hk : PySem.W.keepIn X.K (.ref f) = true)
    (hb : Binds X.K fd ps ds) (hd : Vals dvs ds) (hx : Passes CX X E) (ha : PA X (e :: es) t) (hdb : (x == ("__debug__" : Str)) = false := by decide)
    (he : starEach (e :: es) X.env = (false, eval e X.env) :: starEach es X.env := by rfl) (hpl : (backTo pos (starEach es X.env)).any (·.1) = false := by rfl) :
    PE X (.Call (.Name x p) (e :: es) [] pos) (tCall sp dvs E t) := by
  refine ⟨fun pins s σ H Q I h => wpAny_Call_Name_kw (ld_glob I hg hm ?_ hdb)⟩
  exact PySem.W.callWith_K (h₀ := X.base) I.ok.mod.kin hk (thn (ha.run pos pins s σ H _ I h) fun us s1 ⟨vs, H1, I1, r, q⟩ => ⟨I1.kIn, run_fnG F hr hG hb hd hx I1 r q⟩) he hpl
end

/-! ### the law's own end -/
theorem law_callG {P : Program} {w : World} {K : PySem.W.Frag} {mg mb : Str → Option Value} {CX : CXT} {k : Nat} {fa a : Addr} {fd : FuncData} {x : Str} {sp : Sp} {s1 : Shared} {vs : List Value} {ns : List Int}
    (KX : K.In s1.heap) (hns : s1.heap.Ns mainGlobals mg) (hb : s1.heap.Ns builtinsNs mb) (hbb : ∀ x : Str, x ≠ "__name__" → mb x = bootBuiltins x) (hlim : s1.heap.NoLimit) (hg : s1.gens = #[])
    (ha : s1.heap.get? a = some { cls := .type "list", data := .seq vs.toArray }) (hi : IntsAre vs ns) (hl : ns.length ≤ sizeLine) (hr : Room k callerA)
    (F : ∀ base : Heap, K.In base → base.Ns mainGlobals mg → FnG P w K mg base CX k fa fd [x] sp) (hbind : ∀ (s : Shared) (u : Value), BindsTo s fd ⟨[u], []⟩ [(x, u)])
    (hsp : ∀ H : Hp, Only H → SqL K H a (ns.map V.int) → sp [.ref a] H (fun v _ => v = .bl true) fun _ _ _ => False)
    (hCX : ∀ H e s', CX [] H s1 (fun _ _ _ => False) e s' → False) :
    codeAny (model P w) callerA (.call (.ref fa) ⟨[.ref a], []⟩) (fun r s' => r = .ok (.ret (.bool true)) ∧ OldK s1.heap s'.heap ∧ s'.os = s1.os ∧ AllBare s'.gens) s1 := by
  have rv := vals_ints hi
  have core : ∀ H : Hp, Only H → SqL K H a (ns.map V.int) → HOk P w H s1.heap → (∀ b, H b ≠ none → b = a) → (H a ≠ none → K.lookup a = none) →
      codeAny (model P w) callerA (.call (.ref fa) ⟨[.ref a], []⟩) (fun r s' => r = .ok (.ret (.bool true)) ∧ OldK s1.heap s'.heap ∧ s'.os = s1.os ∧ AllBare s'.gens) s1 := by
    intro H hO hS hok hA hK
    have only : ∀ {b : Addr}, b ≠ a → H b = none := fun {b} nb => Classical.byContradiction fun z => nb (hA b z)
    have ns2 : ∀ {b : Addr} {m : Str → Option Value}, s1.heap.Ns b m → (hidT s1.heap H).Ns b m := by
      rintro b m ⟨o, es, ep, e, d, r⟩
      refine ⟨o, es, ep, hidT_get e (only fun q => ?_), d, r⟩
      subst q
      rw [ha] at e
      cases e
      cases d
    have K2 : K.In (hidT s1.heap H) := fun b o e => hidT_get (KX b o e) (Classical.byContradiction fun z => by
      have q := hA b z
      subst q
      rw [hK z] at e
      cases e)
    obtain ⟨mc, l1, l2⟩ := hlim
    have e0 : Env0 P w K mg (hidT s1.heap H) callerA [] s1 H :=
      ⟨rfl, ⟨K2, ns2 hns, ⟨mb, ns2 hb, hbb⟩, ⟨mc, ns2 l1, l2⟩⟩, fun _ _ e => of_hidT e, Nat.le_of_eq (hidT_size _ _), trivial, (fun b z => nomatch (show b ∈ ([] : List Addr) from z)), hok, .of_eq hg⟩
    refine codeAny_mono ((F _ K2 (ns2 hns)).go callerA [] s1 H ⟨[.ref a], []⟩ [.ref a] [.ref a] _ _ hr rfl e0 (hbind s1 (.ref a)) (.cons rfl .nil) (hsp H hO hS)) fun r s' h => ?_
    cases r with
    | error e => exact (hCX H e s' h).elim
    | ok fl => cases fl with
     | next => exact h.elim
     | brk => exact h.elim
     | cont => exact h.elim
     | ret u =>
      obtain ⟨v, H', os, bare, un, hok', r', q⟩ := h
      obtain rfl : v = .bl true := q
      obtain rfl : u = Value.bool true := r'
      refine ⟨rfl, OldK.of_keep fun b o e => ?_, os, bare⟩
      cases q : H b with
      | none => exact un.keep b o e q (fun z => nomatch (show b ∈ ([] : List Addr) from z)) (fun z => nomatch (show b ∈ ([] : List Addr) from z))
      | some u =>
        obtain z | ⟨ob, xs, z⟩ := hO b
        · rw [q] at z
          cases z
        · have e1 := (hok b _ z).1
          rw [e] at e1
          cases e1
          exact (hok' b _ (un.frzs b _ _ z)).1
  cases hk : K.lookup a with
  | some o =>
    have e := KX a o hk
    rw [ha] at e
    cases e
    exact core (fun _ => none) (fun _ => .inl rfl) (.inr ⟨_, vs.toArray, _, hk, rfl, rfl, rfl, by rw [List.size_toArray, hi.length]; exact hl, by simpa using rv⟩)
      (fun b u z => nomatch (show (none : Option HO) = some u from z)) (fun b z => absurd rfl z) fun z => absurd rfl z
  | none =>
    refine core (upd (fun _ => none) a (.frz { cls := .type "list", data := .seq vs.toArray } (.lst (ns.map V.int)))) (fun b => ?_) (.inl (.inr ⟨_, upd_same⟩)) (fun b u z => ?_) (fun b z => ?_) fun _ => hk
    · by_cases q : b = a
      · exact .inr ⟨_, _, by rw [q, upd_same]⟩
      · exact .inl (upd_ne q)
    · by_cases q : b = a
      · subst q
        rw [upd_same] at z
        cases z
        exact ⟨ha, by rw [List.length_map]; exact hl, vs, _, rv, ha⟩
      · rw [upd_ne q] at z
        cases z
    · exact Classical.byContradiction fun q => z (upd_ne q)

theorem walk_G {l : PySem.W.OpenLaw} {n k : Nat} {q : Program} {loose : List Str} {XP : (Str → Option Value) → Heap → Prop} {YP : World → Heap → Prop} {d : DefRec} {x : Str} {CX : World → CXT}
    (hn : l.most = some n) (hn2 : n ≤ sizeLine) (hdf : d.params.defaults = []) (hr : Room k callerA)
    (F : ∀ (w : World) (mg : Str → Option Value) (fa : Addr) (h : Heap), YP w h → h.Ns mainGlobals mg → mg d.name = some (.ref fa) →
      ∃ (K : PySem.W.Frag) (fd : FuncData) (sp : Sp), K.In h ∧ (∀ (s : Shared) (u : Value), BindsTo s fd ⟨[u], []⟩ [(x, u)]) ∧
        (∀ (H : Hp) (a : Addr) (ns : List Int), ns.length ≤ n → Only H → SqL K H a (ns.map V.int) → sp [.ref a] H (fun v _ => v = .bl true) fun _ _ _ => False) ∧
        ∀ base : Heap, K.In base → base.Ns mainGlobals mg → FnG l.prog w K mg base (CX w) k fa fd [x] sp)
    (hCX : ∀ (w : World) (H : Hp) (s : Shared) (e : Value) (s' : Shared), CX w [] H s (fun _ _ _ => False) e s' → False) :
    PySem.W.WalkO q loose XP YP l.row.toRowW d [] (fun f vs => PySem.call f vs) := by
  refine Att.attach_call hn hdf fun w s0 s1 mg mb fa o pm cd doc a vs ns G Y ho hd hcd hmg hobj hints hlen hg => ?_
  obtain ⟨K, fd, sp, KX, hb, hs, hF⟩ := F w mg fa _ Y G.T.g hmg
  exact law_callG KX G.T.g G.T.b G.T.builtins G.T.nolimit hg hobj hints (Nat.le_trans hlen hn2) hr hF hb (fun H hO hS => hs H a ns hlen hO hS) fun H e s' => hCX w H s1 e s'
end BF
set_option maxHeartbeats 2000000
namespace BF
open PySem PySem.Spec PyProof.Rows L2

/-! ### heaps -/
theorem same_upd {H : Hp} {p : Addr} {o : HO} (h : H p = none) : Same H (upd H p o) := fun a u q => by
  rw [upd_ne (ne_of_none q h)]
  exact q
/-- the end of a display: the new object at any place -/
theorem new_obj {H : Hp} {o : HO} {Q : VK} (k : ∀ H' p, Same H H' → H p = none → H' p = some o → Q (.ref p) H') : ∀ p, H p = none → Q (.ref p) (upd H p o) :=
  fun p hp => k _ p (same_upd hp) hp upd_same

/-! ### fractions -/
theorem tb_ne : ¬ (("top" : Str) = "bottom") := by decide +kernel
theorem bt_ne : ¬ (("bottom" : Str) = "top") := by decide +kernel
/-- the fields of a fraction -/
def rf (t b : Int) : List (Str × V) := [("top", .int t), ("bottom", .int b)]
theorem rf_put (t b : Int) : putF "bottom" (.int b) (putF "top" (.int t) []) = rf t b := by
  show (if ("top" : Str) = "bottom" then _ else (("top" : Str), V.int t) :: putF "bottom" (.int b) []) = _
  rw [if_neg tb_ne] <;> rfl
theorem rf_top (t b : Int) : (rf t b).lookup ("top" : Str) = some (.int t) := rfl
theorem rf_bottom (t b : Int) : (rf t b).lookup ("bottom" : Str) = some (.int b) := by
  unfold rf
  rw [List.lookup_cons, beq_eq_false_iff_ne.mpr bt_ne] <;> rfl
theorem rf_none (t b : Int) {m : Str} (h1 : ¬ m = "top") (h2 : ¬ m = "bottom") : (rf t b).lookup m = none := by
  unfold rf
  rw [List.lookup_cons, beq_eq_false_iff_ne.mpr h1]
  show List.lookup m [(("bottom" : Str), V.int b)] = none
  rw [List.lookup_cons, beq_eq_false_iff_ne.mpr h2] <;> rfl
/-- an object is the fraction q -/
def RatO (C : Addr) (H : Hp) (p : Addr) (q : Rat) : Prop := ∃ dx, H p = some (.ins C dx (rf q.num q.den))
def RatV (C : Addr) (H : Hp) (v : V) (q : Rat) : Prop := ∃ p, v = .ref p ∧ RatO C H p q
theorem RatV.up {C : Addr} {H H' : Hp} {v : V} {q : Rat} (h : RatV C H v q) (s : Same H H') : RatV C H' v q := by
  obtain ⟨p, e, dx, z⟩ := h
  exact ⟨p, e, dx, s _ _ z⟩
/-- bounds in bits -/
def Bd (n : Nat) (q : Rat) : Prop := q.num.natAbs < 2 ^ n ∧ q.den < 2 ^ n
theorem pow_mono {a b : Nat} (h : a ≤ b) : (2 : Nat) ^ a ≤ 2 ^ b := Nat.pow_le_pow_right (by decide) h
theorem Bd.mono {n m : Nat} {q : Rat} (h : Bd n q) (l : n ≤ m) : Bd m q := ⟨Nat.lt_of_lt_of_le h.1 (pow_mono l), Nat.lt_of_lt_of_le h.2 (pow_mono l)⟩

theorem num_nrm (t b : Int) (hb : b ≠ 0) : (Rat.divInt t b).num = (if b < 0 then -t else t) / ((t.natAbs.gcd b.natAbs : Nat) : Int) := by
  rw [Rat.num_divInt]
  have e : (b.gcd t) = t.natAbs.gcd b.natAbs := by rw [Int.gcd, Nat.gcd_comm]
  rw [e]
  congr 1
  by_cases h : b < 0
  · rw [if_pos h, Int.sign_eq_neg_one_of_neg h]; omega
  · rw [if_neg h, Int.sign_eq_one_of_pos (by omega)]; omega
theorem den_nrm (t b : Int) (hb : b ≠ 0) : ((Rat.divInt t b).den : Int) = (b.natAbs : Int) / ((t.natAbs.gcd b.natAbs : Nat) : Int) := by
  rw [Rat.den_divInt, if_neg hb]
  have e : (b.gcd t) = t.natAbs.gcd b.natAbs := by rw [Int.gcd, Nat.gcd_comm]
  rw [e]
  omega
theorem bd_divInt {n : Nat} {t b : Int} (hb : b ≠ 0) (h1 : t.natAbs < 2 ^ n) (h2 : b.natAbs < 2 ^ n) : Bd n (Rat.divInt t b) := by
  have a := num_nrm t b hb
  have c := den_nrm t b hb
  constructor
  · rw [a]
    have : ((if b < 0 then -t else t) / ((t.natAbs.gcd b.natAbs : Nat) : Int)).natAbs ≤ t.natAbs := by
      refine Nat.le_trans (Int.natAbs_ediv_le_natAbs _ _) ?_
      split <;> omega
    omega
  · have : ((Rat.divInt t b).den : Int) ≤ (b.natAbs : Int) := by
      rw [c]
      exact Int.ediv_le_self _ (by omega)
    omega

/-! ### an own error made without arguments -/
section
variable {X : Cx} {C : Addr} {bmB : List Value} {B newId initId : String}
theorem pmk_own0 {x : Str} {p pos : Pos} (F : ExcBaseFacts B newId initId bmB) (q : PySem.W.excIn X.K C bmB newId = true) (gC : X.mg x = some (.ref C)) (kC : PySem.W.keepIn X.K (.ref C) = true) (r : Raises X (.ref C)) (hg : Gl X x)
    (hdb : (x == ("__debug__" : Str)) = false := by decide) : PMk X (.Call (.Name x p) [] [] pos) (fun _ H Q => Q (.ref C) none H) := by
  intro pins s σ H Q I h
  refine wpAny_Call_Name_kw (ld_glob I hg gC ?_ hdb)
  refine PySem.W.callWith_K0 I.kIn kC ?_
  obtain ⟨bm, N, nm, qn, bs, hdct, sn, sub, ab, col, dd, k0, k1, k2, k3, k5, mN, hC, hN, hni, T⟩ := exc_obj I.kIn q
  refine wpAny_call_exc_subT F T hC hN hni (fun h' e hm => ?_) (Nat.zero_le _)
  exact mk_of I hm r h (I.hok.gone hm.new)
end
end BF
set_option maxHeartbeats 2000000
namespace BF
open PySem PySem.Spec PyProof.Rows L2
/-! ### tests whose reading is monotone -/
def tMonoT (t : TT) : TT := fun σ H Q => ∃ Q0 : Bool → Hp → Prop, t σ H Q0 ∧ ∀ b H1, Q0 b H1 → Q b H1
theorem pt_mono {X : Cx} {e : Expr} {t : TT} (h : PT X e t) : PT X e (tMonoT t) :=
  ⟨fun pins s σ H Q I ⟨Q0, hq, m⟩ => thn (h.run pins s σ H Q0 I hq) fun b s' ⟨H', J, q⟩ => ⟨H', J, m b H' q⟩⟩
theorem monoT {t : TT} (σ : L2.St) (H : Hp) (Q Q' : Bool → Hp → Prop) (m : ∀ b H1, Q b H1 → Q' b H1) (h : tMonoT t σ H Q) : tMonoT t σ H Q' := by
  obtain ⟨Q0, a, b⟩ := h
  exact ⟨Q0, a, fun x H1 z => m _ _ (b x H1 z)⟩
/-! ### lists by pairs -/
section
variable {α β : Type} {F : α → β → Prop}
theorem Pd.get : ∀ {xs : List α} {ys : List β} {i : Nat} {x : α}, Paired F xs ys → xs[i]? = some x → ∃ y, ys[i]? = some y ∧ F x y
  | _, _, _, _, .nil, e => by simp at e
  | _, _, 0, _, .cons r _, e => by simp at e; subst e; exact ⟨_, rfl, r⟩
  | _, _, i + 1, x, .cons _ t, e => by
    obtain ⟨y, h1, h2⟩ := Pd.get (i := i) t (by simpa using e)
    exact ⟨y, by simpa using h1, h2⟩
theorem Pd.getR : ∀ {xs : List α} {ys : List β} {i : Nat} {y : β}, Paired F xs ys → ys[i]? = some y → ∃ x, xs[i]? = some x ∧ F x y
  | _, _, _, _, .nil, e => by simp at e
  | _, _, 0, _, .cons r _, e => by simp at e; subst e; exact ⟨_, rfl, r⟩
  | _, _, i + 1, y, .cons _ t, e => by
    obtain ⟨x, h1, h2⟩ := Pd.getR (i := i) t (by simpa using e)
    exact ⟨x, by simpa using h1, h2⟩
theorem Pd.append : ∀ {xs zs : List α} {ys ws : List β}, Paired F xs ys → Paired F zs ws → Paired F (xs ++ zs) (ys ++ ws)
  | _, _, _, _, .nil, s => s
  | _, _, _, _, .cons r t, s => .cons r (Pd.append t s)
theorem Pd.take : ∀ {xs : List α} {ys : List β} (n : Nat), Paired F xs ys → Paired F (xs.take n) (ys.take n)
  | _, _, 0, _ => .nil
  | _, _, _ + 1, .nil => .nil
  | _, _, n + 1, .cons r t => .cons r (Pd.take n t)
theorem Pd.drop : ∀ {xs : List α} {ys : List β} (n : Nat), Paired F xs ys → Paired F (xs.drop n) (ys.drop n)
  | _, _, 0, r => r
  | _, _, _ + 1, .nil => .nil
  | _, _, n + 1, .cons _ t => Pd.drop n t
theorem Pd.rev {xs : List α} {ys : List β} (h : Paired F xs ys) : Paired F xs.reverse ys.reverse := by
  induction h with
  | nil => exact .nil
  | cons r _ ih =>
    rw [List.reverse_cons, List.reverse_cons]
    exact Pd.append ih (.cons r .nil)
theorem Pd.imp {G : α → β → Prop} {xs : List α} {ys : List β} (h : Paired F xs ys) (m : ∀ a b, F a b → G a b) : Paired G xs ys := Paired.mapP h m
theorem Pd.len {xs : List α} {ys : List β} (h : Paired F xs ys) : xs.length = ys.length := Paired.length h
end
/-! ### insertion of fractions -/
def insR (q : Rat) : List Rat → List Rat
  | [] => [q]
  | r :: L => if r < q then r :: insR q L else if q < r then q :: r :: L else r :: L
def ascR (qs : List Rat) : List Rat := qs.foldl (fun L q => insR q L) []
theorem insR_pre (q : Rat) : ∀ {pre post : List Rat}, (∀ r ∈ pre, r < q) → insR q (pre ++ post) = pre ++ insR q post
  | [], _, _ => rfl
  | r :: pre, post, h => by
    show (if r < q then r :: insR q (pre ++ post) else _) = _
    rw [if_pos (h r List.mem_cons_self), insR_pre q fun x hx => h x (List.mem_cons_of_mem _ hx)]
    rfl
theorem insR_len (q : Rat) : ∀ L : List Rat, (insR q L).length ≤ L.length + 1
  | [] => Nat.le_refl _
  | r :: L => by
    unfold insR
    have := insR_len q L
    split
    · simp only [List.length_cons]; omega
    · split <;> simp only [List.length_cons] <;> omega
theorem insR_mem {q x : Rat} : ∀ {L : List Rat}, x ∈ insR q L → x = q ∨ x ∈ L
  | [], h => by
    simp only [insR, List.mem_singleton] at h
    exact .inl h
  | r :: L, h => by
    unfold insR at h
    split at h
    · rcases List.mem_cons.mp h with h | h
      · exact .inr (h ▸ List.mem_cons_self)
      · rcases insR_mem h with h | h
        · exact .inl h
        · exact .inr (List.mem_cons_of_mem _ h)
    · split at h
      · rcases List.mem_cons.mp h with h | h
        · exact .inl h
        · exact .inr h
      · exact .inr h
theorem ascR_snoc (qs : List Rat) (q : Rat) : ascR (qs ++ [q]) = insR q (ascR qs) := by
  unfold ascR
  rw [List.foldl_append]
  rfl
theorem ascR_len (qs : List Rat) : (ascR qs).length ≤ qs.length := by
  have h : ∀ (l acc : List Rat), (l.foldl (fun L q => insR q L) acc).length ≤ l.length + acc.length := by
    intro l
    induction l with
    | nil => intro acc; simp
    | cons a l ih =>
      intro acc
      have h1 := ih (insR a acc)
      have h2 := insR_len a acc
      simp only [List.foldl_cons, List.length_cons]
      omega
  have h0 := h qs []
  unfold ascR
  simpa using h0
theorem ascR_mem {qs : List Rat} {x : Rat} (h : x ∈ ascR qs) : x ∈ qs := by
  have g : ∀ (l acc : List Rat), x ∈ l.foldl (fun L q => insR q L) acc → x ∈ l ∨ x ∈ acc := by
    intro l
    induction l with
    | nil => intro acc h; exact .inr h
    | cons a l ih =>
      intro acc h
      rcases ih _ h with h | h
      · exact .inl (List.mem_cons_of_mem _ h)
      · rcases insR_mem h with h | h
        · exact .inl (h ▸ List.mem_cons_self)
        · exact .inr h
  rcases g qs [] h with h | h
  · exact h
  · cases h
/-- where an insertion loop stops -/
theorem insR_at {q : Rat} {L : List Rat} {k : Nat} (hk : k ≤ L.length) (pre : ∀ r ∈ L.take k, r < q) :
    (k = L.length → insR q L = L.take k ++ [q] ++ L.drop k) ∧ (∀ r, L[k]? = some r → ¬ r < q → (q < r → insR q L = L.take k ++ [q] ++ L.drop k) ∧ (¬ q < r → insR q L = L)) := by
  have e : insR q L = L.take k ++ insR q (L.drop k) := by
    conv => lhs; rw [← List.take_append_drop k L]
    exact insR_pre q pre
  refine ⟨fun z => ?_, fun r hr nlt => ?_⟩
  · rw [e, z, List.drop_length]
    simp [insR]
  · have hd : L.drop k = r :: L.drop (k + 1) := by
      obtain ⟨h1, h2⟩ := List.getElem?_eq_some_iff.mp hr
      rw [← h2]
      exact List.drop_eq_getElem_cons h1
    refine ⟨fun lt => ?_, fun nl => ?_⟩
    · rw [e, hd]
      simp only [insR, if_neg nlt, if_pos lt, List.append_assoc, List.singleton_append]
    · rw [e, hd]
      simp only [insR, if_neg nlt, if_neg nl]
      rw [← hd, List.take_append_drop]
end BF
set_option maxHeartbeats 2000000
/-! Sorted lists of fractions. -/
namespace BF
open Rat
abbrev Srt (L : List Rat) : Prop := L.Pairwise (· < ·)
theorem mem_insR {q x : Rat} : ∀ {L : List Rat}, x ∈ insR q L ↔ x = q ∨ x ∈ L
  | [] => by simp [insR]
  | r :: L => by
    unfold insR
    split
    · rw [List.mem_cons, mem_insR, List.mem_cons]
      constructor
      · rintro (h | h | h) <;> simp [h]
      · rintro (h | h | h) <;> simp [h]
    · split
      · simp
      · have e : r = q := by grind
        subst e
        simp
theorem srt_insR {q : Rat} : ∀ {L : List Rat}, Srt L → Srt (insR q L)
  | [], _ => by simp [insR, Srt]
  | r :: L, h => by
    obtain ⟨h1, h2⟩ := List.pairwise_cons.mp h
    unfold insR
    split
    · rename_i lt
      refine List.pairwise_cons.mpr ⟨fun x hx => ?_, srt_insR h2⟩
      rcases mem_insR.mp hx with rfl | hx
      · exact lt
      · exact h1 x hx
    · split
      · rename_i lt
        refine List.pairwise_cons.mpr ⟨fun x hx => ?_, h⟩
        rcases List.mem_cons.mp hx with rfl | hx
        · exact lt
        · have := h1 x hx
          grind
      · exact h
theorem insR_filter {q : Rat} : ∀ {L : List Rat}, Srt L → insR q L = L.filter (fun r => decide (r < q)) ++ [q] ++ L.filter (fun r => decide (q < r))
  | [], _ => rfl
  | r :: L, h => by
    obtain ⟨h1, h2⟩ := List.pairwise_cons.mp h
    unfold insR
    split
    · rename_i lt
      have n : ¬ q < r := by grind
      rw [insR_filter h2, List.filter_cons, List.filter_cons, if_pos (decide_eq_true lt), if_neg (by simpa using n)]
      rfl
    · rename_i nlt
      have all_ : ∀ x ∈ L, ¬ x < q := fun x hx => by have := h1 x hx; grind
      have e0 : L.filter (fun r => decide (r < q)) = [] := List.filter_eq_nil_iff.mpr fun x hx => by simpa using all_ x hx
      split
      · rename_i lt
        have e1 : L.filter (fun r => decide (q < r)) = L := List.filter_eq_self.mpr fun x hx => by have := h1 x hx; simp; grind
        rw [List.filter_cons, List.filter_cons, if_neg (by simpa using nlt), if_pos (decide_eq_true lt), e0, e1]
        rfl
      · rename_i n2
        have e : r = q := by grind
        have e1 : L.filter (fun r => decide (q < r)) = L := List.filter_eq_self.mpr fun x hx => by have := h1 x hx; simp; grind
        rw [List.filter_cons, List.filter_cons, if_neg (by simpa using nlt), if_neg (by simpa using n2), e0, e1, e]
        rfl
theorem srt_ascR (qs : List Rat) : Srt (ascR qs) := by
  have h : ∀ (l acc : List Rat), Srt acc → Srt (l.foldl (fun L q => insR q L) acc) := by
    intro l
    induction l with
    | nil => intro acc h; exact h
    | cons a l ih => intro acc h; exact ih _ (srt_insR h)
  exact h qs [] List.Pairwise.nil
theorem mem_ascR {qs : List Rat} {x : Rat} : x ∈ ascR qs ↔ x ∈ qs := by
  have h : ∀ (l acc : List Rat), x ∈ l.foldl (fun L q => insR q L) acc ↔ x ∈ l ∨ x ∈ acc := by
    intro l
    induction l with
    | nil => intro acc; simp
    | cons a l ih =>
      intro acc
      rw [List.foldl_cons, ih, mem_insR, List.mem_cons]
      constructor
      · rintro (h | h | h) <;> simp [h]
      · rintro ((h | h) | h) <;> simp [h]
  have := h qs []
  unfold ascR
  simpa using this
theorem srt_ext : ∀ {L M : List Rat}, Srt L → Srt M → (∀ x, x ∈ L ↔ x ∈ M) → L = M
  | [], [], _, _, _ => rfl
  | [], m :: M, _, _, h => by have := (h m).mpr List.mem_cons_self; cases this
  | l :: L, [], _, _, h => by have := (h l).mp List.mem_cons_self; cases this
  | l :: L, m :: M, hl, hm, h => by
    obtain ⟨l1, l2⟩ := List.pairwise_cons.mp hl
    obtain ⟨m1, m2⟩ := List.pairwise_cons.mp hm
    have e : l = m := by
      rcases List.mem_cons.mp ((h l).mp List.mem_cons_self) with a | a
      · exact a
      · rcases List.mem_cons.mp ((h m).mpr List.mem_cons_self) with b | b
        · exact b.symm
        · have := l1 m b
          have := m1 l a
          grind
    subst e
    rw [srt_ext l2 m2 fun x => ?_]
    have hx := h x
    rw [List.mem_cons, List.mem_cons] at hx
    constructor
    · intro a
      rcases hx.mp (.inr a) with e | e
      · have := l1 x a; grind
      · exact e
    · intro a
      rcases hx.mpr (.inr a) with e | e
      · have := m1 x a; grind
      · exact e
theorem ascR_rev (qs : List Rat) : ascR qs.reverse = ascR qs := srt_ext (srt_ascR _) (srt_ascR _) fun x => by rw [mem_ascR, mem_ascR, List.mem_reverse]
/-! least and greatest -/
def IsLeast (q : Rat) (qs : List Rat) : Prop := q ∈ qs ∧ ∀ r ∈ qs, q ≤ r
def IsGreat (q : Rat) (qs : List Rat) : Prop := q ∈ qs ∧ ∀ r ∈ qs, r ≤ q
theorem IsLeast.one {q r : Rat} {qs : List Rat} (a : IsLeast q qs) (b : IsLeast r qs) : q = r := by
  have := a.2 r b.1
  have := b.2 q a.1
  grind
theorem IsGreat.one {q r : Rat} {qs : List Rat} (a : IsGreat q qs) (b : IsGreat r qs) : q = r := by
  have := a.2 r b.1
  have := b.2 q a.1
  grind
theorem fold_least (q0 : Rat) (qs : List Rat) : (qs.foldl (fun m q => if q < m then q else m) q0 = q0 ∨ qs.foldl (fun m q => if q < m then q else m) q0 ∈ qs) ∧ qs.foldl (fun m q => if q < m then q else m) q0 ≤ q0 ∧
    ∀ r ∈ qs, qs.foldl (fun m q => if q < m then q else m) q0 ≤ r := by
  induction qs generalizing q0 with
  | nil => exact ⟨.inl rfl, Rat.le_refl, fun r h => by cases h⟩
  | cons a l ih =>
    rw [List.foldl_cons]
    obtain ⟨h1, h2, h3⟩ := ih (if a < q0 then a else q0)
    generalize l.foldl (fun m q => if q < m then q else m) (if a < q0 then a else q0) = z at h1 h2 h3
    refine ⟨?_, ?_, fun r hr => ?_⟩
    · rcases h1 with h1 | h1
      · rw [h1]
        split
        · exact .inr List.mem_cons_self
        · exact .inl rfl
      · exact .inr (List.mem_cons_of_mem _ h1)
    · split at h2 <;> grind
    · rcases List.mem_cons.mp hr with rfl | hr
      · split at h2 <;> grind
      · exact h3 r hr
theorem fold_great (q0 : Rat) (qs : List Rat) : (qs.foldl (fun m q => if m < q then q else m) q0 = q0 ∨ qs.foldl (fun m q => if m < q then q else m) q0 ∈ qs) ∧ q0 ≤ qs.foldl (fun m q => if m < q then q else m) q0 ∧
    ∀ r ∈ qs, r ≤ qs.foldl (fun m q => if m < q then q else m) q0 := by
  induction qs generalizing q0 with
  | nil => exact ⟨.inl rfl, Rat.le_refl, fun r h => by cases h⟩
  | cons a l ih =>
    rw [List.foldl_cons]
    obtain ⟨h1, h2, h3⟩ := ih (if q0 < a then a else q0)
    generalize l.foldl (fun m q => if m < q then q else m) (if q0 < a then a else q0) = z at h1 h2 h3
    refine ⟨?_, ?_, fun r hr => ?_⟩
    · rcases h1 with h1 | h1
      · rw [h1]
        split
        · exact .inr List.mem_cons_self
        · exact .inl rfl
      · exact .inr (List.mem_cons_of_mem _ h1)
    · split at h2 <;> grind
    · rcases List.mem_cons.mp hr with rfl | hr
      · split at h2 <;> grind
      · exact h3 r hr
theorem isLeast_fold {q0 : Rat} {qs : List Rat} (h : q0 ∈ qs) : IsLeast (qs.foldl (fun m q => if q < m then q else m) q0) qs := by
  obtain ⟨h1, _, h3⟩ := fold_least q0 qs
  refine ⟨?_, h3⟩
  rcases h1 with h1 | h1
  · rw [h1]; exact h
  · exact h1
theorem isGreat_fold {q0 : Rat} {qs : List Rat} (h : q0 ∈ qs) : IsGreat (qs.foldl (fun m q => if m < q then q else m) q0) qs := by
  obtain ⟨h1, _, h3⟩ := fold_great q0 qs
  refine ⟨?_, h3⟩
  rcases h1 with h1 | h1
  · rw [h1]; exact h
  · exact h1
theorem isLeast_head {q : Rat} {qs : List Rat} (h : (ascR qs)[0]? = some q) : IsLeast q qs := by
  have s := srt_ascR qs
  cases e : ascR qs with
  | nil => rw [e] at h; cases h
  | cons a l =>
    rw [e] at h s
    have : a = q := by simpa using h
    subst this
    obtain ⟨s1, _⟩ := List.pairwise_cons.mp s
    refine ⟨mem_ascR.mp (by rw [e]; exact List.mem_cons_self), fun r hr => ?_⟩
    have hr' := mem_ascR.mpr hr
    rw [e] at hr'
    rcases List.mem_cons.mp hr' with rfl | hr'
    · exact Rat.le_refl
    · have := s1 r hr'; grind
theorem isGreat_last {q : Rat} {qs : List Rat} {L : List Rat} (h : ascR qs = L ++ [q]) : IsGreat q qs := by
  have s := srt_ascR qs
  rw [h] at s
  obtain ⟨_, _, s3⟩ := List.pairwise_append.mp s
  refine ⟨mem_ascR.mp (by rw [h]; simp), fun r hr => ?_⟩
  have hr' := mem_ascR.mpr hr
  rw [h] at hr'
  rcases List.mem_append.mp hr' with hr' | hr'
  · have := s3 r hr' q (by simp); grind
  · simp at hr'
    rw [hr']
    exact Rat.le_refl
end BF
set_option maxHeartbeats 2000000
/-! The pen that draws, and lists of ints compared with the empty list. -/
namespace BF
open PySem PySem.Spec PyProof.Rows L2
theorem canLay_ints : ∀ ns : List Int, PyData.canLayAll0 (ns.map PyData.int) = true
  | [] => by simp [PyData.canLayAll0]
  | n :: ns => by
    simp only [List.map_cons, PyData.canLayAll0, canLay_ints ns, Bool.and_true]
    simp [PyData.canLay0]
theorem depth_ints : ∀ ns : List Int, PyData.depthAll (ns.map PyData.int) = 0
  | [] => by simp [PyData.depthAll]
  | n :: ns => by
    simp only [List.map_cons, PyData.depthAll, depth_ints ns]
    simp [PyData.depth]
theorem shaped_ints (ns : List Int) : SeqAt.shaped (.list (ns.map PyData.int)) = true := by
  unfold SeqAt.shaped
  simp [PyData.canLay0, PyData.depth, canLay_ints, depth_ints]
theorem dp_ints (K : PySem.W.Frag) (H : Hp) : ∀ ns : List Int, DpAll K H (ns.map V.int) (ns.map PyData.int)
  | [] => .nil
  | n :: ns => .cons (.int n) (dp_ints K H ns)
theorem eqv_ints_nil (ns : List Int) : PyData.eqv (.list (ns.map PyData.int)) (.list []) = ns.isEmpty := by
  cases ns with
  | nil => simp [PyData.eqv, PyData.eqvAll]
  | cons n ns => simp [PyData.eqv, PyData.eqvAll]
/-- all but the object at P stays -/
def Off (P : Addr) (H H' : Hp) : Prop := ∀ a o, a ≠ P → H a = some o → H' a = some o
theorem Off.refl (P : Addr) (H : Hp) : Off P H H := fun _ _ _ h => h
theorem Off.trans {P : Addr} {H H1 H2 : Hp} (a : Off P H H1) (b : Off P H1 H2) : Off P H H2 := fun c o n h => b c o n (a c o n h)
theorem Off.of {P : Addr} {H H' : Hp} (s : Same H H') : Off P H H' := fun a o _ h => s a o h
theorem Off.upd {P : Addr} {H : Hp} (o : HO) : Off P H (upd H P o) := fun a u n h => by
  rw [upd_ne n]
  exact h
/-- the pen at P: k bounds how often it has drawn -/
def Pen (H : Hp) (P c : Addr) (k : Nat) : Prop := ∃ (ns : List Int) (n : Nat) (left : Int),
  H P = some (.lst [.ref c, .int n, .int left]) ∧ H c = some (.lst (ns.map V.int)) ∧ ns.length ≤ 63 ∧ n ≤ k ∧ 0 ≤ left
theorem Pen.ne {H : Hp} {P c : Addr} {ns : List Int} {xs : List V} (h : H P = some (.lst (.ref c :: xs))) (h2 : H c = some (.lst (ns.map V.int))) : c ≠ P := fun e => by
  subst e
  rw [h] at h2
  cases ns with
  | nil => cases h2
  | cons a l => cases h2
theorem Pen.up {H H' : Hp} {P c : Addr} {k : Nat} (h : Pen H P c k) (s : Same H H') : Pen H' P c k := by
  obtain ⟨ns, n, l, a, b, d⟩ := h
  exact ⟨ns, n, l, s _ _ a, s _ _ b, d⟩
theorem Pen.put {H : Hp} {P c D : Addr} {k : Nat} {o : HO} (h : Pen H P c k) (n1 : D ≠ P) (n2 : D ≠ c) : Pen (L2.upd H D o) P c k := by
  obtain ⟨ns, n, l, a, b, d⟩ := h
  exact ⟨ns, n, l, (upd_ne n1.symm).trans a, (upd_ne n2.symm).trans b, d⟩
theorem Pen.freshC {H : Hp} {P c a : Addr} {k : Nat} (h : Pen H P c k) (e : H a = none) : a ≠ c := fun z => by
  obtain ⟨ns, n, lf, _, q, _⟩ := h
  rw [z, q] at e
  cases e
theorem Pen.mono {H : Hp} {P c : Addr} {k m : Nat} (h : Pen H P c k) (l : k ≤ m) : Pen H P c m := by
  obtain ⟨ns, n, lf, a, b, d, e, g⟩ := h
  exact ⟨ns, n, lf, a, b, d, Nat.le_trans e l, g⟩
theorem Pen.some_ {H : Hp} {P c : Addr} {k : Nat} (h : Pen H P c k) : ∃ xs, H P = some (.lst xs) := by
  obtain ⟨ns, n, lf, a, _⟩ := h
  exact ⟨_, a⟩
theorem Pen.apart {H : Hp} {P c a : Addr} {k : Nat} {C dx : Addr} {fs : List (Str × V)} (h : Pen H P c k) (e : H a = some (.ins C dx fs)) : a ≠ P := by
  obtain ⟨xs, q⟩ := h.some_
  exact ne_of e q (by intro z; cases z)
theorem Pen.apartT {H : Hp} {P c a : Addr} {k : Nat} {xs : List V} (h : Pen H P c k) (e : H a = some (.tup xs)) : a ≠ P := by
  obtain ⟨xs, q⟩ := h.some_
  exact ne_of e q (by intro z; cases z)
theorem Pen.fresh {H : Hp} {P c a : Addr} {k : Nat} (h : Pen H P c k) (e : H a = none) : a ≠ P := fun z => by
  obtain ⟨xs, q⟩ := h.some_
  rw [z, q] at e
  cases e
theorem RatV.off {H H' : Hp} {P c C : Addr} {k : Nat} {v : V} {q : Rat} (h : RatV C H v q) (p : Pen H P c k) (o : Off P H H') : RatV C H' v q := by
  obtain ⟨a, e, dx, z⟩ := h
  exact ⟨a, e, dx, o _ _ (p.apart z) z⟩
def spPen (K : PySem.W.Frag) : Sp := fun vs H Q _ => ∃ (a : Addr) (ns : List Int), vs = [.ref a] ∧ SqL K H a (ns.map V.int) ∧ ∀ H' P c, Same H H' → H P = none → Pen H' P c 0 → Q (.ref P) H'
/-- a draw: an integer from 0 to many - 1 -/
def spDraw : Sp := fun vs H Q _ => ∃ (P c : Addr) (k : Nat) (m : Int), vs = [.ref P, .int m] ∧ Pen H P c k ∧ k ≤ 1000000 ∧ 0 < m ∧ m < 1073741824 ∧
  ∀ (H' : Hp) (d : Nat), Off P H H' → Pen H' P c (k + 1) → (d : Int) < m → Q (.int d) H'
theorem mix1 {c a : Int} (k1 k2 : Int) (h : 0 ≤ a ∧ a ≤ 1000000) (hk : 0 ≤ k1 ∧ k1 ≤ 1000000 ∧ 0 ≤ k2 ∧ k2 ≤ 1000000) (m : Int) (hm : 0 < m ∧ m ≤ 2147483647) : (c % m + k1 * a + k2).natAbs < 2 ^ 64 := by
  have h1 := Int.emod_nonneg c (show m ≠ 0 by omega)
  have h2 := Int.emod_lt_of_pos c hm.1
  have h3 : k1 * a ≤ 1000000 * 1000000 := Int.mul_le_mul (by omega) (by omega) (by omega) (by omega)
  have h4 : 0 ≤ k1 * a := Int.mul_nonneg (by omega) (by omega)
  omega
theorem mix2 {x a : Int} (k1 k2 k3 : Int) (h : 0 ≤ a ∧ a ≤ 1000000) (hx : 0 ≤ x ∧ x ≤ 2147483647) (hk : 0 ≤ k1 ∧ k1 ≤ 1000000 ∧ 0 ≤ k2 ∧ k2 ≤ 1000000 ∧ 0 ≤ k3 ∧ k3 ≤ 1000000) : (x * (2 * a + k1) + k2 * a * a + k3).natAbs < 2 ^ 64 := by
  have h1 : x * (2 * a + k1) ≤ 2147483647 * 3000000 := Int.mul_le_mul (by omega) (by omega) (by omega) (by omega)
  have h2 : 0 ≤ x * (2 * a + k1) := Int.mul_nonneg (by omega) (by omega)
  have h3 : k2 * a ≤ 1000000 * 1000000 := Int.mul_le_mul (by omega) (by omega) (by omega) (by omega)
  have h4 : 0 ≤ k2 * a := Int.mul_nonneg (by omega) (by omega)
  have h5 : k2 * a * a ≤ 1000000 * 1000000 * 1000000 := Int.mul_le_mul h3 (by omega) (by omega) (by omega)
  have h6 : 0 ≤ k2 * a * a := Int.mul_nonneg h4 (by omega)
  omega
theorem drawn (x : Int) {m : Int} (h : 0 < m) : ∃ d : Nat, x % m = d ∧ (d : Int) < m := by
  have h1 := Int.emod_nonneg x (show m ≠ 0 by omega)
  have h2 := Int.emod_lt_of_pos x h
  exact ⟨(x % m).toNat, by omega, by omega⟩
end BF
set_option maxHeartbeats 2000000
/-! Comprehensions over lists, by what their items stand for. -/
namespace BF
open PySem PySem.Spec PyProof.Rows L2
theorem same_put {H0 H : Hp} {D : Addr} {o : HO} (s : Same H0 H) (n : H0 D = none) : Same H0 (upd H D o) := fun b u e => by
  rw [upd_ne (ne_of_none e n)]
  exact s b u e
/-- [x for x in xs if test]: items that the test lets by -/
theorem lc_filt {β : Type} {F : Hp → V → β → Prop} {K : PySem.W.Frag} {tl : TE} {s : Nat} {tt : TT} {σ : L2.St} {H : Hp} {Q : VK} {a : Addr} {xs : List V} {zs : List β} (c : β → Bool)
    (hj : ∀ k : VK, k (.ref a) H → tl σ H k) (ha : H a = some (.lst xs)) (hz : Paired (F H) xs zs) (up : ∀ H H' v z, F H v z → Same H H' → F H' v z) (hs : s < σ.length) (hl : xs.length ≤ 1000)
    (ht : ∀ x z H', Same H H' → F H' x z → ∀ k : Bool → Hp → Prop, k (c z) H' → tt ((wipe σ [s]).set s (some x)) H' k)
    (k : ∀ H' D ys, Same H H' → H D = none → H' D = some (.lst ys) → Paired (F H') ys (zs.filter c) → Q (.ref D) H') :
    tLc (iList K tl) (gName s) tt (tVar s) [s] σ H Q := by
  have hsw : s < (wipe σ [s]).length := by rw [wipe_length]; exact hs
  refine hj _ ⟨a, rfl, ⟨_, SqL.of ha⟩, fun D hD => lc_list (K := K) (a := a) (xs := xs) (fun i H' => ∃ ys, Same H H' ∧ H' D = some (.lst ys) ∧ Paired (F H) ys ((zs.take i).filter c))
    ⟨[], same_upd hD, upd_same, .nil⟩ (fun i H' _ ⟨_, sm, _⟩ => SqL.of (sm _ _ ha)) ?_ ?_⟩
  · rintro i x H' hx ⟨ys, sm, hd, hys⟩
    obtain ⟨z, gz, fz⟩ := Pd.get hz hx
    have fz' := up _ _ _ _ fz sm
    have tk : zs.take (i + 1) = zs.take i ++ [z] := by rw [List.take_add_one, gz]; rfl
    have hyl : ys.length ≤ 1000 := by
      have h1 := List.length_filter_le c (zs.take i)
      have h2 : (zs.take i).length ≤ zs.length := by rw [List.length_take]; omega
      have h3 := Pd.len hz
      have h4 := Pd.len hys
      omega
    refine ⟨?_, ht x z H' sm fz' _ ?_⟩
    · show ((wipe σ [s]).set s (some x)).set s none = σ.set s none
      rw [List.set_set]
      show (σ.set s none).set s none = _
      rw [List.set_set]
    · rw [tk, List.filter_append]
      cases hc : c z with
      | true =>
        refine iteT ⟨x, by rw [List.getElem?_set_self hsw], ys, hd, by show ys.length < 16777216; omega, _, same_put sm hD, upd_same, ?_⟩
        rw [List.filter_cons, hc]
        exact Pd.append hys (.cons fz .nil)
      | false =>
        refine iteF ⟨ys, sm, hd, ?_⟩
        rw [List.filter_cons, hc]
        show Paired (F H) ys ((zs.take i).filter c ++ [])
        rw [List.append_nil]
        exact hys
  · rintro H' ⟨ys, sm, hd, hys⟩
    rw [List.take_of_length_le (by rw [Pd.len hz]; exact Nat.le_refl _)] at hys
    exact k H' D ys sm hD hd (Pd.imp hys fun _ _ q => up _ _ _ _ q sm)
/-- [e for x in xs]: one new thing for each item -/
theorem lc_map {β γ : Type} {F : Hp → V → β → Prop} {G : Hp → V → γ → Prop} {K : PySem.W.Frag} {tl : TE} {s : Nat} {te : TE} {σ : L2.St} {H : Hp} {Q : VK} {a : Addr} {xs : List V} {zs : List β} (c : β → γ)
    (hj : ∀ k : VK, k (.ref a) H → tl σ H k) (ha : H a = some (.lst xs)) (hz : Paired (F H) xs zs) (up : ∀ H H' v z, F H v z → Same H H' → F H' v z) (upG : ∀ H H' v z, G H v z → Same H H' → G H' v z)
    (upD : ∀ (D : Addr) H acc o v z, H D = some (.lst acc) → G H v z → G (upd H D o) v z) (hs : s < σ.length) (hl : xs.length ≤ 1000)
    (he : ∀ x z H', Same H H' → F H' x z → ∀ k : VK, (∀ H2 v, Same H' H2 → G H2 v (c z) → k v H2) → te ((wipe σ [s]).set s (some x)) H' k)
    (k : ∀ H' D ys, Same H H' → H D = none → H' D = some (.lst ys) → Paired (G H') ys (zs.map c) → Q (.ref D) H') :
    tLc (iList K tl) (gName s) tYes te [s] σ H Q := by
  refine hj _ ⟨a, rfl, ⟨_, SqL.of ha⟩, fun D hD => lc_list (K := K) (a := a) (xs := xs) (fun i H' => ∃ ys, Same H H' ∧ H' D = some (.lst ys) ∧ Paired (G H') ys ((zs.take i).map c))
    ⟨[], same_upd hD, upd_same, .nil⟩ (fun i H' _ ⟨_, sm, _⟩ => SqL.of (sm _ _ ha)) ?_ ?_⟩
  · rintro i x H' hx ⟨ys, sm, hd, hys⟩
    obtain ⟨z, gz, fz⟩ := Pd.get hz hx
    have tk : zs.take (i + 1) = zs.take i ++ [z] := by rw [List.take_add_one, gz]; rfl
    have hyl : ys.length ≤ 1000 := by
      have h2 : (zs.take i).length ≤ zs.length := by rw [List.length_take]; omega
      have h3 := Pd.len hz
      have h4 := Pd.len hys
      rw [List.length_map] at h4
      omega
    refine ⟨?_, he x z H' sm (up _ _ _ _ fz sm) _ fun H2 v s2 gv => ?_⟩
    · show ((wipe σ [s]).set s (some x)).set s none = σ.set s none
      rw [List.set_set]
      show (σ.set s none).set s none = _
      rw [List.set_set]
    · refine ⟨ys, s2 _ _ hd, by show ys.length < 16777216; omega, _, same_put (sm.trans s2) hD, upd_same, ?_⟩
      rw [tk, List.map_append]
      exact Pd.append (Pd.imp hys fun _ _ q => upD _ _ _ _ _ _ (s2 _ _ hd) (upG _ _ _ _ q s2)) (.cons (upD _ _ _ _ _ _ (s2 _ _ hd) gv) .nil)
  · rintro H' ⟨ys, sm, hd, hys⟩
    rw [List.take_of_length_le (by rw [Pd.len hz]; exact Nat.le_refl _)] at hys
    exact k H' D ys sm hD hd hys
/-! ### comprehensions whose elements draw -/
/-- what a comprehension asks once its iterator stands -/
def LcBody (J : It) (g : TG) (tt : TT) (te : TE) (vs : List Nat) (σ : L2.St) (Q : VK) (H1 : Hp) : Prop := ∀ D, H1 D = none → ∃ W : Nat → Nat → Hp → Prop, (∃ m, W 0 m (upd H1 D (.lst []))) ∧ ∀ i m H, W i m H →
  (J.stop i H ∧ Q (.ref D) H) ∨ (J.go i H ∧ ∃ Nx : Hp → Prop, (∀ H', Nx H' → ∃ m', m' < m ∧ W (i + 1) m' H') ∧ ∀ x H', J.yld i H x H' → g x (wipe σ vs) H' fun σ2 H2 => wipe σ2 vs = wipe σ vs ∧ tt σ2 H2 fun b H3 =>
    if b = true then te σ2 H3 fun y H4 => ∃ acc, H4 D = some (.lst acc) ∧ acc.length < sizeLine ∧ Nx (upd H4 D (.lst (acc ++ [y]))) else Nx H3)
theorem lcE {wi : TI} {g : TG} {tt : TT} {te : TE} {vs : List Nat} {σ : L2.St} {H : Hp} {Q : VK} (h : wi σ H fun J H1 => LcBody J g tt te vs σ Q H1) : tLc wi g tt te vs σ H Q := h
theorem wipe1 (σ : L2.St) (s : Nat) (v : V) : wipe ((wipe σ [s]).set s (some v)) [s] = wipe σ [s] := by
  show ((σ.set s none).set s (some v)).set s none = σ.set s none
  rw [List.set_set, List.set_set]
/-- [e for _ in range(n)], e draws -/
theorem lc_rngP {γ : Type} {G : Hp → V → γ → Prop} {s n k0 d : Nat} {te : TE} {σ : L2.St} {H : Hp} {Q : VK} {P c : Addr} (hp : Pen H P c k0) (hn : n ≤ 1000)
    (upG : ∀ H H' v z k, G H v z → Pen H P c k → Off P H H' → G H' v z) (upD : ∀ (D : Addr) H acc o v z, H D = some (.lst acc) → G H v z → G (upd H D o) v z)
    (he : ∀ (i : Nat) H' j, i < n → Off P H H' → j ≤ k0 + n * d → Pen H' P c j → ∀ k : VK, (∀ H2 v z, Off P H' H2 → Pen H2 P c (j + d) → G H2 v z → k v H2) → te ((wipe σ [s]).set s (some (.int (0 + (i : Int))))) H' k)
    (k : ∀ H' D ys zs, Off P H H' → H D = none → H' D = some (.lst ys) → Pen H' P c (k0 + n * d) → Paired (G H') ys zs → zs.length = n → Q (.ref D) H') :
    LcBody (Itr 0 n) (gName s) tYes te [s] σ Q H := by
  intro D hD
  have dP : D ≠ P := hp.fresh hD
  have dC : D ≠ c := hp.freshC hD
  refine lc_range (lo := 0) (n := n) (fun i H' => ∃ ys zs, Off P H H' ∧ H' D = some (.lst ys) ∧ Pen H' P c (k0 + i * d) ∧ Paired (G H') ys zs ∧ zs.length = i)
    ⟨[], [], Off.of (same_upd hD), upd_same, (hp.put dP dC).mono (by omega), .nil, rfl⟩ ?_ ?_
  · rintro i H' hi ⟨ys, zs, of, hd, pen, pr, zl⟩
    have hyl := Pd.len pr
    have m1 : i * d ≤ n * d := Nat.mul_le_mul_right d (Nat.le_of_lt hi)
    refine ⟨wipe1 σ s _, he i H' _ hi of (by omega) pen _ fun H2 v z o2 p2 g2 => ?_⟩
    have hd2 := o2 _ _ dP hd
    refine ⟨ys, hd2, by show ys.length < 16777216; omega, _, zs ++ [z], fun b o nb e => ?_, upd_same, ?_, ?_, by simp [zl]⟩
    · rw [upd_ne (ne_of_none e hD)]
      exact o2 _ _ nb (of _ _ nb e)
    · refine (p2.put dP dC).mono ?_
      rw [Nat.succ_mul]
      omega
    · exact Pd.append (Pd.imp pr fun _ _ q => upD _ _ _ _ _ _ hd2 (upG _ _ _ _ _ q pen o2)) (.cons (upD _ _ _ _ _ _ hd2 g2) .nil)
  · rintro H' ⟨ys, zs, of, hd, pen, pr, zl⟩
    exact k H' D ys zs of hD hd pen pr zl
/-- [e for x in xs], e draws -/
theorem lc_lstP {β : Type} {F G : Hp → V → β → Prop} {K : PySem.W.Frag} {s k0 d : Nat} {te : TE} {σ : L2.St} {H : Hp} {Q : VK} {P c a : Addr} {xs : List V} {zs : List β} (hp : Pen H P c k0) (hn : xs.length ≤ 1000) (ha : H a = some (.lst xs)) (aP : a ≠ P) (hz : Paired (F H) xs zs)
    (upF : ∀ H H' v z k, F H v z → Pen H P c k → Off P H H' → F H' v z)
    (upG : ∀ H H' v z k, G H v z → Pen H P c k → Off P H H' → G H' v z) (upD : ∀ (D : Addr) H acc o v z, H D = some (.lst acc) → G H v z → G (upd H D o) v z)
    (he : ∀ x z H' j, z ∈ zs → Off P H H' → j ≤ k0 + xs.length * d → Pen H' P c j → F H' x z → ∀ k : VK, (∀ H2 v, Off P H' H2 → Pen H2 P c (j + d) → G H2 v z → k v H2) → te ((wipe σ [s]).set s (some x)) H' k)
    (k : ∀ H' D ys, Off P H H' → H D = none → H' D = some (.lst ys) → Pen H' P c (k0 + xs.length * d) → Paired (G H') ys zs → Q (.ref D) H') :
    LcBody (Itl K a) (gName s) tYes te [s] σ Q H := by
  intro D hD
  have dP : D ≠ P := hp.fresh hD
  have dC : D ≠ c := hp.freshC hD
  refine lc_list (K := K) (a := a) (xs := xs) (fun i H' => ∃ ys, Off P H H' ∧ H' D = some (.lst ys) ∧ Pen H' P c (k0 + i * d) ∧ Paired (G H') ys (zs.take i))
    ⟨[], Off.of (same_upd hD), upd_same, (hp.put dP dC).mono (by omega), .nil⟩ (fun i H' _ ⟨_, of, _⟩ => SqL.of (of _ _ aP ha)) ?_ ?_
  · rintro i x H' hx ⟨ys, of, hd, pen, pr⟩
    obtain ⟨z, gz, fz⟩ := Pd.get hz hx
    have hi : i < xs.length := (List.getElem?_eq_some_iff.mp hx).1
    have tk : zs.take (i + 1) = zs.take i ++ [z] := by rw [List.take_add_one, gz]; rfl
    have hyl := Pd.len pr
    rw [List.length_take] at hyl
    have m1 : i * d ≤ xs.length * d := Nat.mul_le_mul_right d (Nat.le_of_lt hi)
    refine ⟨wipe1 σ s _, he x z H' _ (List.mem_of_getElem? gz) of (by omega) pen (upF _ _ _ _ _ fz hp of) _ fun H2 v o2 p2 g2 => ?_⟩
    have hd2 := o2 _ _ dP hd
    refine ⟨ys, hd2, by show ys.length < 16777216; omega, _, fun b o nb e => ?_, upd_same, ?_, ?_⟩
    · rw [upd_ne (ne_of_none e hD)]
      exact o2 _ _ nb (of _ _ nb e)
    · refine (p2.put dP dC).mono ?_
      rw [Nat.succ_mul]
      omega
    · rw [tk]
      exact Pd.append (Pd.imp pr fun _ _ q => upD _ _ _ _ _ _ hd2 (upG _ _ _ _ _ q pen o2)) (.cons (upD _ _ _ _ _ _ hd2 g2) .nil)
  · rintro H' ⟨ys, of, hd, pen, pr⟩
    rw [List.take_of_length_le (by rw [Pd.len hz]; exact Nat.le_refl _)] at pr
    exact k H' D ys of hD hd pen pr
/-! ### rules whose reading names K, for blocks -/
theorem ixT (K : PySem.W.Frag) {X : Cx} (h : X.K = K := by rfl) : IxR X (rIxT K) := h ▸ ix_tup
theorem ixL (K : PySem.W.Frag) {X : Cx} (h : X.K = K := by rfl) : IxR X (rIxL K) := h ▸ ix_list
theorem isiK (K : PySem.W.Frag) {X : Cx} (h : X.K = K := by rfl) : CallR X (.builtin "isinstance") (rIsi K) := h ▸ call_isi
theorem lenK (K : PySem.W.Frag) {X : Cx} (h : X.K = K := by rfl) : CallR X (.builtin "len") (fun xs H Q => ∃ p ys, xs = [.ref p] ∧ (SqL K H p ys ∨ SqT K H p ys) ∧ Q (.int ys.length) H) := h ▸ call_len_seq
/-! ### peeling a reading -/
theorem testOp {r : R2} {ta tb : TE} {σ : L2.St} {H : Hp} {Q : Bool → Hp → Prop} (h : ta σ H fun x H1 => tb σ H1 fun y H2 => r x y H2 fun z H3 => ∃ k, z = .bl k ∧ Q k H3) : tTest (tOp r ta tb) σ H Q := h
theorem opE {r : R2} {ta tb : TE} {σ : L2.St} {H : Hp} {Q : VK} (h : ta σ H fun x H1 => tb σ H1 fun y H2 => r x y H2 Q) : tOp r ta tb σ H Q := h
theorem retE {te : TE} {D : Ends} {σ : L2.St} {H : Hp} (h : te σ H D.rt) : tRet te D σ H := h
theorem seqE {t u : TS} {D : Ends} {σ : L2.St} {H : Hp} (h : t { D with nx := u D } σ H) : tSeq t u D σ H := h
theorem argE {ta : TE} {tr : TA} {σ : L2.St} {H : Hp} {Q : List V → Hp → Prop} (h : ta σ H fun x H1 => tr σ H1 fun xs H2 => Q (x :: xs) H2) : tCons ta tr σ H Q := h
theorem nextE {D : Ends} {σ : L2.St} {H : Hp} (h : D.nx σ H) : tNext D σ H := h
theorem gnm {i : Nat} {v : V} {σ : L2.St} {H : Hp} {Q : L2.St → Hp → Prop} (h : Q (σ.set i (some v)) H) : gName i v σ H Q := h
theorem asgLc {wi : TI} {g : TG} {tt : TT} {te : TE} {vs : List Nat} {i : Nat} {u : TS} {D : Ends} {σ : L2.St} {H : Hp} (h : tLc wi g tt te vs σ H fun x H1 => u D (σ.set i (some x)) H1) :
    tSeq (tAsg (tLc wi g tt te vs) (gName i)) u D σ H := h
theorem asgE {te : TE} {i : Nat} {u : TS} {D : Ends} {σ : L2.St} {H : Hp} (h : te σ H fun x H1 => u D (σ.set i (some x)) H1) : tSeq (tAsg te (gName i)) u D σ H := h
end BF
set_option maxHeartbeats 2000000
/-! Calls by keywords alone. -/
namespace BF
open PySem PySem.Spec PyProof.Rows L2
section
variable {X : Cx} {CX : CXT} {k : Nat} {f : Addr} {fd : FuncData} {ps ks : List Str} {sp : Sp} {E : XK} {x : Str} {p pos : Pos} {kws : List Keyword} {tk : TA} {g : List Value → List Value → List Value} {gV : List V → List V → List V}
/-- f(k = v, ..) -/
theorem pe_callK0 (F : FnOk X.prog X.w X.K X.mg X.base CX k f fd ps sp) (hr : Room k X.A) (hg : Gl X x) (hm : X.mg x = some (.ref f)) (hk : PySem.W.keepIn X.K (.ref f) = true) (hb : KBn X.K fd ps 0 ks g gV) (hx : Passes CX X E)
    (hkw : PK X kws tk) (hall : (backToKw pos (keywordEach kws X.env)).all (·.1.isSome) = true := by rfl) (hks : (backToKw pos (keywordEach kws X.env)).filterMap (·.1) = ks := by rfl)
    (hdb : (x == ("__debug__" : Str)) = false := by decide)
    (hpl : ((backTo pos (starEach [] X.env)).any (·.1) || (backToKw pos (keywordEach kws X.env)).any (·.1.isNone)) = false := by rfl) :
    PE X (.Call (.Name x p) [] kws pos) (tCallN 0 ks.length sp gV E tNil tk) := by
  refine ⟨fun pins s σ H Q I h => wpAny_Call_Name_kw (ld_glob I hg hm ?_ hdb)⟩
  refine PySem.W.callWith_KW0 (h₀ := X.base) I.ok.mod.kin hk hall ?_ hpl
  refine thn (hkw.run pos pins s σ H _ I h) fun ws s2 ⟨zs, H2, I2, rz, l1, l2, q2⟩ => ⟨I2.kIn, ?_⟩
  rw [hks]
  exact run_fnN (us := []) (vs := []) F hr hb hx I2 .nil rz l1 l2 q2
end
/-- how keywords bind, without defaults -/
theorem kbn_of {K : PySem.W.Frag} {x qual : Str} {params : Arguments} {body : List Stmt} {scope : Scope} {kws : List (Str × V)} {f : Addr} {fd : FuncData} {ps ks : List Str} {n : Nat} (F : FunD K x qual params body scope [] kws f fd)
    (g : {α : Type} → List α → List α → List α)
    (h : ∀ (kV doc pm : Value) (an : Option Addr) (cdv ct : Value) (us ws : List Value), us.length = n → ws.length = ks.length → bindArgs (PySem.W.fnOf x qual params body scope .none kV doc pm an cdv ct) ⟨us, ks.zip ws⟩ = pure (ps.zip (g us ws)))
    (rel : ∀ {vs : List V} {us : List Value} {zs : List V} {ws : List Value}, Vals vs us → Vals zs ws → Vals (g vs zs) (g us ws)) : KBn K fd ps n ks g g := by
  obtain ⟨⟨oc, od, dV, kV, doc, pm, an, cdv, ct, osl, rfl, lk, hcd, hD, hK⟩, _⟩ := F
  rcases hD with ⟨_, rfl⟩ | ⟨e, _⟩
  · exact ⟨fun s us ws _ l1 l2 => .of_eq (h kV doc pm an cdv ct us ws l1 l2), rel⟩
  · exact absurd rfl e
def kcat {α : Type} (us ws : List α) : List α := us ++ ws
theorem kcat_rel {vs : List V} {us : List Value} {zs : List V} {ws : List Value} (a : Vals vs us) (b : Vals zs ws) : Vals (kcat vs zs) (kcat us ws) := a.append b

/-! ### a def of the module, as one fact -/
structure Cal (P : Program) (w : World) (K : PySem.W.Frag) (mg : Str → Option Value) (base : Heap) (CX : CXT) (k : Nat) (x : Str) (ps : List Str) (sp : Sp) : Prop where
  go : ∃ (f : Addr) (fd : FuncData), mg x = some (.ref f) ∧ PySem.W.keepIn K (.ref f) = true ∧ FnOk P w K mg base CX k f fd ps sp ∧ Binds K fd ps []
structure CalK (P : Program) (w : World) (K : PySem.W.Frag) (mg : Str → Option Value) (base : Heap) (CX : CXT) (k : Nat) (x : Str) (ps ks : List Str) (n : Nat) (sp : Sp) (gV : List V → List V → List V) : Prop where
  go : ∃ (f : Addr) (fd : FuncData) (g : List Value → List Value → List Value), mg x = some (.ref f) ∧ PySem.W.keepIn K (.ref f) = true ∧ FnOk P w K mg base CX k f fd ps sp ∧ KBn K fd ps n ks g gV
section
variable {X : Cx} {CX : CXT} {k : Nat} {ps ks : List Str} {sp : Sp} {E : XK} {x : Str} {p pos : Pos} {e : Expr} {es : List Expr} {kws : List Keyword} {t tk : TA} {gV : List V → List V → List V}
theorem pe_cal (c : Cal X.prog X.w X.K X.mg X.base CX k x ps sp) (hr : Room k X.A) (hg : Gl X x) (hx : Passes CX X E) (ha : PA X (e :: es) t) (hdb : (x == ("__debug__" : Str)) = false := by decide)
    (he : starEach (e :: es) X.env = (false, eval e X.env) :: starEach es X.env := by rfl) (hpl : (backTo pos (starEach es X.env)).any (·.1) = false := by rfl) : PE X (.Call (.Name x p) (e :: es) [] pos) (tCall sp [] E t) := by
  obtain ⟨f, fd, h1, h2, h3, h4⟩ := c.go
  exact pe_call h3 hr hg h1 h2 h4 .nil hx ha hdb he hpl
theorem pe_calK0 (c : CalK X.prog X.w X.K X.mg X.base CX k x ps ks 0 sp gV) (hr : Room k X.A) (hg : Gl X x) (hx : Passes CX X E) (hkw : PK X kws tk) (hall : (backToKw pos (keywordEach kws X.env)).all (·.1.isSome) = true := by rfl)
    (hks : (backToKw pos (keywordEach kws X.env)).filterMap (·.1) = ks := by rfl) (hdb : (x == ("__debug__" : Str)) = false := by decide)
    (hpl : ((backTo pos (starEach [] X.env)).any (·.1) || (backToKw pos (keywordEach kws X.env)).any (·.1.isNone)) = false := by rfl) :
    PE X (.Call (.Name x p) [] kws pos) (tCallN 0 ks.length sp gV E tNil tk) := by
  obtain ⟨f, fd, g, h1, h2, h3, h4⟩ := c.go
  exact pe_callK0 h3 hr hg h1 h2 h4 hx hkw hall hks hdb hpl
end
end BF
set_option maxHeartbeats 2000000
/-! The head's facts: defs at addresses that are found by any path, and one Bool more. -/
namespace BF
open PySem PySem.Spec PyProof.Rows L2

structure DefA where
  adr : PySem.W.Frag → Addr
  name : Str
  qual : Str
  st : Stmt
  dfl : List He.Dv := []
  kwd : List (Str × He.Dv) := []
def DefA.see (d : DefA) (K : PySem.W.Frag) : He.FnW := match K.lookup (d.adr K) with
  | some ⟨_, _, .func fd, _⟩ => some (fd.name, fd.qualname, fd.params, fd.body, fd.scope, fd.globals, fd.closure, fd.builtins)
  | _ => none
def DefA.due (d : DefA) : He.FnW := some (d.name, d.qual, defArgs d.st, .stmts (defBody d.st), defScope d.st, mainGlobals, [], builtinsNs)
def DefA.dvs (K : PySem.W.Frag) (d : DefA) : List V := d.dfl.map (He.Dv.v K)
def DefA.kws (K : PySem.W.Frag) (d : DefA) : List (Str × V) := d.kwd.map fun q => (q.1, q.2.v K)
def DefA.fit (K : PySem.W.Frag) (d : DefA) : Bool := match K.lookup (d.adr K) with
  | some ⟨_, _, .func fd, _⟩ => PySem.W.keepIn K (.ref (d.adr K)) && (PySem.W.codeIn K fd.code d.qual && (He.dflB K fd.defaults (d.dvs K) && He.kwdB K fd.kwdefaults (d.kws K)))
  | _ => false
theorem DefA.fun_ {K : PySem.W.Frag} {d : DefA} (e : d.see K = d.due) (c : d.fit K = true) :
    ∃ fd, FunD K d.name d.qual (defArgs d.st) (defBody d.st) (defScope d.st) (d.dvs K) (d.kws K) (d.adr K) fd := by
  unfold DefA.see at e
  unfold DefA.fit at c
  split at e
  · rename_i oc od fd osl lk
    rw [lk] at c
    obtain ⟨nm, ql, pr, bd, sc, gl, cl, df, kd, dc, md, an, cd, ct, bt⟩ := fd
    injection e with e
    simp only [Prod.mk.injEq] at e
    obtain ⟨rfl, rfl, rfl, rfl, rfl, rfl, rfl, rfl⟩ := e
    obtain ⟨c1, c⟩ := He.ba c
    obtain ⟨c2, c⟩ := He.ba c
    obtain ⟨c3, c4⟩ := He.ba c
    exact ⟨_, ⟨oc, od, df, kd, dc, md, an, cd, ct, osl, rfl, lk, c2, He.dflB_ok c3, He.kwdB_ok c4⟩, c1⟩
  · cases e

abbrev SeenB : Type := Bool × List He.FnW
def seeB (fn : List DefA) (ex : PySem.W.Frag → Bool) (K : PySem.W.Frag) : SeenB := (ex K && fn.all fun d => d.fit K, fn.map fun d => d.see K)
def dueB (fn : List DefA) : SeenB := (true, fn.map DefA.due)
def SaysB (fn : List DefA) (ex : PySem.W.Frag → Bool) (K : PySem.W.Frag) : Prop := seeB fn ex K = dueB fn
def seeBG (n : Nat) (fn : List DefA) (ex : PySem.W.Frag → Bool) (g : Addr → Option Obj) : SeenB := seeB fn ex (He.frG g (He.asD g n ++ [cStatics]))
def hookB (n : Nat) (fn : List DefA) (ex : PySem.W.Frag → Bool) : PySem.W.Hook where
  α := SeenB
  obs := fun s => seeBG n fn ex s.heap.get?
  val := fun _ => dueB fn
  says := fun _ h => ∃ K : PySem.W.Frag, K.In h ∧ SaysB fn ex K
  of := fun _ _ e => ⟨_, He.frG_in, e⟩
  keeps := fun _ _ _ ⟨K, hK, c⟩ k => ⟨K, PySem.W.Frag.In.keeps hK k, c⟩
theorem seeBG_eq {n : Nat} {fn : List DefA} {ex : PySem.W.Frag → Bool} {g : Addr → Option Obj} {s : Shared} (h : ∀ a, g a = s.heap.get? a) : seeBG n fn ex g = (hookB n fn ex).obs s := by
  obtain rfl : g = s.heap.get? := funext h
  rfl
section
variable {fn : List DefA} {ex : PySem.W.Frag → Bool} {K : PySem.W.Frag}
theorem SaysB.more (c : SaysB fn ex K) : ex K = true := (He.ba (congrArg Prod.fst c)).1
theorem SaysB.def_ (c : SaysB fn ex K) (i : Nat) {d : DefA} (h : fn[i]? = some d := by rfl) :
    ∃ fd, FunD K d.name d.qual (defArgs d.st) (defBody d.st) (defScope d.st) (d.dvs K) (d.kws K) (d.adr K) fd := by
  have c2 := (He.ba (congrArg Prod.fst c)).2
  have e : fn.map (fun d => d.see K) = fn.map DefA.due := congrArg Prod.snd c
  have e2 := congrArg (fun l => l[i]?) e
  simp only [List.getElem?_map, h, Option.map_some] at e2
  exact DefA.fun_ (Option.some.inj e2) (List.all_eq_true.mp c2 d (List.mem_of_getElem? h))
end
/-- a def of the module; a method; a class method's def -/
def aG (x : Str) (K : PySem.W.Frag) : Addr := He.ga K x
def aM (c m : Str) (K : PySem.W.Frag) : Addr := He.ma K (He.ga K c) m
/-- the record of a class method, and its def -/
def cmRec (K : PySem.W.Frag) (p : Addr) : Addr := match PySem.W.recIn K p "classmethod" with
  | some (.ref g :: _) => g
  | _ => 0
def aC (c m : Str) (K : PySem.W.Frag) : Addr := cmRec K (He.ma K (He.ga K c) m)
def tyT : Value := .type "type"
def creadB (K : PySem.W.Frag) (c : Str) : Bool := PySem.W.readsIn K (He.ga K c) tyT && He.eqO (PySem.W.specialIn K (.ref (He.ga K c)) "__getattribute__") (some (some (.builtin "type.__getattribute__")))
theorem cread_ok {K : PySem.W.Frag} {c : Str} (h : creadB K c = true) : ClX.CRead K (He.ga K c) tyT := by
  obtain ⟨a, b⟩ := He.ba h
  exact ⟨a, He.eqO_ok b⟩
def cmetB (K : PySem.W.Frag) (c m : Str) : Bool := (match PySem.W.findCls K (.ref (He.ga K c)) tyT m with
  | some (.get (.builtin b) (.ref p) .none (.ref C)) => decide (b = "classmethod.__get__") && (decide (p = He.ma K (He.ga K c) m) && decide (C = He.ga K c))
  | _ => false) && ((match PySem.W.recIn K (He.ma K (He.ga K c) m) "classmethod" with
  | some (.ref _ :: _) => true
  | _ => false) && PySem.W.fnIn K (aC c m K))
theorem cmet_ok {K : PySem.W.Frag} {c m : Str} (h : cmetB K c m = true) : ClX.CMet K (He.ga K c) tyT m (He.ma K (He.ga K c) m) (aC c m K) := by
  unfold cmetB at h
  obtain ⟨h1, h⟩ := He.ba h
  obtain ⟨h2, h3⟩ := He.ba h
  refine ⟨?_, ?_, h3⟩
  · split at h1
    · rename_i b p C e
      obtain ⟨a1, a2⟩ := He.ba h1
      obtain ⟨a2, a3⟩ := He.ba a2
      rw [e, of_decide_eq_true a1, of_decide_eq_true a2, of_decide_eq_true a3]
    · cases h1
  · unfold aC cmRec
    split at h2
    · rename_i g rest e
      rw [e]
      exact ⟨rest, rfl⟩
    · cases h2
end BF
set_option maxHeartbeats 4000000
/-! == and != of nested values with entries of an own class, any answer. -/
namespace BFQ
open PySem PySem.SeqAt PySem.Spec PyProof.Rows L2
open AutoSeq1 (wpAny_loadPart')
open MeetsSeq MeetsSeq2 MeetsSeq3 SeqRoads2 GQ
section
variable {prog : Program} {w : World} {A : Around} {R : Result → Shared → Prop}
/-- two lists of N entries stand -/
def Two (l b : Addr) (N : Nat) (s : Shared) (items items2 : Array Value) : Prop := (∃ n, s.heap.get? l = some { cls := .type "list", data := .seq items n }) ∧ (∃ n, s.heap.get? b = some { cls := .type "list", data := .seq items2 n }) ∧ items.size = N ∧ items2.size = N
def ListB (prog : Program) (w : World) (A : Around) (E : Value → Shared → Prop) (l b : Addr) (N : Nat) (I : Nat → Shared → Prop) (J : Shared → Prop) : Prop :=
  ∀ i s, I i s → ∃ items items2, Two l b N s items items2 ∧
    ∀ (h1 : i < items.size) (h2 : i < items2.size), wpAny (model prog w) A.in1 (eqBool items[i] items2[i]) (fun r s' => (r = true ∧ I (i + 1) s') ∨ (r = false ∧ J s' ∧ ∃ items items2, Two l b N s' items items2)) E s
theorem eq_loopB (l b : Addr) (N : Nat) (I : Nat → Shared → Prop) (J : Shared → Prop) (hl : ListB prog w A (fun e s' => R (.error e) s') l b N I J)
    (fin : ∀ s, I N s → R (.ok (.ret (.bool true))) s) (fin2 : ∀ s, J s → R (.ok (.ret (.bool false))) s) (k : Nat) :
    ∀ i : Nat, N - i = k → i ≤ N → ∀ s, I i s →
      wpAny (model prog w) A.in1 (Builtin.«list.__eq__.loop» ⟨[.ref l, .ref b, rawInt i, rawInt 2], []⟩) (FinOf prog w A R) (fun e s' => R (.error e) s') s := by
  induction k with
  | zero =>
    intro i hk hi s h
    obtain ⟨items, items2, ⟨⟨n, hl1⟩, ⟨n2, hb1⟩, hs1, hs2⟩, _⟩ := hl _ _ h
    have hi' : i = N := by omega
    have hR : R (.ok (.ret (.bool true))) s := fin s (hi' ▸ h)
    obtain ⟨hp, g, d, tk, os⟩ := s
    wp_walk using wpAny_loadPart' hl1, wpAny_loadPart' hb1
    have hi1 : items[((i : Nat) : Int).toNat]? = none := by simp; omega
    have hi2 : items2[((i : Nat) : Int).toNat]? = none := by simp; omega
    rw [hi1, hi2]
    wp_walk using wpAny_loadPart' hl1, wpAny_loadPart' hb1
    show R (.ok (.ret (.bool (items.size == items2.size)))) _
    rw [hs1, hs2]
    simpa using hR
  | succ k ih =>
    intro i hk hi s h
    obtain ⟨items, items2, ⟨⟨n, hl1⟩, ⟨n2, hb1⟩, hs1, hs2⟩, turn⟩ := hl _ _ h
    have hlt : i < items.size := by omega
    have hlt2 : i < items2.size := by omega
    have ht := turn hlt hlt2
    obtain ⟨hp, g, d, tk, os⟩ := s
    wp_walk using wpAny_loadPart' hl1, wpAny_loadPart' hb1
    have hi1 : items[((i : Nat) : Int).toNat]? = some items[i] := by simp [hlt]
    have hi2 : items2[((i : Nat) : Int).toNat]? = some items2[i] := by simp [hlt2]
    have hc : ((i : Int) + 1) = ((i + 1 : Nat) : Int) := by omega
    rw [hi1, hi2]
    refine wpAny_bind (wpAny_mono ht (fun r s2 h2 => ?_) fun _ _ x => x)
    rcases h2 with ⟨hr, h2⟩ | ⟨hr, h2, js, js2, ⟨m, hl2⟩, ⟨m2, hb2⟩, z1, z2⟩
    · subst hr
      have hrec := ih (i + 1) (by omega) (by omega) s2 h2
      obtain ⟨hp2, g2, d2, tk2, os2⟩ := s2
      wp_walk
      rw [hc]
      exact ⟨plainId_quiet plain_eq_loop _, codeAny_builtin entry_eq_loop (by
        rw [Around.under_plainId plain_eq_loop _]
        exact hrec)⟩
    · subst hr
      have hR := fin2 s2 h2
      obtain ⟨hp2, g2, d2, tk2, os2⟩ := s2
      have e1 : js[((i : Nat) : Int).toNat]? = some (js[i]'(by omega)) := by simp [show i < js.size by omega]
      have e2 : js2[((i : Nat) : Int).toNat]? = some (js2[i]'(by omega)) := by simp [show i < js2.size by omega]
      wp_walk using wpAny_loadPart' hl2, wpAny_loadPart' hb2
      rw [e1, e2]
      wp_walk
      exact hR
theorem list_eqB (l b : Addr) (N : Nat) (I : Nat → Shared → Prop) (J : Shared → Prop) (hl : ListB prog w A (fun e s' => R (.error e) s') l b N I J)
    (fin : ∀ s, I N s → R (.ok (.ret (.bool true))) s) (fin2 : ∀ s, J s → R (.ok (.ret (.bool false))) s) {s : Shared} (h : I 0 s) :
    wpAny (model prog w) A.in1 (Builtin.«list.__eq__» ⟨[.ref l, .ref b], []⟩) (FinOf prog w A R) (fun e s' => R (.error e) s') s := by
  obtain ⟨items, items2, ⟨⟨n, hl1⟩, ⟨n2, hb1⟩, hs1, hs2⟩, _⟩ := hl _ _ h
  have hrec := eq_loopB (A := A) (R := R) l b N I J hl fin fin2 _ 0 rfl (Nat.zero_le _) s h
  obtain ⟨hp, g, d, tk, os⟩ := s
  have f3 := AutoSeq1.sub_list_list
  have hne : ¬ (items.size != items2.size) = true := by simp [hs1, hs2]
  wp_walk using wpAny_loadPart' hl1, wpAny_loadPart' hb1
  exact ⟨plainId_quiet plain_eq_loop _, codeAny_builtin entry_eq_loop (by
    rw [Around.under_plainId plain_eq_loop _]
    exact hrec)⟩
theorem list_eqL (l b : Addr) (items items2 : Array Value) (n n2 : Nat) (hc0 : (items.size != items2.size) = true) {s : Shared}
    (hl1 : s.heap.get? l = some { cls := .type "list", data := .seq items n }) (hb1 : s.heap.get? b = some { cls := .type "list", data := .seq items2 n2 }) (hR : R (.ok (.ret (.bool false))) s) :
    wpAny (model prog w) A.in1 (Builtin.«list.__eq__» ⟨[.ref l, .ref b], []⟩) (FinOf prog w A R) (fun e s' => R (.error e) s') s := by
  obtain ⟨hp, g, d, tk, os⟩ := s
  have f3 := AutoSeq1.sub_list_list
  wp_walk using wpAny_loadPart' hl1, wpAny_loadPart' hb1
  exact hR
theorem tuple_eqB (l b : Addr) (items items2 : Array Value) (n n2 : Nat) (dd dd2 : Option Addr) (sl sl2 : Array (Option Value)) (I : Nat → Shared → Prop) (J : Shared → Prop)
    (turn : ∀ i (h1 : i < items.size) (h2 : i < items2.size) s, I i s → wpAny (model prog w) A.in1 (eqBool items[i] items2[i]) (fun r s' => (r = true ∧ I (i + 1) s') ∨ (r = false ∧ J s')) (fun e s' => R (.error e) s') s)
    (fin : ∀ s, I (min items.size items2.size) s → R (.ok (.ret (.bool (items.size == items2.size)))) s) (fin2 : ∀ s, J s → R (.ok (.ret (.bool false))) s)
    {s : Shared} (hl1 : s.heap.get? l = some { cls := .type "tuple", dict := dd, data := .seq items n, slots := sl }) (hb1 : s.heap.get? b = some { cls := .type "tuple", dict := dd2, data := .seq items2 n2, slots := sl2 }) (h : I 0 s) :
    wpAny (model prog w) A.in1 (Builtin.«tuple.__eq__» ⟨[.ref l, .ref b], []⟩) (FinOf prog w A R) (fun e s' => R (.error e) s') s := by
  have f2 := AutoSeq1.sub_tuple_tuple
  have hZ : (items.toList.zip items2.toList).length = min items.size items2.size := by simp
  have h0 := h
  obtain ⟨hp, g, d, tk, os⟩ := s
  wp_walk using wpAny_loadPart' hl1, wpAny_loadPart' hb1, wpAny_forIn_list _ (fun rest b s' => b.1 = none ∧ ∃ i, rest = (items.toList.zip items2.toList).drop i ∧ i ≤ min items.size items2.size ∧ I i s') _
  case turn =>
    rintro ⟨y, x⟩ rest b s' ⟨hb', i, hz, hi, hI⟩
    have hlt : i < (items.toList.zip items2.toList).length := by
      rcases Nat.lt_or_ge i (items.toList.zip items2.toList).length with h' | h'
      · exact h'
      · rw [List.drop_of_length_le h'] at hz; cases hz
    have hm : i < min items.size items2.size := hZ ▸ hlt
    have h1 : i < items.size := Nat.lt_of_lt_of_le hm (Nat.min_le_left _ _)
    have h2 : i < items2.size := Nat.lt_of_lt_of_le hm (Nat.min_le_right _ _)
    rw [List.drop_eq_getElem_cons hlt] at hz
    injection hz with hyx hrest
    have hy : y = items[i] := by have := congrArg Prod.fst hyx; simpa using this
    have hx : x = items2[i] := by have := congrArg Prod.snd hyx; simpa using this
    subst hy hx
    refine wpAny_bind (wpAny_mono (turn i h1 h2 s' hI) (fun r s2 q2 => ?_) fun _ _ x => x)
    rcases q2 with ⟨hr, q2⟩ | ⟨hr, q2⟩
    · subst hr
      wp_walk
      exact ⟨rfl, i + 1, hrest, hm, q2⟩
    · subst hr
      have hR := fin2 s2 q2
      obtain ⟨hp2, g2, d2, tk2, os2⟩ := s2
      wp_walk
      exact hR
  case fin =>
    rintro ⟨b1, b2⟩ s' ⟨hb', i, hz, hi, hI⟩
    simp only at hb'
    subst hb'
    have hge : min items.size items2.size ≤ i := by
      rcases Nat.lt_or_ge i (items.toList.zip items2.toList).length with h' | h'
      · rw [List.drop_eq_getElem_cons h'] at hz; cases hz
      · exact hZ ▸ h'
    have hi' : i = min items.size items2.size := by omega
    have hR := fin s' (hi' ▸ hI)
    wp_walk
    exact hR
  case h =>
    exact ⟨rfl, 0, rfl, Nat.zero_le _, h0⟩
theorem ne_loopB (l b : Addr) (N : Nat) (I : Nat → Shared → Prop) (J : Shared → Prop) (hl : ListB prog w A (fun e s' => R (.error e) s') l b N I J)
    (fin : ∀ s, I N s → R (.ok (.ret (.bool false))) s) (fin2 : ∀ s, J s → R (.ok (.ret (.bool true))) s) (k : Nat) :
    ∀ i : Nat, N - i = k → i ≤ N → ∀ s, I i s →
      wpAny (model prog w) A.in1 (Builtin.«list.__eq__.loop» ⟨[.ref l, .ref b, rawInt i, rawInt 3], []⟩) (FinOf prog w A R) (fun e s' => R (.error e) s') s := by
  induction k with
  | zero =>
    intro i hk hi s h
    obtain ⟨items, items2, ⟨⟨n, hl1⟩, ⟨n2, hb1⟩, hs1, hs2⟩, _⟩ := hl _ _ h
    have hi' : i = N := by omega
    have hR : R (.ok (.ret (.bool false))) s := fin s (hi' ▸ h)
    obtain ⟨hp, g, d, tk, os⟩ := s
    wp_walk using wpAny_loadPart' hl1, wpAny_loadPart' hb1
    have hi1 : items[((i : Nat) : Int).toNat]? = none := by simp; omega
    have hi2 : items2[((i : Nat) : Int).toNat]? = none := by simp; omega
    rw [hi1, hi2]
    wp_walk using wpAny_loadPart' hl1, wpAny_loadPart' hb1
    show R (.ok (.ret (.bool (items.size != items2.size)))) _
    rw [hs1, hs2]
    simpa using hR
  | succ k ih =>
    intro i hk hi s h
    obtain ⟨items, items2, ⟨⟨n, hl1⟩, ⟨n2, hb1⟩, hs1, hs2⟩, turn⟩ := hl _ _ h
    have hlt : i < items.size := by omega
    have hlt2 : i < items2.size := by omega
    have ht := turn hlt hlt2
    obtain ⟨hp, g, d, tk, os⟩ := s
    wp_walk using wpAny_loadPart' hl1, wpAny_loadPart' hb1
    have hi1 : items[((i : Nat) : Int).toNat]? = some items[i] := by simp [hlt]
    have hi2 : items2[((i : Nat) : Int).toNat]? = some items2[i] := by simp [hlt2]
    have hc : ((i : Int) + 1) = ((i + 1 : Nat) : Int) := by omega
    rw [hi1, hi2]
    refine wpAny_bind (wpAny_mono ht (fun r s2 h2 => ?_) fun _ _ x => x)
    rcases h2 with ⟨hr, h2⟩ | ⟨hr, h2, js, js2, ⟨m, hl2⟩, ⟨m2, hb2⟩, z1, z2⟩
    · subst hr
      have hrec := ih (i + 1) (by omega) (by omega) s2 h2
      obtain ⟨hp2, g2, d2, tk2, os2⟩ := s2
      wp_walk
      rw [hc]
      exact ⟨plainId_quiet plain_eq_loop _, codeAny_builtin entry_eq_loop (by
        rw [Around.under_plainId plain_eq_loop _]
        exact hrec)⟩
    · subst hr
      have hR := fin2 s2 h2
      obtain ⟨hp2, g2, d2, tk2, os2⟩ := s2
      have e1 : js[((i : Nat) : Int).toNat]? = some (js[i]'(by omega)) := by simp [show i < js.size by omega]
      have e2 : js2[((i : Nat) : Int).toNat]? = some (js2[i]'(by omega)) := by simp [show i < js2.size by omega]
      wp_walk using wpAny_loadPart' hl2, wpAny_loadPart' hb2
      rw [e1, e2]
      wp_walk
      exact hR
theorem list_neB (l b : Addr) (N : Nat) (I : Nat → Shared → Prop) (J : Shared → Prop) (hl : ListB prog w A (fun e s' => R (.error e) s') l b N I J)
    (fin : ∀ s, I N s → R (.ok (.ret (.bool false))) s) (fin2 : ∀ s, J s → R (.ok (.ret (.bool true))) s) {s : Shared} (h : I 0 s) :
    wpAny (model prog w) A.in1 (Builtin.«list.__ne__» ⟨[.ref l, .ref b], []⟩) (FinOf prog w A R) (fun e s' => R (.error e) s') s := by
  obtain ⟨items, items2, ⟨⟨n, hl1⟩, ⟨n2, hb1⟩, hs1, hs2⟩, _⟩ := hl _ _ h
  have hrec := ne_loopB (A := A) (R := R) l b N I J hl fin fin2 _ 0 rfl (Nat.zero_le _) s h
  obtain ⟨hp, g, d, tk, os⟩ := s
  have f3 := AutoSeq1.sub_list_list
  have hne : ¬ (items.size != items2.size) = true := by simp [hs1, hs2]
  wp_walk using wpAny_loadPart' hl1, wpAny_loadPart' hb1
  exact ⟨plainId_quiet plain_eq_loop _, codeAny_builtin entry_eq_loop (by
    rw [Around.under_plainId plain_eq_loop _]
    exact hrec)⟩
theorem list_neL (l b : Addr) (items items2 : Array Value) (n n2 : Nat) (hc0 : (items.size != items2.size) = true) {s : Shared}
    (hl1 : s.heap.get? l = some { cls := .type "list", data := .seq items n }) (hb1 : s.heap.get? b = some { cls := .type "list", data := .seq items2 n2 }) (hR : R (.ok (.ret (.bool true))) s) :
    wpAny (model prog w) A.in1 (Builtin.«list.__ne__» ⟨[.ref l, .ref b], []⟩) (FinOf prog w A R) (fun e s' => R (.error e) s') s := by
  obtain ⟨hp, g, d, tk, os⟩ := s
  have f3 := AutoSeq1.sub_list_list
  wp_walk using wpAny_loadPart' hl1, wpAny_loadPart' hb1
  exact hR
theorem tuple_neB (l b : Addr) (items items2 : Array Value) (n n2 : Nat) (dd dd2 : Option Addr) (sl sl2 : Array (Option Value)) (I : Nat → Shared → Prop) (J : Shared → Prop)
    (turn : ∀ i (h1 : i < items.size) (h2 : i < items2.size) s, I i s → wpAny (model prog w) A.in1 (eqBool items[i] items2[i]) (fun r s' => (r = true ∧ I (i + 1) s') ∨ (r = false ∧ J s')) (fun e s' => R (.error e) s') s)
    (fin : ∀ s, I (min items.size items2.size) s → R (.ok (.ret (.bool (items.size != items2.size)))) s) (fin2 : ∀ s, J s → R (.ok (.ret (.bool true))) s)
    {s : Shared} (hl1 : s.heap.get? l = some { cls := .type "tuple", dict := dd, data := .seq items n, slots := sl }) (hb1 : s.heap.get? b = some { cls := .type "tuple", dict := dd2, data := .seq items2 n2, slots := sl2 }) (h : I 0 s) :
    wpAny (model prog w) A.in1 (Builtin.«tuple.__ne__» ⟨[.ref l, .ref b], []⟩) (FinOf prog w A R) (fun e s' => R (.error e) s') s := by
  have f2 := AutoSeq1.sub_tuple_tuple
  have hZ : (items.toList.zip items2.toList).length = min items.size items2.size := by simp
  have h0 := h
  obtain ⟨hp, g, d, tk, os⟩ := s
  wp_walk using wpAny_loadPart' hl1, wpAny_loadPart' hb1, wpAny_forIn_list _ (fun rest b s' => b.1 = none ∧ ∃ i, rest = (items.toList.zip items2.toList).drop i ∧ i ≤ min items.size items2.size ∧ I i s') _
  case turn =>
    rintro ⟨y, x⟩ rest b s' ⟨hb', i, hz, hi, hI⟩
    have hlt : i < (items.toList.zip items2.toList).length := by
      rcases Nat.lt_or_ge i (items.toList.zip items2.toList).length with h' | h'
      · exact h'
      · rw [List.drop_of_length_le h'] at hz; cases hz
    have hm : i < min items.size items2.size := hZ ▸ hlt
    have h1 : i < items.size := Nat.lt_of_lt_of_le hm (Nat.min_le_left _ _)
    have h2 : i < items2.size := Nat.lt_of_lt_of_le hm (Nat.min_le_right _ _)
    rw [List.drop_eq_getElem_cons hlt] at hz
    injection hz with hyx hrest
    have hy : y = items[i] := by have := congrArg Prod.fst hyx; simpa using this
    have hx : x = items2[i] := by have := congrArg Prod.snd hyx; simpa using this
    subst hy hx
    refine wpAny_bind (wpAny_mono (turn i h1 h2 s' hI) (fun r s2 q2 => ?_) fun _ _ x => x)
    rcases q2 with ⟨hr, q2⟩ | ⟨hr, q2⟩
    · subst hr
      wp_walk
      exact ⟨rfl, i + 1, hrest, hm, q2⟩
    · subst hr
      have hR := fin2 s2 q2
      obtain ⟨hp2, g2, d2, tk2, os2⟩ := s2
      wp_walk
      exact hR
  case fin =>
    rintro ⟨b1, b2⟩ s' ⟨hb', i, hz, hi, hI⟩
    simp only at hb'
    subst hb'
    have hge : min items.size items2.size ≤ i := by
      rcases Nat.lt_or_ge i (items.toList.zip items2.toList).length with h' | h'
      · rw [List.drop_eq_getElem_cons h'] at hz; cases hz
      · exact hZ ▸ h'
    have hi' : i = min items.size items2.size := by omega
    have hR := fin s' (hi' ▸ hI)
    wp_walk
    exact hR
  case h =>
    exact ⟨rfl, 0, rfl, Nat.zero_le _, h0⟩
end
section
variable {prog : Program} {w : World} {A : Around} {E : Value → Shared → Prop} {s : Shared}
theorem rc_list_eq {l b : Addr} {N : Nat} {Q : Value → Shared → Prop} (hu : A.units < cLine) (I : Nat → Shared → Prop) (J : Shared → Prop) (hl : ListB prog w A E l b N I J)
    (fin : ∀ s, I N s → Q (.bool true) s) (fin2 : ∀ s, J s → Q (.bool false) s) (h : I 0 s) : wpAny (model prog w) A (richCompare .Eq (.ref l) (.ref b)) Q E s := by
  obtain ⟨items, items2, ⟨⟨n, hl1⟩, ⟨n2, hb1⟩, hs1, hs2⟩, _⟩ := hl _ _ h
  refine wpAny_richCompare_same_room (op := .Eq) ⟨_, hl1, rfl⟩ ⟨_, hb1, rfl⟩ F.slot_list_eq (call_here F.slot_list_eq ⟨_, hl1, rfl⟩ F.entry_list_eq (F.args_list_eq_2 _ _) ?_) hu
  exact list_eqB (R := wants (fun v s' => v ≠ .notImplemented ∧ Q v s') E) l b N I J hl (fun s' q => ⟨(fun x => nomatch x), fin s' q⟩) (fun s' q => ⟨(fun x => nomatch x), fin2 s' q⟩) h
theorem rc_len_eq {l b : Addr} {items items2 : Array Value} {n n2 : Nat} {Q : Value → Shared → Prop} (hu : A.units < cLine) (hc0 : (items.size != items2.size) = true)
    (hl1 : s.heap.get? l = some { cls := .type "list", data := .seq items n }) (hb1 : s.heap.get? b = some { cls := .type "list", data := .seq items2 n2 }) (hq : Q (.bool false) s) : wpAny (model prog w) A (richCompare .Eq (.ref l) (.ref b)) Q E s := by
  refine wpAny_richCompare_same_room (op := .Eq) ⟨_, hl1, rfl⟩ ⟨_, hb1, rfl⟩ F.slot_list_eq (call_here F.slot_list_eq ⟨_, hl1, rfl⟩ F.entry_list_eq (F.args_list_eq_2 _ _) ?_) hu
  exact list_eqL (R := wants (fun v s' => v ≠ .notImplemented ∧ Q v s') E) l b items items2 n n2 hc0 hl1 hb1 ⟨(fun x => nomatch x), hq⟩
theorem rc_tup_eq {l b : Addr} {items items2 : Array Value} {Q : Value → Shared → Prop} (hu : A.units < cLine) (I : Nat → Shared → Prop) (J : Shared → Prop)
    (hl : s.heap.IsTuple l items) (hb : s.heap.IsTuple b items2)
    (turn : ∀ i (h1 : i < items.size) (h2 : i < items2.size) s, I i s → wpAny (model prog w) A.in1 (eqBool items[i] items2[i]) (fun r s' => (r = true ∧ I (i + 1) s') ∨ (r = false ∧ J s')) E s)
    (fin : ∀ s, I (min items.size items2.size) s → Q (.bool (items.size == items2.size)) s) (fin2 : ∀ s, J s → Q (.bool false) s) (h : I 0 s) : wpAny (model prog w) A (richCompare .Eq (.ref l) (.ref b)) Q E s := by
  obtain ⟨⟨cls, dd, data, sl⟩, ho, hc, n, hd⟩ := id hl
  obtain ⟨⟨cls2, dd2, data2, sl2⟩, ho2, hc2, n2, hd2⟩ := id hb
  simp only at hc hd hc2 hd2
  subst hc hd hc2 hd2
  refine wpAny_richCompare_same_room (op := .Eq) ⟨_, ho, rfl⟩ ⟨_, ho2, rfl⟩ F.slot_tuple_eq (call_here F.slot_tuple_eq ⟨_, ho, rfl⟩ F.entry_tuple_eq (F.args_tuple_eq_2 _ _) ?_) hu
  exact tuple_eqB (R := wants (fun v s' => v ≠ .notImplemented ∧ Q v s') E) l b items items2 n n2 dd dd2 sl sl2 I J turn (fun s' q => ⟨(fun x => nomatch x), fin s' q⟩) (fun s' q => ⟨(fun x => nomatch x), fin2 s' q⟩) ho ho2 h
theorem rc_list_ne {l b : Addr} {N : Nat} {Q : Value → Shared → Prop} (hu : A.units < cLine) (I : Nat → Shared → Prop) (J : Shared → Prop) (hl : ListB prog w A E l b N I J)
    (fin : ∀ s, I N s → Q (.bool false) s) (fin2 : ∀ s, J s → Q (.bool true) s) (h : I 0 s) : wpAny (model prog w) A (richCompare .NotEq (.ref l) (.ref b)) Q E s := by
  obtain ⟨items, items2, ⟨⟨n, hl1⟩, ⟨n2, hb1⟩, hs1, hs2⟩, _⟩ := hl _ _ h
  refine wpAny_richCompare_same_room (op := .NotEq) ⟨_, hl1, rfl⟩ ⟨_, hb1, rfl⟩ F.slot_list_ne (call_here F.slot_list_ne ⟨_, hl1, rfl⟩ F.entry_list_ne (F.args_list_ne_2 _ _) ?_) hu
  exact list_neB (R := wants (fun v s' => v ≠ .notImplemented ∧ Q v s') E) l b N I J hl (fun s' q => ⟨(fun x => nomatch x), fin s' q⟩) (fun s' q => ⟨(fun x => nomatch x), fin2 s' q⟩) h
theorem rc_len_ne {l b : Addr} {items items2 : Array Value} {n n2 : Nat} {Q : Value → Shared → Prop} (hu : A.units < cLine) (hc0 : (items.size != items2.size) = true)
    (hl1 : s.heap.get? l = some { cls := .type "list", data := .seq items n }) (hb1 : s.heap.get? b = some { cls := .type "list", data := .seq items2 n2 }) (hq : Q (.bool true) s) : wpAny (model prog w) A (richCompare .NotEq (.ref l) (.ref b)) Q E s := by
  refine wpAny_richCompare_same_room (op := .NotEq) ⟨_, hl1, rfl⟩ ⟨_, hb1, rfl⟩ F.slot_list_ne (call_here F.slot_list_ne ⟨_, hl1, rfl⟩ F.entry_list_ne (F.args_list_ne_2 _ _) ?_) hu
  exact list_neL (R := wants (fun v s' => v ≠ .notImplemented ∧ Q v s') E) l b items items2 n n2 hc0 hl1 hb1 ⟨(fun x => nomatch x), hq⟩
theorem rc_tup_ne {l b : Addr} {items items2 : Array Value} {Q : Value → Shared → Prop} (hu : A.units < cLine) (I : Nat → Shared → Prop) (J : Shared → Prop)
    (hl : s.heap.IsTuple l items) (hb : s.heap.IsTuple b items2)
    (turn : ∀ i (h1 : i < items.size) (h2 : i < items2.size) s, I i s → wpAny (model prog w) A.in1 (eqBool items[i] items2[i]) (fun r s' => (r = true ∧ I (i + 1) s') ∨ (r = false ∧ J s')) E s)
    (fin : ∀ s, I (min items.size items2.size) s → Q (.bool (items.size != items2.size)) s) (fin2 : ∀ s, J s → Q (.bool true) s) (h : I 0 s) : wpAny (model prog w) A (richCompare .NotEq (.ref l) (.ref b)) Q E s := by
  obtain ⟨⟨cls, dd, data, sl⟩, ho, hc, n, hd⟩ := id hl
  obtain ⟨⟨cls2, dd2, data2, sl2⟩, ho2, hc2, n2, hd2⟩ := id hb
  simp only at hc hd hc2 hd2
  subst hc hd hc2 hd2
  refine wpAny_richCompare_same_room (op := .NotEq) ⟨_, ho, rfl⟩ ⟨_, ho2, rfl⟩ F.slot_tuple_ne (call_here F.slot_tuple_ne ⟨_, ho, rfl⟩ F.entry_tuple_ne (F.args_tuple_ne_2 _ _) ?_) hu
  exact tuple_neB (R := wants (fun v s' => v ≠ .notImplemented ∧ Q v s') E) l b items items2 n n2 dd dd2 sl sl2 I J turn (fun s' q => ⟨(fun x => nomatch x), fin s' q⟩) (fun s' q => ⟨(fun x => nomatch x), fin2 s' q⟩) ho ho2 h
end
end BFQ
set_option maxHeartbeats 4000000
/-! == and != decided by what the values stand for. -/
namespace BF
open PySem PySem.Spec PyProof.Rows L2
/-- what a value stands for -/
abbrev Den (α : Type) := Hp → V → α → Prop
def MonD {α : Type} (F : Den α) : Prop := ∀ H H' x p, Ext H H' → F H x p → F H' x p
/-- one object stands for one thing, and only objects do -/
def OneD {α : Type} (F : Den α) : Prop := ∀ H x p q, F H x p → F H x q → p = q
def RefD {α : Type} (F : Den α) : Prop := ∀ H x p, F H x p → ∃ a, x = .ref a
def EqD {α : Type} [DecidableEq α] (X : Cx) (n : Nat) (F : Den α) : Prop :=
  ∀ (A : Around) (pins : List (Addr × Obj)) (s : Shared) (σ : L2.St) (H : Hp) (x y : V) (u v : Value) (p q : α), Sub X n A → Inv X pins σ H s → RelV x u → RelV y v → F H x p → F H y q →
    wpAny (model X.prog X.w) A (eqBool u v) (fun r s' => r = decide (p = q) ∧ ∃ H', Inv X pins σ H' s' ∧ Ext H H') X.xe s
/-- a rich comparison; ne: != -/
def RcD {α : Type} [DecidableEq α] (X : Cx) (n : Nat) (op : CmpOp) (neg : Bool) (F : Den α) : Prop :=
  ∀ (A : Around) (pins : List (Addr × Obj)) (s : Shared) (σ : L2.St) (H : Hp) (x y : V) (u v : Value) (p q : α), Sub X n A → Inv X pins σ H s → RelV x u → RelV y v → F H x p → F H y q →
    wpAny (model X.prog X.w) A (richCompare op u v) (fun r s' => r = .bool (xor neg (decide (p = q))) ∧ ∃ H', Inv X pins σ H' s' ∧ Ext H H') X.xe s
def LstD {α : Type} (F : Den α) : Den (List α) := fun H v ps => ∃ a xs, v = .ref a ∧ H a = some (.lst xs) ∧ Paired (F H) xs ps
def TupD {α : Type} (K : PySem.W.Frag) (F : Den α) : Den (List α) := fun H v ps => ∃ a xs, v = .ref a ∧ SqT K H a xs ∧ Paired (F H) xs ps
section
variable {α : Type} {F : Den α}
theorem mon_lstD (m : MonD F) : MonD (LstD F) := fun H H' v ps e ⟨a, xs, h, h1, h2⟩ => ⟨a, xs, h, e _ _ h1, Pd.imp h2 fun _ _ z => m _ _ _ _ e z⟩
theorem mon_tupD {K : PySem.W.Frag} (m : MonD F) : MonD (TupD K F) := fun H H' v ps e ⟨a, xs, h, h1, h2⟩ => ⟨a, xs, h, h1.ext e, Pd.imp h2 fun _ _ z => m _ _ _ _ e z⟩
theorem pd_one {H : Hp} (o : OneD F) : ∀ {xs : List V} {ps qs : List α}, Paired (F H) xs ps → Paired (F H) xs qs → ps = qs
  | _, _, _, .nil, .nil => rfl
  | _, _, _, .cons a r, .cons b t => by rw [o _ _ _ _ a b, pd_one o r t]
theorem one_lstD (o : OneD F) : OneD (LstD F) := fun H v ps qs ⟨a, xs, h, h1, h2⟩ ⟨b, ys, e, h3, h4⟩ => by
  subst h
  cases e
  rw [h1] at h3
  cases h3
  exact pd_one o h2 h4
theorem ref_lstD : RefD (LstD F) := fun H v ps ⟨a, xs, h, _⟩ => ⟨a, h⟩
theorem ref_tupD {K : PySem.W.Frag} : RefD (TupD K F) := fun H v ps ⟨a, xs, h, _⟩ => ⟨a, h⟩
variable [DecidableEq α] {X : Cx} {n m : Nat}
theorem EqD.mono (h : EqD X n F) (hn : n ≤ m) : EqD X m F := fun A pins s σ H x y u v p q sb => h A pins s σ H x y u v p q (sb.mono hn)
theorem RcD.mono {op : CmpOp} {neg : Bool} (h : RcD X n op neg F) (hn : n ≤ m) : RcD X m op neg F := fun A pins s σ H x y u v p q sb => h A pins s σ H x y u v p q (sb.mono hn)
theorem RcD.eqD (h : RcD X n .Eq false F) (o : OneD F) (r : RefD F) : EqD X n F := by
  intro A pins s σ H x y u v p q sb I rx ry hp hq
  obtain ⟨a, rfl⟩ := r _ _ _ hp
  obtain ⟨b, rfl⟩ := r _ _ _ hq
  cases rx
  cases ry
  by_cases hab : a = b
  · subst hab
    have e := o _ _ _ _ hp hq
    exact SeqAt.EqAt.same (A := A) (s := s) (.ref a) X.prog X.w X.xe _ ⟨(decide_eq_true e).symm, H, I, Ext.rfl'⟩
  · refine GQ.eqBool_refG hab (wpAny_mono (h A pins s σ H (.ref a) (.ref b) _ _ p q sb I rfl rfl hp hq) (fun r s' z => ?_) fun _ _ x => x)
    obtain ⟨hr', z⟩ := z
    exact ⟨_, hr', by simp, z⟩
/-- the state of a loop over entries: the first i pairs are equal; or some pair is not -/
def LpI (X : Cx) (pins : List (Addr × Obj)) (σ : L2.St) (H : Hp) (ps qs : List α) (i : Nat) (s' : Shared) : Prop := ps.take i = qs.take i ∧ ∃ H', Inv X pins σ H' s' ∧ Ext H H'
def LpJ (X : Cx) (pins : List (Addr × Obj)) (σ : L2.St) (H : Hp) (ps qs : List α) (s' : Shared) : Prop := ps ≠ qs ∧ ∃ H', Inv X pins σ H' s' ∧ Ext H H'
theorem turnD (mF : MonD F) (h : EqD X n F) {A : Around} (sb : Sub X (n + 1) A) {pins : List (Addr × Obj)} {σ : L2.St} {H : Hp} {xs ys : List V} {its its2 : List Value} {ps qs : List α} (hp : Paired (F H) xs ps) (hq : Paired (F H) ys qs) (r : Vals xs its) (r2 : Vals ys its2)
    (i : Nat) (h1 : i < its.toArray.size) (h2 : i < its2.toArray.size) (s' : Shared) (l : LpI X pins σ H ps qs i s') :
    wpAny (model X.prog X.w) A.in1 (eqBool its.toArray[i] its2.toArray[i]) (fun r s2 => (r = true ∧ LpI X pins σ H ps qs (i + 1) s2) ∨ (r = false ∧ LpJ X pins σ H ps qs s2)) X.xe s' := by
  obtain ⟨tk, H1, I1, e1⟩ := l
  have g1 : its[i]? = some its.toArray[i] := by
    have h1' : i < its.length := by simpa using h1
    rw [List.getElem?_eq_getElem h1'] <;> simp
  have g2 : its2[i]? = some its2.toArray[i] := by
    have h2' : i < its2.length := by simpa using h2
    rw [List.getElem?_eq_getElem h2'] <;> simp
  have k1 : i < xs.length := by rw [r.length]; simpa using h1
  have k2 : i < ys.length := by rw [r2.length]; simpa using h2
  obtain ⟨u, hu, ru⟩ := r.get (List.getElem?_eq_getElem k1)
  obtain ⟨v, hv, rv⟩ := r2.get (List.getElem?_eq_getElem k2)
  obtain ⟨p, ep, fp⟩ := Pd.get hp (List.getElem?_eq_getElem k1)
  obtain ⟨q, eq, fq⟩ := Pd.get hq (List.getElem?_eq_getElem k2)
  rw [g1] at hu
  rw [g2] at hv
  rw [Option.some.inj hu, Option.some.inj hv]
  refine wpAny_mono (h A.in1 pins s' σ H1 _ _ u v p q sb.in1 I1 ru rv (mF _ _ _ _ e1 fp) (mF _ _ _ _ e1 fq)) (fun r s2 z => ?_) fun _ _ x => x
  obtain ⟨hr, H2, I2, e2⟩ := z
  by_cases hpq : p = q
  · left
    refine ⟨by rw [hr]; exact decide_eq_true hpq, ?_, H2, I2, e1.trans e2⟩
    rw [List.take_add_one, List.take_add_one, tk, ep, eq, hpq]
  · right
    refine ⟨by rw [hr]; exact decide_eq_false hpq, fun z => hpq ?_, H2, I2, e1.trans e2⟩
    rw [z, eq] at ep
    exact (Option.some.inj ep).symm
theorem take_all {ps qs : List α} (h : ps.length = qs.length) (e : ps.take ps.length = qs.take ps.length) : ps = qs := by
  rw [List.take_length, h, List.take_length] at e
  exact e
theorem rcD_list (mF : MonD F) (h : EqD X n F) : RcD X (n + 1) .Eq false (LstD F) := by
  intro A pins s σ H x y u v p q sb I rx ry hp hq
  obtain ⟨a, xs, rfl, ha, pa⟩ := hp
  obtain ⟨b, ys, rfl, hb, pb⟩ := hq
  cases rx
  cases ry
  by_cases hl : xs.length = ys.length
  · have hpl : p.length = q.length := by rw [← Pd.len pa, ← Pd.len pb]; exact hl
    refine BFQ.rc_list_eq (N := xs.length) sb.room.units0 (LpI X pins σ H p q) (LpJ X pins σ H p q) (fun i s' z => ?_) (fun s' ⟨t, z⟩ => ⟨?_, z⟩) (fun s' ⟨t, z⟩ => ⟨by simp [t], z⟩) ⟨rfl, H, I, Ext.rfl'⟩
    · obtain ⟨tk, H1, I1, e1⟩ := id z
      obtain ⟨z1, its, k, r, e⟩ := I1.hok a _ (e1 _ _ ha)
      obtain ⟨z2, its2, k2, r2, e2⟩ := I1.hok b _ (e1 _ _ hb)
      refine ⟨its.toArray, its2.toArray, ⟨⟨k, e⟩, ⟨k2, e2⟩, by rw [List.size_toArray, ← r.length], by rw [List.size_toArray, ← r2.length, ← hl]⟩, fun h1 h2 => ?_⟩
      refine wpAny_mono (turnD mF h sb pa pb r r2 i h1 h2 s' z) (fun r s2 z => z.imp id fun ⟨e, ne, H2, I2, x2⟩ => ⟨e, ⟨ne, H2, I2, x2⟩, ?_⟩) fun _ _ x => x
      obtain ⟨z1, its, k, r, e⟩ := I2.hok a _ (x2 _ _ ha)
      obtain ⟨z2, its2, k2, r2, e2⟩ := I2.hok b _ (x2 _ _ hb)
      exact ⟨its.toArray, its2.toArray, ⟨k, e⟩, ⟨k2, e2⟩, by rw [List.size_toArray, ← r.length], by rw [List.size_toArray, ← r2.length, ← hl]⟩
    · rw [Pd.len pa] at t
      simp [take_all hpl t]
  · obtain ⟨z1, its, k, r, e⟩ := I.hok a _ ha
    obtain ⟨z2, its2, k2, r2, e2⟩ := I.hok b _ hb
    refine BFQ.rc_len_eq sb.room.units0 (items := its.toArray) (items2 := its2.toArray) ?_ e e2 ⟨?_, H, I, Ext.rfl'⟩
    · rw [List.size_toArray, List.size_toArray, ← r.length, ← r2.length]
      simpa using hl
    · have : p ≠ q := fun z => hl (by rw [Pd.len pa, Pd.len pb, z])
      simp [this]
theorem rcD_listN (mF : MonD F) (h : EqD X n F) : RcD X (n + 1) .NotEq true (LstD F) := by
  intro A pins s σ H x y u v p q sb I rx ry hp hq
  obtain ⟨a, xs, rfl, ha, pa⟩ := hp
  obtain ⟨b, ys, rfl, hb, pb⟩ := hq
  cases rx
  cases ry
  by_cases hl : xs.length = ys.length
  · have hpl : p.length = q.length := by rw [← Pd.len pa, ← Pd.len pb]; exact hl
    refine BFQ.rc_list_ne (N := xs.length) sb.room.units0 (LpI X pins σ H p q) (LpJ X pins σ H p q) (fun i s' z => ?_) (fun s' ⟨t, z⟩ => ⟨?_, z⟩) (fun s' ⟨t, z⟩ => ⟨by simp [t], z⟩) ⟨rfl, H, I, Ext.rfl'⟩
    · obtain ⟨tk, H1, I1, e1⟩ := id z
      obtain ⟨z1, its, k, r, e⟩ := I1.hok a _ (e1 _ _ ha)
      obtain ⟨z2, its2, k2, r2, e2⟩ := I1.hok b _ (e1 _ _ hb)
      refine ⟨its.toArray, its2.toArray, ⟨⟨k, e⟩, ⟨k2, e2⟩, by rw [List.size_toArray, ← r.length], by rw [List.size_toArray, ← r2.length, ← hl]⟩, fun h1 h2 => ?_⟩
      refine wpAny_mono (turnD mF h sb pa pb r r2 i h1 h2 s' z) (fun r s2 z => z.imp id fun ⟨e, ne, H2, I2, x2⟩ => ⟨e, ⟨ne, H2, I2, x2⟩, ?_⟩) fun _ _ x => x
      obtain ⟨z1, its, k, r, e⟩ := I2.hok a _ (x2 _ _ ha)
      obtain ⟨z2, its2, k2, r2, e2⟩ := I2.hok b _ (x2 _ _ hb)
      exact ⟨its.toArray, its2.toArray, ⟨k, e⟩, ⟨k2, e2⟩, by rw [List.size_toArray, ← r.length], by rw [List.size_toArray, ← r2.length, ← hl]⟩
    · rw [Pd.len pa] at t
      simp [take_all hpl t]
  · obtain ⟨z1, its, k, r, e⟩ := I.hok a _ ha
    obtain ⟨z2, its2, k2, r2, e2⟩ := I.hok b _ hb
    refine BFQ.rc_len_ne sb.room.units0 (items := its.toArray) (items2 := its2.toArray) ?_ e e2 ⟨?_, H, I, Ext.rfl'⟩
    · rw [List.size_toArray, List.size_toArray, ← r.length, ← r2.length]
      simpa using hl
    · have : p ≠ q := fun z => hl (by rw [Pd.len pa, Pd.len pb, z])
      simp [this]
theorem take_min {ps qs : List α} (e : ps.take (min ps.length qs.length) = qs.take (min ps.length qs.length)) : ps = qs ↔ ps.length = qs.length := by
  constructor
  · intro h; rw [h]
  · intro h
    rw [h, Nat.min_self, List.take_length, ← h, List.take_length] at e
    exact e
theorem rcD_tup (mF : MonD F) (h : EqD X n F) : RcD X (n + 1) .Eq false (TupD X.K F) := by
  intro A pins s σ H x y u v p q sb I rx ry hp hq
  obtain ⟨a, xs, rfl, ha, pa⟩ := hp
  obtain ⟨b, ys, rfl, hb, pb⟩ := hq
  cases rx
  cases ry
  obtain ⟨its, r, e, z⟩ := I.tuple ha
  obtain ⟨its2, r2, e2, z2⟩ := I.tuple hb
  have l1 : its.toArray.size = p.length := by rw [List.size_toArray, ← r.length, Pd.len pa]
  have l2 : its2.toArray.size = q.length := by rw [List.size_toArray, ← r2.length, Pd.len pb]
  refine BFQ.rc_tup_eq sb.room.units0 (LpI X pins σ H p q) (LpJ X pins σ H p q) e e2 (fun i h1 h2 s' z => turnD mF h sb pa pb r r2 i h1 h2 s' z) (fun s' ⟨t, z⟩ => ⟨?_, z⟩) (fun s' ⟨t, z⟩ => ⟨by simp [t], z⟩) ⟨rfl, H, I, Ext.rfl'⟩
  rw [l1, l2] at t ⊢
  have := take_min t
  simp [this]
  rfl
theorem rcD_tupN (mF : MonD F) (h : EqD X n F) : RcD X (n + 1) .NotEq true (TupD X.K F) := by
  intro A pins s σ H x y u v p q sb I rx ry hp hq
  obtain ⟨a, xs, rfl, ha, pa⟩ := hp
  obtain ⟨b, ys, rfl, hb, pb⟩ := hq
  cases rx
  cases ry
  obtain ⟨its, r, e, z⟩ := I.tuple ha
  obtain ⟨its2, r2, e2, z2⟩ := I.tuple hb
  have l1 : its.toArray.size = p.length := by rw [List.size_toArray, ← r.length, Pd.len pa]
  have l2 : its2.toArray.size = q.length := by rw [List.size_toArray, ← r2.length, Pd.len pb]
  refine BFQ.rc_tup_ne sb.room.units0 (LpI X pins σ H p q) (LpJ X pins σ H p q) e e2 (fun i h1 h2 s' z => turnD mF h sb pa pb r r2 i h1 h2 s' z) (fun s' ⟨t, z⟩ => ⟨?_, z⟩) (fun s' ⟨t, z⟩ => ⟨by simp [t], z⟩) ⟨rfl, H, I, Ext.rfl'⟩
  rw [l1, l2] at t ⊢
  have := take_min t
  simp [this, bne]
  rfl
/-- x == y, x != y as expressions -/
def rEqF (F : Den α) (neg : Bool) : R2 := fun x y H Q => ∃ p q, F H x p ∧ F H y q ∧ ∀ H', Ext H H' → Q (.bl (xor neg (decide (p = q)))) H'
theorem op_eqF (h : RcD X n .Eq false F) (hr : Room n X.A) : OpR X (compareOp .Eq) (rEqF F false) := by
  intro pins s σ H x y v u Q I rx ry hq
  obtain ⟨p, q, d, d2, k⟩ := hq
  show wpAny (model X.prog X.w) X.A (richCompare .Eq v u) (EP X pins σ Q) X.xe s
  refine wpAny_mono (h X.A pins s σ H x y v u p q ⟨hr, rfl⟩ I rx ry d d2) (fun r s' z => ?_) fun _ _ x => x
  obtain ⟨hr', H', I', e⟩ := z
  subst hr'
  exact ⟨.bl _, H', I', rfl, k H' e⟩
theorem op_neF (h : RcD X n .NotEq true F) (hr : Room n X.A) : OpR X (compareOp .NotEq) (rEqF F true) := by
  intro pins s σ H x y v u Q I rx ry hq
  obtain ⟨p, q, d, d2, k⟩ := hq
  show wpAny (model X.prog X.w) X.A (richCompare .NotEq v u) (EP X pins σ Q) X.xe s
  refine wpAny_mono (h X.A pins s σ H x y v u p q ⟨hr, rfl⟩ I rx ry d d2) (fun r s' z => ?_) fun _ _ x => x
  obtain ⟨hr', H', I', e⟩ := z
  subst hr'
  exact ⟨.bl _, H', I', rfl, k H' e⟩
end
end BF
set_option maxHeartbeats 4000000
/-! Own operators of a class, any answer. -/
namespace BF
open PySem PySem.Spec PyProof.Rows L2
def InsOf (C : Addr) (H : Hp) (x : V) : Prop := ∃ a dx fs, x = .ref a ∧ H a = some (.ins C dx fs)
def rOwn (C : Addr) (sp : Sp) (E : XK) : R2 := fun x y H Q => InsOf C H x ∧ InsOf C H y ∧ sp [x, y] H Q E
def rOwn1 (C : Addr) (sp : Sp) (E : XK) : V → Hp → VK → Prop := fun x H Q => InsOf C H x ∧ sp [x] H Q E
section
variable {X : Cx} {CX : CXT} {k n : Nat} {f C : Addr} {fd : FuncData} {ps : List Str} {sp : Sp} {E : XK}
theorem cmpBack_EP {pins : List (Addr × Obj)} {σ : L2.St} {Q : VK} {v : Value} {s' : Shared} (h : EP X pins σ Q v s') : PySem.W.CmpBack (EP X pins σ Q) v s' := by
  have h0 := h
  obtain ⟨x, H, I, r, q⟩ := h
  cases x with
  | non => cases r; exact h0
  | bl b => cases r; exact h0
  | int i => obtain ⟨t, rfl⟩ := r; exact h0
  | str i => obtain ⟨t, rfl⟩ := r; exact h0
  | byt i => obtain ⟨t, rfl⟩ := r; exact h0
  | flt i => obtain ⟨t, rfl⟩ := r; exact h0
  | ref a => cases r; exact h0
  | ty n => cases r; exact h0
theorem op_own {op : Operator} (F : FnOk X.prog X.w X.K X.mg X.base CX k f fd ps sp) (hr : Room k X.A) (hs : PySem.W.findIn X.K (.ref C) (PySem.dunder op.info.2) = some (some (.ref f)))
    (hf : PySem.W.isFn X.K (.ref f) = true) (hc : PySem.W.selfFirst X.K C = true) (hb : Binds X.K fd ps []) (hx : Passes CX X E) : OpR X (binaryOp op) (rOwn C sp E) := by
  intro pins s σ H x y v u Q I rx ry h
  obtain ⟨⟨a, dx, fs, rfl, ha⟩, ⟨b, dy, gs, rfl, hb'⟩, h⟩ := h
  cases rx
  cases ry
  obtain ⟨mA, J, _⟩ := ins_get I.hok ha
  obtain ⟨mB, J', _⟩ := ins_get I.hok hb'
  obtain ⟨od, J, _⟩ := J.look
  obtain ⟨od', J', _⟩ := J'.look
  obtain ⟨m, hF⟩ := I.fr
  refine PySem.W.binop_K hF I.ok.mod.kin J J'.type hc hs hf ?_
  exact wpAny_mono (run_fn (vs := [.ref a, .ref b]) F hr hb .nil hx I (.cons rfl (.cons rfl .nil)) h) (fun v s' z => cmpBack_EP z) fun _ _ x => x
theorem op_ownC {op : CmpOp} (F : FnOk X.prog X.w X.K X.mg X.base CX k f fd ps sp) (hr : Room k X.A) (hs : PySem.W.findIn X.K (.ref C) (PySem.cmpInfo op).2.1 = some (some (.ref f)))
    (hf : PySem.W.isFn X.K (.ref f) = true) (hb : Binds X.K fd ps []) (hx : Passes CX X E) : OpR X (richCompare op) (rOwn C sp E) := by
  intro pins s σ H x y v u Q I rx ry h
  obtain ⟨⟨a, dx, fs, rfl, ha⟩, ⟨b, dy, gs, rfl, hb'⟩, h⟩ := h
  cases rx
  cases ry
  obtain ⟨mA, J, _⟩ := ins_get I.hok ha
  obtain ⟨mB, J', _⟩ := ins_get I.hok hb'
  obtain ⟨od, J, _⟩ := J.look
  obtain ⟨od', J', _⟩ := J'.look
  obtain ⟨m, hF⟩ := I.fr
  refine PySem.W.cmp_K (op := op) (tb := .ref C) hr.units0 hF I.ok.mod.kin J J'.type (by simp [PySem.W.notFirst]) hs hf ?_
  exact wpAny_mono (run_fn (vs := [.ref a, .ref b]) F hr hb .nil hx I (.cons rfl (.cons rfl .nil)) h) (fun v s' z => cmpBack_EP z) fun _ _ x => x
theorem op_ownEq (F : FnOk X.prog X.w X.K X.mg X.base CX k f fd ps sp) (hr : Room k X.A) (m : Meth X.K C "__eq__" f) (hb : Binds X.K fd ps []) (hx : Passes CX X E) : OpR X (compareOp .Eq) (rOwn C sp E) :=
  op_ownC (op := .Eq) F hr m.at_ m.fn hb hx
theorem un_own (F : FnOk X.prog X.w X.K X.mg X.base CX k f fd ps sp) (hr : Room k X.A) (m : Meth X.K C "__neg__" f) (hb : Binds X.K fd ps []) (hx : Passes CX X E) : UnR X (unaryOp .USub) (rOwn1 C sp E) := by
  intro pins s σ H x v Q I rx h
  obtain ⟨⟨a, dx, fs, rfl, ha⟩, h⟩ := h
  cases rx
  obtain ⟨mA, J, _⟩ := ins_get I.hok ha
  obtain ⟨od, J, _⟩ := J.look
  obtain ⟨m', hF⟩ := I.fr
  exact PySem.W.ksp_neg hF I.ok.mod.kin J m.at_ m.fn (run_fn (vs := [.ref a]) F hr hb .nil hx I (.cons rfl .nil) h)
/-- an own == that answers as what the instances stand for -/
def spEqF {α : Type} [DecidableEq α] (F : Den α) : Sp := fun vs H Q _ => ∃ x y p q, vs = [x, y] ∧ F H x p ∧ F H y q ∧ Q (.bl (decide (p = q))) H
theorem rcD_own {α : Type} [DecidableEq α] {D : Den α} (F : FnOk X.prog X.w X.K X.mg X.base CX n f fd ps (spEqF D)) (hD : ∀ H x p, D H x p → InsOf C H x) (me : Meth X.K C "__eq__" f) (hb : Binds X.K fd ps []) (hx : Passes CX X E) :
    RcD X n .Eq false D := by
  intro A pins s σ H x y u v p q sb I rx ry hp hq
  obtain ⟨a, dx, fs, rfl, ha⟩ := hD _ _ _ hp
  obtain ⟨b, dy, gs, rfl, hb'⟩ := hD _ _ _ hq
  cases rx
  cases ry
  obtain ⟨mA, J, _⟩ := ins_get I.hok ha
  obtain ⟨mB, J', _⟩ := ins_get I.hok hb'
  obtain ⟨od, J, _⟩ := J.look
  obtain ⟨od', J', _⟩ := J'.look
  obtain ⟨m, hF⟩ := I.fr
  refine PySem.W.cmp_K (op := .Eq) (tb := .ref C) sb.room.units0 hF I.ok.mod.kin J J'.type (by simp [PySem.W.notFirst]) me.at_ me.fn ?_
  have hsp : spEqF D [.ref a, .ref b] H (fun v H' => v = .bl (decide (p = q)) ∧ Ext H H') E := ⟨_, _, p, q, rfl, hp, hq, rfl, Ext.rfl'⟩
  have e0 : Env0 X.prog X.w X.K X.mg X.base A X.stack s H := by
    have e := I.env0
    exact ⟨by rw [sb.fr]; exact e.frames, e.mod, e.bs, e.bsz, e.funs, e.frf, e.hok, e.bare⟩
  have hl := F.len _ _ _ _ hsp
  have r2 : Vals [V.ref a, V.ref b] [Value.ref a, Value.ref b] := .cons rfl (.cons rfl .nil)
  refine wpAny_call (codeAny_mono (F.run A X.stack s H ⟨[.ref a, .ref b], []⟩ [.ref a, .ref b] [.ref a, .ref b] _ E sb.room e0 (by
    have := hb s [.ref a, .ref b] I.kIn (by simpa using hl)
    simpa using this) r2 hsp) fun r s' hq => ?_)
  cases r with
  | error e => exact hx pins σ H s e s' I hq
  | ok fl =>
    cases fl with
    | ret w =>
      obtain ⟨z, H', I', rz, ez, ex⟩ := I.after hq
      subst ez
      cases rz
      exact ⟨by simp, H', I', ex⟩
    | next => exact False.elim hq
    | brk => exact False.elim hq
    | cont => exact False.elim hq
end
end BF
set_option maxHeartbeats 4000000
/-! Pairs as what they stand for; readings weakened. -/
namespace BF
open PySem PySem.Spec PyProof.Rows L2
theorem OpR.imp {X : Cx} {f : Value → Value → Sem Value} {r r' : R2} (h : OpR X f r) (i : ∀ x y H Q, r' x y H Q → r x y H Q) : OpR X f r' := fun pins s σ H x y v u Q I rx ry q => h pins s σ H x y v u Q I rx ry (i _ _ _ _ q)
section
variable {α β : Type} [DecidableEq α] [DecidableEq β] {X : Cx} {n : Nat} {op : CmpOp} {neg : Bool} {F : Den α} {F' : Den β} {K : PySem.W.Frag}
theorem RcD.map (h : RcD X n op neg F) (e : β → α) (inj : ∀ a b, e a = e b → a = b) (i : ∀ H v b, F' H v b → F H v (e b)) : RcD X n op neg F' := by
  intro A pins s σ H x y u v p q sb I rx ry hp hq
  have z := h A pins s σ H x y u v (e p) (e q) sb I rx ry (i _ _ _ hp) (i _ _ _ hq)
  have e1 : decide (e p = e q) = decide (p = q) := by
    rw [decide_eq_decide]
    exact ⟨inj p q, fun z => by rw [z]⟩
  rw [e1] at z
  exact z
/-- a tuple of two -/
def PairD (F : Den α) : Den (α × α) := fun H v p => ∃ a x y, v = .ref a ∧ H a = some (.tup [x, y]) ∧ F H x p.1 ∧ F H y p.2
theorem pair_tup {H : Hp} {v : V} {p : α × α} (h : PairD F H v p) : TupD K F H v [p.1, p.2] := by
  obtain ⟨a, x, y, e, h1, h2, h3⟩ := h
  exact ⟨a, [x, y], e, SqT.of h1, .cons h2 (.cons h3 .nil)⟩
theorem mon_pairD (m : MonD F) : MonD (PairD F) := fun H H' v p e ⟨a, x, y, h, h1, h2, h3⟩ => ⟨a, x, y, h, e _ _ h1, m _ _ _ _ e h2, m _ _ _ _ e h3⟩
theorem one_pairD (o : OneD F) : OneD (PairD F) := fun H v p q ⟨a, x, y, h, h1, h2, h3⟩ ⟨b, x', y', e, g1, g2, g3⟩ => by
  subst h
  cases e
  rw [h1] at g1
  cases g1
  exact Prod.ext (o _ _ _ _ h2 g2) (o _ _ _ _ h3 g3)
theorem ref_pairD : RefD (PairD F) := fun H v p ⟨a, x, y, h, _⟩ => ⟨a, h⟩
theorem rcD_pair (mF : MonD F) (h : EqD X n F) : RcD X (n + 1) .Eq false (PairD F) := (rcD_tup mF h).map (fun p => [p.1, p.2]) (fun a b z => by simp at z; exact Prod.ext z.1 z.2) fun H v b z => pair_tup z
theorem rcD_pairN (mF : MonD F) (h : EqD X n F) : RcD X (n + 1) .NotEq true (PairD F) := (rcD_tupN mF h).map (fun p => [p.1, p.2]) (fun a b z => by simp at z; exact Prod.ext z.1 z.2) fun H v b z => pair_tup z
end
end BF
set_option maxHeartbeats 2000000
/-! Comprehensions with any target and any test, by what the items stand for. -/
namespace BF
open PySem PySem.Spec PyProof.Rows L2
/-- what holds of a value stays when a list is written -/
def OffL {γ : Type} (G : Den γ) : Prop := ∀ (D : Addr) H acc o v z, H D = some (.lst acc) → G H v z → G (upd H D o) v z
section
variable {β γ : Type} {F : Den β} {G : Den γ} {K : PySem.W.Frag} {g : TG} {tt : TT} {te : TE} {vs : List Nat} {σ : L2.St} {H : Hp} {Q : VK} {a : Addr} {xs : List V} {zs : List β}
/-- [e for t in xs if c] -/
theorem lcG (c : β → Bool) (f : β → γ) (ha : SqL K H a xs) (hz : Paired (F H) xs zs) (upF : MonD F) (upG : MonD G) (upD : OffL G) (hl : xs.length ≤ 100000)
    (he : ∀ x z H', z ∈ zs → Same H H' → F H' x z → ∀ (kT : VK) (kF : Hp → Prop), (c z = true → ∀ H2 v, Same H' H2 → G H2 v (f z) → kT v H2) → (c z = false → ∀ H2, Same H' H2 → kF H2) →
      g x (wipe σ vs) H' fun σ2 H2 => wipe σ2 vs = wipe σ vs ∧ tt σ2 H2 fun b H3 => if b = true then te σ2 H3 kT else kF H3)
    (k : ∀ H' D ys, Same H H' → H D = none → H' D = some (.lst ys) → Paired (G H') ys ((zs.filter c).map f) → Q (.ref D) H') : LcBody (Itl K a) g tt te vs σ Q H := by
  intro D hD
  refine lc_list (K := K) (a := a) (xs := xs) (fun i H' => ∃ ys, Same H H' ∧ H' D = some (.lst ys) ∧ Paired (G H') ys (((zs.take i).filter c).map f))
    ⟨[], same_upd hD, upd_same, .nil⟩ (fun i H' _ ⟨_, sm, _⟩ => ha.ext sm) ?_ ?_
  · rintro i x H' hx ⟨ys, sm, hd, hys⟩
    obtain ⟨z, gz, fz⟩ := Pd.get hz hx
    have tk : zs.take (i + 1) = zs.take i ++ [z] := by rw [List.take_add_one, gz]; rfl
    have hyl : ys.length ≤ 100000 := by
      have h1 := List.length_filter_le c (zs.take i)
      have h2 : (zs.take i).length ≤ zs.length := by rw [List.length_take]; omega
      have h3 := Pd.len hz
      have h4 := Pd.len hys
      rw [List.length_map] at h4
      omega
    refine he x z H' (List.mem_of_getElem? gz) sm (upF _ _ _ _ sm fz) _ _ (fun hc H2 v s2 gv => ?_) fun hc H2 s2 => ?_
    · refine ⟨ys, s2 _ _ hd, by show ys.length < 16777216; omega, _, same_put (sm.trans s2) hD, upd_same, ?_⟩
      rw [tk, List.filter_append, List.map_append, List.filter_cons, hc]
      exact Pd.append (Pd.imp hys fun _ _ q => upD _ _ _ _ _ _ (s2 _ _ hd) (upG _ _ _ _ s2 q)) (.cons (upD _ _ _ _ _ _ (s2 _ _ hd) gv) .nil)
    · refine ⟨ys, sm.trans s2, s2 _ _ hd, ?_⟩
      rw [tk, List.filter_append, List.map_append, List.filter_cons, hc]
      show Paired (G H2) ys (_ ++ [])
      rw [List.append_nil]
      exact Pd.imp hys fun _ _ q => upG _ _ _ _ s2 q
  · rintro H' ⟨ys, sm, hd, hys⟩
    rw [List.take_of_length_le (by rw [Pd.len hz]; exact Nat.le_refl _)] at hys
    exact k H' D ys sm hD hd hys
/-- [e for t in xs] -/
theorem lcM (f : β → γ) (ha : SqL K H a xs) (hz : Paired (F H) xs zs) (upF : MonD F) (upG : MonD G) (upD : OffL G) (hl : xs.length ≤ 100000)
    (he : ∀ x z H', z ∈ zs → Same H H' → F H' x z → ∀ kT : VK, (∀ H2 v, Same H' H2 → G H2 v (f z) → kT v H2) → g x (wipe σ vs) H' fun σ2 H2 => wipe σ2 vs = wipe σ vs ∧ te σ2 H2 kT)
    (k : ∀ H' D ys, Same H H' → H D = none → H' D = some (.lst ys) → Paired (G H') ys (zs.map f) → Q (.ref D) H') : LcBody (Itl K a) g tYes te vs σ Q H := by
  intro D hD
  refine lc_list (K := K) (a := a) (xs := xs) (fun i H' => ∃ ys, Same H H' ∧ H' D = some (.lst ys) ∧ Paired (G H') ys ((zs.take i).map f))
    ⟨[], same_upd hD, upd_same, .nil⟩ (fun i H' _ ⟨_, sm, _⟩ => ha.ext sm) ?_ ?_
  · rintro i x H' hx ⟨ys, sm, hd, hys⟩
    obtain ⟨z, gz, fz⟩ := Pd.get hz hx
    have tk : zs.take (i + 1) = zs.take i ++ [z] := by rw [List.take_add_one, gz]; rfl
    have hyl : ys.length ≤ 100000 := by
      have h2 : (zs.take i).length ≤ zs.length := by rw [List.length_take]; omega
      have h3 := Pd.len hz
      have h4 := Pd.len hys
      rw [List.length_map] at h4
      omega
    refine he x z H' (List.mem_of_getElem? gz) sm (upF _ _ _ _ sm fz) _ (fun H2 v s2 gv => ?_)
    refine ⟨ys, s2 _ _ hd, by show ys.length < 16777216; omega, _, same_put (sm.trans s2) hD, upd_same, ?_⟩
    rw [tk, List.map_append]
    exact Pd.append (Pd.imp hys fun _ _ q => upD _ _ _ _ _ _ (s2 _ _ hd) (upG _ _ _ _ s2 q)) (.cons (upD _ _ _ _ _ _ (s2 _ _ hd) gv) .nil)
  · rintro H' ⟨ys, sm, hd, hys⟩
    rw [List.take_of_length_le (by rw [Pd.len hz]; exact Nat.le_refl _)] at hys
    exact k H' D ys sm hD hd hys
/-- [e for t in range(lo, lo + n)] -/
theorem lcR {lo : Int} {n : Nat} (f : Nat → γ) (upG : MonD G) (upD : OffL G) (hl : n ≤ 100000)
    (he : ∀ i H', i < n → Same H H' → ∀ kT : VK, (∀ H2 v, Same H' H2 → G H2 v (f i) → kT v H2) → g (.int (lo + i)) (wipe σ vs) H' fun σ2 H2 => wipe σ2 vs = wipe σ vs ∧ te σ2 H2 kT)
    (k : ∀ H' D ys, Same H H' → H D = none → H' D = some (.lst ys) → Paired (G H') ys ((List.range n).map f) → Q (.ref D) H') : LcBody (Itr lo n) g tYes te vs σ Q H := by
  intro D hD
  refine lc_range (lo := lo) (n := n) (fun i H' => ∃ ys, Same H H' ∧ H' D = some (.lst ys) ∧ Paired (G H') ys ((List.range i).map f))
    ⟨[], same_upd hD, upd_same, .nil⟩ ?_ ?_
  · rintro i H' hi ⟨ys, sm, hd, hys⟩
    have hyl : ys.length ≤ 100000 := by
      have h4 := Pd.len hys
      rw [List.length_map, List.length_range] at h4
      omega
    refine he i H' hi sm _ (fun H2 v s2 gv => ?_)
    refine ⟨ys, s2 _ _ hd, by show ys.length < 16777216; omega, _, same_put (sm.trans s2) hD, upd_same, ?_⟩
    rw [List.range_succ, List.map_append]
    exact Pd.append (Pd.imp hys fun _ _ q => upD _ _ _ _ _ _ (s2 _ _ hd) (upG _ _ _ _ s2 q)) (.cons (upD _ _ _ _ _ _ (s2 _ _ hd) gv) .nil)
  · rintro H' ⟨ys, sm, hd, hys⟩
    exact k H' D ys sm hD hd hys
/-- [e for t in range(lo, lo + n) if c] -/
theorem lcRF {lo : Int} {n : Nat} (c : Nat → Bool) (f : Nat → γ) (upG : MonD G) (upD : OffL G) (hl : n ≤ 100000)
    (he : ∀ i H', i < n → Same H H' → ∀ (kT : VK) (kF : Hp → Prop), (c i = true → ∀ H2 v, Same H' H2 → G H2 v (f i) → kT v H2) → (c i = false → ∀ H2, Same H' H2 → kF H2) →
      g (.int (lo + i)) (wipe σ vs) H' fun σ2 H2 => wipe σ2 vs = wipe σ vs ∧ tt σ2 H2 fun b H3 => if b = true then te σ2 H3 kT else kF H3)
    (k : ∀ H' D ys, Same H H' → H D = none → H' D = some (.lst ys) → Paired (G H') ys (((List.range n).filter c).map f) → Q (.ref D) H') : LcBody (Itr lo n) g tt te vs σ Q H := by
  intro D hD
  refine lc_range (lo := lo) (n := n) (fun i H' => ∃ ys, Same H H' ∧ H' D = some (.lst ys) ∧ Paired (G H') ys (((List.range i).filter c).map f))
    ⟨[], same_upd hD, upd_same, .nil⟩ ?_ ?_
  · rintro i H' hi ⟨ys, sm, hd, hys⟩
    have hyl : ys.length ≤ 100000 := by
      have h1 := List.length_filter_le c (List.range i)
      have h4 := Pd.len hys
      rw [List.length_map] at h4
      rw [List.length_range] at h1
      omega
    refine he i H' hi sm _ _ (fun hc H2 v s2 gv => ?_) fun hc H2 s2 => ?_
    · refine ⟨ys, s2 _ _ hd, by show ys.length < 16777216; omega, _, same_put (sm.trans s2) hD, upd_same, ?_⟩
      rw [List.range_succ, List.filter_append, List.map_append, List.filter_cons, hc]
      exact Pd.append (Pd.imp hys fun _ _ q => upD _ _ _ _ _ _ (s2 _ _ hd) (upG _ _ _ _ s2 q)) (.cons (upD _ _ _ _ _ _ (s2 _ _ hd) gv) .nil)
    · refine ⟨ys, sm.trans s2, s2 _ _ hd, ?_⟩
      rw [List.range_succ, List.filter_append, List.map_append, List.filter_cons, hc]
      show Paired (G H2) ys (_ ++ [])
      rw [List.append_nil]
      exact Pd.imp hys fun _ _ q => upG _ _ _ _ s2 q
  · rintro H' ⟨ys, sm, hd, hys⟩
    exact k H' D ys sm hD hd hys
/-! ### .. that draw -/
variable {P c : Addr} {k0 d : Nat}
def UpP (P c : Addr) (G : Den γ) : Prop := ∀ H H' v z k, G H v z → Pen H P c k → Off P H H' → G H' v z
/-- [e for t in xs], e draws -/
theorem lcP (hp : Pen H P c k0) (hn : xs.length ≤ 100000) (ha : H a = some (.lst xs)) (aP : a ≠ P) (hz : Paired (F H) xs zs) (upF : UpP P c F) (upG : UpP P c G) (upD : OffL G) (f : β → γ)
    (he : ∀ x z H' j, z ∈ zs → Off P H H' → j ≤ k0 + xs.length * d → Pen H' P c j → F H' x z → ∀ kT : VK, (∀ H2 v, Off P H' H2 → Pen H2 P c (j + d) → G H2 v (f z) → kT v H2) → g x (wipe σ vs) H' fun σ2 H2 => wipe σ2 vs = wipe σ vs ∧ te σ2 H2 kT)
    (k : ∀ H' D ys, Off P H H' → H D = none → H' D = some (.lst ys) → Pen H' P c (k0 + xs.length * d) → Paired (G H') ys (zs.map f) → Q (.ref D) H') :
    LcBody (Itl K a) g tYes te vs σ Q H := by
  intro D hD
  have dP : D ≠ P := hp.fresh hD
  have dC : D ≠ c := hp.freshC hD
  refine lc_list (K := K) (a := a) (xs := xs) (fun i H' => ∃ ys, Off P H H' ∧ H' D = some (.lst ys) ∧ Pen H' P c (k0 + i * d) ∧ Paired (G H') ys ((zs.take i).map f))
    ⟨[], Off.of (same_upd hD), upd_same, (hp.put dP dC).mono (by omega), .nil⟩ (fun i H' _ ⟨_, of, _⟩ => SqL.of (of _ _ aP ha)) ?_ ?_
  · rintro i x H' hx ⟨ys, of, hd, pen, pr⟩
    obtain ⟨z, gz, fz⟩ := Pd.get hz hx
    have hi : i < xs.length := (List.getElem?_eq_some_iff.mp hx).1
    have tk : zs.take (i + 1) = zs.take i ++ [z] := by rw [List.take_add_one, gz]; rfl
    have hyl := Pd.len pr
    rw [List.length_map, List.length_take] at hyl
    have m1 : i * d ≤ xs.length * d := Nat.mul_le_mul_right d (Nat.le_of_lt hi)
    refine he x z H' _ (List.mem_of_getElem? gz) of (by omega) pen (upF _ _ _ _ _ fz hp of) _ fun H2 v o2 p2 g2 => ?_
    have hd2 := o2 _ _ dP hd
    refine ⟨ys, hd2, by show ys.length < 16777216; omega, _, fun b o nb e => ?_, upd_same, ?_, ?_⟩
    · rw [upd_ne (ne_of_none e hD)]
      exact o2 _ _ nb (of _ _ nb e)
    · refine (p2.put dP dC).mono ?_
      rw [Nat.succ_mul]
      omega
    · rw [tk, List.map_append]
      exact Pd.append (Pd.imp pr fun _ _ q => upD _ _ _ _ _ _ hd2 (upG _ _ _ _ _ q pen o2)) (.cons (upD _ _ _ _ _ _ hd2 g2) .nil)
  · rintro H' ⟨ys, of, hd, pen, pr⟩
    rw [List.take_of_length_le (by rw [Pd.len hz]; exact Nat.le_refl _)] at pr
    exact k H' D ys of hD hd pen pr
/-- [e for t in range(lo, lo + n) if c], what is drawn decides -/
theorem lcRP {lo : Int} {n : Nat} (hp : Pen H P c k0) (hn : n ≤ 100000) (upG : UpP P c G) (upD : OffL G) (I : Nat → List γ → Prop) (i0 : I 0 [])
    (he : ∀ i zs H' j, i < n → I i zs → Off P H H' → j ≤ k0 + n * d → Pen H' P c j → ∀ (kT : VK) (kF : Hp → Prop), (∀ H2 v z, Off P H' H2 → Pen H2 P c (j + d) → G H2 v z → I (i + 1) (zs ++ [z]) → kT v H2) → (∀ H2, Off P H' H2 → Pen H2 P c (j + d) → I (i + 1) zs → kF H2) →
      g (.int (lo + i)) (wipe σ vs) H' fun σ2 H2 => wipe σ2 vs = wipe σ vs ∧ tt σ2 H2 fun b H3 => if b = true then te σ2 H3 kT else kF H3)
    (k : ∀ H' D ys zs, Off P H H' → H D = none → H' D = some (.lst ys) → Pen H' P c (k0 + n * d) → Paired (G H') ys zs → I n zs → Q (.ref D) H') :
    LcBody (Itr lo n) g tt te vs σ Q H := by
  intro D hD
  have dP : D ≠ P := hp.fresh hD
  have dC : D ≠ c := hp.freshC hD
  refine lc_range (lo := lo) (n := n) (fun i H' => ∃ ys zs, Off P H H' ∧ H' D = some (.lst ys) ∧ Pen H' P c (k0 + i * d) ∧ Paired (G H') ys zs ∧ zs.length ≤ i ∧ I i zs)
    ⟨[], [], Off.of (same_upd hD), upd_same, (hp.put dP dC).mono (by omega), .nil, Nat.le_refl _, i0⟩ ?_ ?_
  · rintro i H' hi ⟨ys, zs, of, hd, pen, pr, zl, hI⟩
    have hyl := Pd.len pr
    have m1 : i * d ≤ n * d := Nat.mul_le_mul_right d (Nat.le_of_lt hi)
    have e1 : (i + 1) * d = i * d + d := Nat.succ_mul _ _
    refine he i zs H' _ hi hI of (by omega) pen _ _ (fun H2 v z o2 p2 g2 hI2 => ?_) fun H2 o2 p2 hI2 => ?_
    · have hd2 := o2 _ _ dP hd
      refine ⟨ys, hd2, by show ys.length < 16777216; omega, _, zs ++ [z], fun b o nb e => ?_, upd_same, ?_, ?_, by simp; omega, hI2⟩
      · rw [upd_ne (ne_of_none e hD)]
        exact o2 _ _ nb (of _ _ nb e)
      · refine (p2.put dP dC).mono ?_
        omega
      · exact Pd.append (Pd.imp pr fun _ _ q => upD _ _ _ _ _ _ hd2 (upG _ _ _ _ _ q pen o2)) (.cons (upD _ _ _ _ _ _ hd2 g2) .nil)
    · have hd2 := o2 _ _ dP hd
      exact ⟨ys, zs, of.trans o2, hd2, p2.mono (by omega), Pd.imp pr fun _ _ q => upG _ _ _ _ _ q pen o2, by omega, hI2⟩
  · rintro H' ⟨ys, zs, of, hd, pen, pr, zl, hI⟩
    exact k H' D ys zs of hD hd pen pr hI
end
theorem offL_pair {γ : Type} {G : Den γ} (h : OffL G) : OffL (PairD G) := fun D H acc o v z hd ⟨a, x, y, e, h1, h2, h3⟩ => ⟨a, x, y, e, by rw [upd_ne (ne_of h1 hd (by intro z; cases z))]; exact h1, h _ _ _ _ _ _ hd h2, h _ _ _ _ _ _ hd h3⟩
theorem offL_rat {C : Addr} : OffL (RatV C) := fun D H acc o v z hd ⟨a, e, dx, h1⟩ => ⟨a, e, dx, by rw [upd_ne (ne_of h1 hd (by intro z; cases z))]; exact h1⟩
theorem upP_rat {C P c : Addr} : UpP P c (RatV C) := fun H H' v z k ⟨a, e, dx, h1⟩ p o => ⟨a, e, dx, o _ _ (fun z => by subst z; obtain ⟨ns, n, lf, hP, _⟩ := p; rw [hP] at h1; cases h1) h1⟩
theorem upP_pair {γ : Type} {G : Den γ} {P c : Addr} (h : UpP P c G) : UpP P c (PairD G) := fun H H' v z k ⟨a, x, y, e, h1, h2, h3⟩ p o => ⟨a, x, y, e, o _ _ (fun z => by subst z; obtain ⟨ns, n, lf, hP, _⟩ := p; rw [hP] at h1; cases h1) h1, h _ _ _ _ _ h2 p o, h _ _ _ _ _ h3 p o⟩
/-- a whole number -/
def IntD : Den Int := fun _ v i => v = .int i
theorem mon_int : MonD IntD := fun _ _ _ _ _ h => h
theorem offL_int : OffL IntD := fun _ _ _ _ _ _ _ h => h
theorem upP_int {P c : Addr} : UpP P c IntD := fun _ _ _ _ _ h _ _ => h
end BF
namespace BF
open PySem PySem.Spec PyProof.Rows L2
/-- for x, y in ..: two names as a target -/
abbrev gt2 (K : PySem.W.Frag) (i j : Nat) : TG := gTup K 2 (gCons (gName i) (gCons (gName j) gNil))
theorem pg_t2 (K : PySem.W.Frag) {X : Cx} {e1 e2 : Expr} {k : Nat} {pos : Pos} {i j : Nat} (hc : X.calm = true) (h1 : PG X e1 (gName i)) (h2 : PG X e2 (gName j)) (h : X.K = K := by rfl)
    (hs : (assignEach [e1, e2] X.env).map (·.2) = assign e1 X.env :: (assignEach [e2] X.env).map (·.2) := by rfl) (hs2 : (assignEach [e2] X.env).map (·.2) = assign e2 X.env :: (assignEach [] X.env).map (·.2) := by rfl)
    (hn : (assignEach [e1, e2] X.env).length = 2 := by rfl) (hst : (assignEach [e1, e2] X.env).findIdx? (·.1) = none := by rfl) : PG X (.Tuple [e1, e2] k pos) (gt2 K i j) :=
  h ▸ pg_tup hc (pgs_cons h1 (pgs_cons h2 pgs_nil hs2) hs) hn hst
theorem gt2R {K : PySem.W.Frag} {i j : Nat} {a : Addr} {x y : V} {σ : L2.St} {H : Hp} {Q : L2.St → Hp → Prop} (h : SqT K H a [x, y]) (k : Q ((σ.set i (some x)).set j (some y)) H) : gt2 K i j (.ref a) σ H Q := ⟨a, _, rfl, h, rfl, x, _, rfl, y, _, rfl, rfl, k⟩
theorem wipe2 (σ : L2.St) (i j : Nat) (x y : V) (h : i ≠ j) : wipe (((wipe σ [i, j]).set i (some x)).set j (some y)) [i, j] = wipe σ [i, j] := by
  simp only [wipe, List.foldl_cons, List.foldl_nil, List.foldr_cons, List.foldr_nil]
  refine List.ext_getElem? fun k => ?_
  simp only [List.getElem?_set, List.length_set]
  by_cases h1 : i = k <;> by_cases h2 : j = k <;> simp [h1, h2]
end BF
set_option maxHeartbeats 2000000
/-! Dicts: locked while their keys are gone through; name = {..}. -/
namespace BF
open PySem PySem.Spec PyProof.Rows L2
/-- neither a tuple nor an instance -/
def NotIT (u : HO) : Prop := (∀ xs, u ≠ .tup xs) ∧ ∀ C dx fs, u ≠ .ins C dx fs
theorem nit_dk {kvs : List (Key × V)} : NotIT (.dK kvs) := ⟨(fun _ z => by cases z), fun _ _ _ z => by cases z⟩
theorem nit_frz {o : Obj} {u : HO} : NotIT (.frz o u) := ⟨(fun _ z => by cases z), fun _ _ _ z => by cases z⟩
theorem nit_lst {xs : List V} : NotIT (.lst xs) := ⟨(fun _ z => by cases z), fun _ _ _ z => by cases z⟩
def OffM {γ : Type} (G : Den γ) : Prop := ∀ (D : Addr) H u o v z, H D = some u → NotIT u → G H v z → G (upd H D o) v z
theorem OffM.lst {γ : Type} {G : Den γ} (h : OffM G) : OffL G := fun D H acc o v z e g => h D H _ o v z e nit_lst g
theorem offM_rat {C : Addr} : OffM (RatV C) := fun D H u o v z hd n ⟨a, e, dx, h1⟩ => ⟨a, e, dx, by rw [upd_ne (ne_of h1 hd (fun z => n.2 _ _ _ z.symm))]; exact h1⟩
theorem offM_pair {γ : Type} {G : Den γ} (h : OffM G) : OffM (PairD G) := fun D H u o v z hd n ⟨a, x, y, e, h1, h2, h3⟩ => ⟨a, x, y, e, by rw [upd_ne (ne_of h1 hd (fun z => n.1 _ z.symm))]; exact h1, h _ _ _ _ _ _ hd n h2, h _ _ _ _ _ _ hd n h3⟩
/-- what was locked is let go -/
theorem lock_same {H H2 : Hp} {d : Addr} {o : Obj} {u : HO} (h : H d = some u) (s : Same (upd H d (.frz o u)) H2) : Same H (upd H2 d u) := fun b v e => by
  by_cases hb : b = d
  · subst hb
    rw [upd_same, ← e, h]
  · rw [upd_ne hb]
    refine s b v ?_
    rw [upd_ne hb]
    exact e
section
variable {X : Cx}
theorem sw_trueD {kx vx : Expr} {gs : List Comprehension} {scope : Scope} {pos py : Pos} {y : Str} {l : Nat} {env : Env} (hk : env.scope.kind = .function) (hy : env.scope.names.lookup y = some .local) (hl : (py.line == pos.line) = true)
    (ha : (scope.names.any fun (n, k) => n == y && (k == .local || k == .cell)) = false) : swapsWith (.DictComp kx vx gs scope pos) (some (.Name y py)) l env = pure true := by
  have ky : env.kindOf y = some .local := hy
  have hb : env.blockKind = .function := by unfold Env.blockKind; rw [hk]; rfl
  unfold swapsWith
  simp only [hb, ky, ha, Expr.pos, hl]
  rfl
theorem ps_setDc {i : Nat} {y : Str} {py : Pos} {kx vx tg iter : Expr} {ifs : List Expr} {scope : Scope} {own : List (Str × Nat)} {pos spos : Pos} {wi : TI} {g : TG} {tt : TT} {tk tv : TE} (hc : X.calm = true) (hN : X.N.Nodup) (hy : X.N[i]? = some y) (hyl : X.env.scope.names.lookup y = some .local)
    (hsw : swapsWith (.DictComp kx vx [⟨tg, iter, ifs, 0⟩] scope pos) (some (.Name y py)) spos.line X.env = pure true) (hi : PI X tg iter wi) (ok : BlkOk X.N X.env.scope scope own)
    (hg : ∀ (s : Shared) (H : Hp) (C : Addr) (cl : List (Str × Addr)) (fp : List Addr), PG (X.blk s H scope (compEnvC scope cl C X.env) fp) tg g) (ht : ∀ (s : Shared) (H : Hp) (C : Addr) (cl : List (Str × Addr)) (fp : List Addr), PTs (X.blk s H scope (compEnvC scope cl C X.env) fp) ifs tt)
    (hk : ∀ (s : Shared) (H : Hp) (C : Addr) (cl : List (Str × Addr)) (fp : List Addr), PE (X.blk s H scope (compEnvC scope cl C X.env) fp) kx tk)
    (he : ∀ (s : Shared) (H : Hp) (C : Addr) (cl : List (Str × Addr)) (fp : List Addr), PE (X.blk s H scope (compEnvC scope cl C X.env) fp) vx tv) (hs : ∀ x, foldedSetIterable iter X.env x = pure x := by intro _; rfl) :
    PS X (.Assign [.Name y py] (.DictComp kx vx [⟨tg, iter, ifs, 0⟩] scope pos) spos) (tAsg (tDc wi g tt tk tv (own.map (·.2))) (gName i)) := by
  refine ⟨fun pins s σ H D I h => ?_⟩
  rw [exec_Assign_Name_used _ _ _ _ hsw]
  refine wpAny_bind (wpAny_standAt (wpAny_bind ?_))
  show wpAny _ X.A (do let _ ← comprehension (.DictComp kx vx [⟨tg, iter, ifs, 0⟩] scope pos) scope X.env (firstIterPos [⟨tg, iter, ifs, 0⟩] pos) newDict false (eval iter X.env) (some (assign (.Name y py) X.env))) _ _ s
  have h : tDc wi g tt tk tv (own.map (·.2)) σ H (fun x H1 => gName i x σ H1 D.nx) := h
  refine wpAny_bind (thn (dc_core (Qf := fun _ s' => SP X pins D .next s') hc hN I hi ok hg ht hk he hs h fun L C s' m H' I' q hn f => ?_) fun _ s' hq => wpAny_pure (wpAny_pure hq))
  show wpAny _ _ (assign (.Name y py) X.env (.ref L)) _ _ _
  refine wpAny_assign_Name (store_ok2 (v := V.ref L) I' hN hy (.inl hyl) rfl (fun s2 I2 ⟨a, sb, ha⟩ => ?_) (.inr hyl))
  obtain ⟨f0, f1, f2, f3, f4, f5⟩ := f
  have haC : C ≠ a := by
    rcases ha with z | z
    · rw [z]; exact f1
    · exact fun e => f4 y a z e.symm
  refine ⟨m, hn.sameBut sb haC, fun h3 sb3 => ?_⟩
  exact ⟨_, H', I2.turned (t' := s2.toks) (fun b o hb e => (sb3.2 b hb).trans e) f0 f1 f3 f4 f5, q⟩
end
/-- what a dict comprehension asks once its iterator stands -/
def DcBody (J : It) (g : TG) (tt : TT) (tk tv : TE) (vs : List Nat) (σ : L2.St) (Q : VK) (H1 : Hp) : Prop := ∀ D, H1 D = none → ∃ W : Nat → Nat → Hp → Prop, (∃ m, W 0 m (upd H1 D (.dK []))) ∧ ∀ i m H, W i m H →
  (J.stop i H ∧ Q (.ref D) H) ∨ (J.go i H ∧ ∃ Nx : Hp → Prop, (∀ H', Nx H' → ∃ m', m' < m ∧ W (i + 1) m' H') ∧ ∀ x H', J.yld i H x H' → g x (wipe σ vs) H' fun σ2 H2 => wipe σ2 vs = wipe σ vs ∧ tt σ2 H2 fun b H3 =>
    if b = true then tk σ2 H3 fun y H4 => tv σ2 H4 fun z H5 => ∃ kvs k, y = kV k ∧ H5 D = some (.dK kvs) ∧ kvs.length < sizeLine ∧ Nx (upd H5 D (.dK (putK kvs k z))) else Nx H3)
theorem dcE {wi : TI} {g : TG} {tt : TT} {tk tv : TE} {vs : List Nat} {σ : L2.St} {H : Hp} {Q : VK} (h : wi σ H fun J H1 => DcBody J g tt tk tv vs σ Q H1) : tDc wi g tt tk tv vs σ H Q := h
/-- {.. for k in d}, d locked -/
theorem dc_keys {d : Addr} {o : Obj} {kvs : List (Key × V)} {g : TG} {tt : TT} {tk tv : TE} {vs : List Nat} {σ : L2.St} {H1 : Hp} {D : Addr} {Qd : Hp → Prop} (Pv : Nat → Hp → Prop) (h0 : Pv 0 (upd H1 D (.dK []))) (hl : ∀ i H, i ≤ kvs.length → Pv i H → H d = some (.frz o (.dK kvs)))
    (hs : ∀ i k v H, kvs[i]? = some (k, v) → Pv i H → g (kV k) (wipe σ vs) H fun σ2 H2 => wipe σ2 vs = wipe σ vs ∧ tt σ2 H2 fun b H3 =>
      if b = true then tk σ2 H3 fun y H4 => tv σ2 H4 fun z H5 => ∃ kvs k, y = kV k ∧ H5 D = some (.dK kvs) ∧ kvs.length < sizeLine ∧ Pv (i + 1) (upd H5 D (.dK (putK kvs k z))) else Pv (i + 1) H3) (hd : ∀ H, Pv kvs.length H → Qd H) :
    ∃ W : Nat → Nat → Hp → Prop, (∃ m, W 0 m (upd H1 D (.dK []))) ∧ ∀ i m H, W i m H →
      ((Itk d o kvs).stop i H ∧ Qd H) ∨ ((Itk d o kvs).go i H ∧ ∃ Nx : Hp → Prop, (∀ H', Nx H' → ∃ m', m' < m ∧ W (i + 1) m' H') ∧ ∀ x H', (Itk d o kvs).yld i H x H' → g x (wipe σ vs) H' fun σ2 H2 => wipe σ2 vs = wipe σ vs ∧ tt σ2 H2 fun b H3 =>
        if b = true then tk σ2 H3 fun y H4 => tv σ2 H4 fun z H5 => ∃ kvs k, y = kV k ∧ H5 D = some (.dK kvs) ∧ kvs.length < sizeLine ∧ Nx (upd H5 D (.dK (putK kvs k z))) else Nx H3) := by
  refine ⟨fun i m H => m = kvs.length - i ∧ i ≤ kvs.length ∧ Pv i H, ⟨kvs.length, by simp, Nat.zero_le _, h0⟩, ?_⟩
  rintro i m H ⟨rfl, hi, p⟩
  have q := hl i H hi p
  by_cases hlt : i < kvs.length
  · refine .inr ⟨⟨q, hlt⟩, Pv (i + 1), fun H' p' => ⟨kvs.length - (i + 1), by omega, rfl, hlt, p'⟩, fun x H' y => ?_⟩
    obtain ⟨e, k, v, gk, ex⟩ := y
    subst e
    subst ex
    exact hs i k v _ gk p
  · have e : i = kvs.length := by omega
    subst e
    exact .inl ⟨⟨q, Nat.le_refl _⟩, hd H p⟩
/-- [.. for k in d], d locked -/
theorem lc_keys {d : Addr} {o : Obj} {kvs : List (Key × V)} {g : TG} {tt : TT} {te : TE} {vs : List Nat} {σ : L2.St} {H1 : Hp} {D : Addr} {Qd : Hp → Prop} (Pv : Nat → Hp → Prop) (h0 : Pv 0 (upd H1 D (.lst []))) (hl : ∀ i H, i ≤ kvs.length → Pv i H → H d = some (.frz o (.dK kvs)))
    (hs : ∀ i k v H, kvs[i]? = some (k, v) → Pv i H → g (kV k) (wipe σ vs) H fun σ2 H2 => wipe σ2 vs = wipe σ vs ∧ tt σ2 H2 fun b H3 =>
      if b = true then te σ2 H3 fun y H4 => ∃ acc, H4 D = some (.lst acc) ∧ acc.length < sizeLine ∧ Pv (i + 1) (upd H4 D (.lst (acc ++ [y]))) else Pv (i + 1) H3) (hd : ∀ H, Pv kvs.length H → Qd H) :
    ∃ W : Nat → Nat → Hp → Prop, (∃ m, W 0 m (upd H1 D (.lst []))) ∧ ∀ i m H, W i m H →
      ((Itk d o kvs).stop i H ∧ Qd H) ∨ ((Itk d o kvs).go i H ∧ ∃ Nx : Hp → Prop, (∀ H', Nx H' → ∃ m', m' < m ∧ W (i + 1) m' H') ∧ ∀ x H', (Itk d o kvs).yld i H x H' → g x (wipe σ vs) H' fun σ2 H2 => wipe σ2 vs = wipe σ vs ∧ tt σ2 H2 fun b H3 =>
        if b = true then te σ2 H3 fun y H4 => ∃ acc, H4 D = some (.lst acc) ∧ acc.length < sizeLine ∧ Nx (upd H4 D (.lst (acc ++ [y]))) else Nx H3) := by
  refine ⟨fun i m H => m = kvs.length - i ∧ i ≤ kvs.length ∧ Pv i H, ⟨kvs.length, by simp, Nat.zero_le _, h0⟩, ?_⟩
  rintro i m H ⟨rfl, hi, p⟩
  have q := hl i H hi p
  by_cases hlt : i < kvs.length
  · refine .inr ⟨⟨q, hlt⟩, Pv (i + 1), fun H' p' => ⟨kvs.length - (i + 1), by omega, rfl, hlt, p'⟩, fun x H' y => ?_⟩
    obtain ⟨e, k, v, gk, ex⟩ := y
    subst e
    subst ex
    exact hs i k v _ gk p
  · have e : i = kvs.length := by omega
    subst e
    exact .inl ⟨⟨q, Nat.le_refl _⟩, hd H p⟩
end BF
set_option maxHeartbeats 4000000
/-! list(enumerate(l)). -/
namespace BFW
open PySem PySem.Spec
section
variable {prog : Program} {w : World} {A : Around} {E : Value → Shared → Prop} {s : Shared}
theorem wp_alive {M : Model} {a : Addr} {Q : Option Obj → Shared → Prop} (h : Q (s.heap.get? a) s) : wpAny M A (loadIfAlive a) Q E s := fun Γ p _ => by
  show Sem.wp M Γ (.loadIfAlive a .pure) _ _ p s
  rw [Sem.wp_loadIfAlive]
  exact h
/-- the enumerator whose first tuple (at a) is held -/
abbrev EnumG (h : Heap) (e it : Addr) (i : Int) (b : Bool) (old : Value) (a : Addr) : Prop :=
  h.get? e = some { cls := .type "enumerate", dict := none, data := .fields #[rawInt a, .bool b, .ref it, rawInt i, .none, old], slots := #[] }
theorem next_held {e it l a : Addr} {i : Nat} {items : Array Value} {x old : Value} {b : Bool} {oa : Obj} {Q : Value → Shared → Prop}
    (he : EnumG s.heap e it i b old a) (ha : s.heap.get? a = some oa) (hae : a ≠ e) (hai : a ≠ it) (hit : s.heap.IsListIter it l i) (hl : s.heap.IsList l items) (hx : items[i]? = some x) (hne : e ≠ it)
    (hQ : ∀ h', EnumG h' e it ((i : Int) + 1) true old a → h'.IsListIter it l (i + 1) →
      h'.get? s.heap.objs.size = some { cls := .type "tuple", data := .seq #[.int i s.toks, x] } → h'.objs.size = s.heap.objs.size + 1 →
      (∀ b o, b ≠ e → b ≠ it → s.heap.get? b = some o → h'.get? b = some o) → Q (.ref s.heap.objs.size) { s with heap := h', toks := s.toks + 1 }) :
    wpAny (model prog w) A (Builtin.«enumerate.__next__» ⟨[.ref e], []⟩) (fun fin s' => ∃ v, fin = .done (.ret v) ∧ Q v s') E s := by
  obtain ⟨hp, g, d, tk, os⟩ := s
  show wpAny _ _ (field (.ref e) 2 >>= _) _ _ _
  refine wpAny_bind (wpAny_field he rfl (x := .ref it) rfl ?_)
  refine wpAny_bind (wpAny_nextOf_list_item hit hl hx fun h₁ hit₁ hs₁ => ?_)
  replace hs₁ : Heap.SameBut it hp h₁ := hs₁
  have he₁ : EnumG h₁ e it i b old a := (hs₁.2 e hne).trans he
  show wpAny _ _ (field (.ref e) 3 >>= _) _ _ ⟨h₁, g, d, tk, os⟩
  refine wpAny_bind (wpAny_field he₁ rfl (x := rawInt i) rfl ?_)
  show wpAny _ _ (field (.ref e) 4 >>= _) _ _ ⟨h₁, g, d, tk, os⟩
  refine wpAny_bind (wpAny_field he₁ rfl (x := .none) rfl ?_)
  show wpAny _ _ (mkInt i >>= _) _ _ ⟨h₁, g, d, tk, os⟩
  refine wpAny_bind (wpAny_mkInt ?_)
  show wpAny _ _ (setField (.ref e) 3 (rawInt ((i : Int) + 1)) >>= _) _ _ ⟨h₁, g, d, tk + 1, os⟩
  refine wpAny_bind (wpAny_setField_rec he₁ (by simp) fun h₂ he₂ hs₂ => ?_)
  replace hs₂ : Heap.SameBut e h₁ h₂ := hs₂
  replace he₂ : EnumG h₂ e it ((i : Int) + 1) b old a := he₂
  show wpAny _ _ (setField (.ref e) 4 .none >>= _) _ _ ⟨h₂, g, d, tk + 1, os⟩
  refine wpAny_bind (wpAny_setField_rec he₂ (by simp) fun h₃ he₃ hs₃ => ?_)
  replace hs₃ : Heap.SameBut e h₂ h₃ := hs₃
  replace he₃ : EnumG h₃ e it ((i : Int) + 1) b old a := he₃
  show wpAny _ _ (newTuple [.int i tk, x] >>= _) _ _ ⟨h₃, g, d, tk + 1, os⟩
  refine wpAny_bind (wpAny_newTuple ?_)
  have he₄ : EnumG (h₃.push { cls := .type "tuple", data := .seq #[.int i tk, x] }) e it ((i : Int) + 1) b old a := Heap.get?_push_of_some _ he₃
  generalize hh₄ : h₃.push { cls := .type "tuple", data := .seq #[.int i tk, x] } = h₄ at he₄
  have hsz : h₃.objs.size = hp.objs.size := by rw [hs₃.1, hs₂.1, hs₁.1]
  have hel : e < hp.objs.size := Heap.lt_size he
  have ht₄ : h₄.get? hp.objs.size = some { cls := .type "tuple", data := .seq #[.int i tk, x] } := by rw [← hh₄, ← hsz]; exact Heap.get?_push_size _ rfl
  have hz₄ : h₄.objs.size = hp.objs.size + 1 := by rw [← hh₄, Heap.size_push, hsz]
  have hk₄ : ∀ b o, b ≠ e → b ≠ it → hp.get? b = some o → h₄.get? b = some o := fun b o hbe hbi hb => by
    rw [← hh₄]; exact Heap.get?_push_of_some _ (hs₃.extBut b o hbe (hs₂.extBut b o hbe (hs₁.extBut b o hbi hb)))
  have hit₄ : h₄.IsListIter it l (i + 1) := by
    rw [← hh₄]; obtain ⟨o, ho, r⟩ := (hit₁.extBut hs₂.extBut (Ne.symm hne)).extBut hs₃.extBut (Ne.symm hne); exact ⟨o, Heap.get?_push_of_some _ ho, r⟩
  show wpAny _ _ (Builtin.SmallTypes.ownedTupleIsFree (.ref e) >>= _) _ _ ⟨h₄, g, d, tk + 1, os⟩
  rw [hsz]
  clear hh₄ he₃ hs₃ he₂ hs₂ he₁ hs₁ hit₁ hsz h₃ h₂ h₁
  have ha4 := hk₄ a oa hae hai ha
  refine wpAny_bind ?_
  unfold Builtin.SmallTypes.ownedTupleIsFree
  refine wpAny_bind (wpAny_field he₄ rfl (x := rawInt a) rfl ?_)
  show wpAny _ _ (loadIfAlive (((a : Nat) : Int).toNat) >>= _) _ _ ⟨h₄, g, d, tk + 1, os⟩
  rw [Int.toNat_natCast]
  refine wpAny_bind (wp_alive ?_)
  rw [ha4]
  show wpAny _ _ (field (.ref e) 1 >>= _) _ _ ⟨h₄, g, d, tk + 1, os⟩
  refine wpAny_bind (wpAny_field he₄ rfl (x := .bool b) rfl ?_)
  cases b with
  | true =>
    refine wpAny_pure ?_
    exact wpAny_pure ⟨_, rfl, hQ h₄ he₄ hit₄ ht₄ hz₄ hk₄⟩
  | false =>
    show wpAny _ _ (setField (.ref e) 1 (.bool true) >>= _) _ _ ⟨h₄, g, d, tk + 1, os⟩
    refine wpAny_bind (wpAny_setField_rec he₄ (by simp) fun h₅ he₅ hs₅ => ?_)
    replace hs₅ : Heap.SameBut e h₄ h₅ := hs₅
    replace he₅ : EnumG h₅ e it ((i : Int) + 1) true old a := he₅
    refine wpAny_pure ?_
    refine wpAny_pure ⟨_, rfl, hQ h₅ he₅ (hit₄.extBut hs₅.extBut (Ne.symm hne)) (hs₅.extBut _ _ (Nat.ne_of_gt hel) ht₄) (by rw [hs₅.1, hz₄]) fun b o hbe hbi hb => hs₅.extBut b o hbe (hk₄ b o hbe hbi hb)⟩
theorem pyNext_held {e it l a : Addr} {i : Nat} {items : Array Value} {x old : Value} {b : Bool} {oa : Obj} {Q : Option Value → Shared → Prop}
    (he : EnumG s.heap e it i b old a) (ha : s.heap.get? a = some oa) (hae : a ≠ e) (hai : a ≠ it) (hit : s.heap.IsListIter it l i) (hl : s.heap.IsList l items) (hx : items[i]? = some x) (hne : e ≠ it)
    (hQ : ∀ h', EnumG h' e it ((i : Int) + 1) true old a → h'.IsListIter it l (i + 1) →
      h'.get? s.heap.objs.size = some { cls := .type "tuple", data := .seq #[.int i s.toks, x] } → h'.objs.size = s.heap.objs.size + 1 →
      (∀ b o, b ≠ e → b ≠ it → s.heap.get? b = some o → h'.get? b = some o) → Q (some (.ref s.heap.objs.size)) { s with heap := h', toks := s.toks + 1 }) :
    wpAny (model prog w) A (pyNext (.ref e)) Q E s := by
  have hT : s.TypeIs (.ref e) "enumerate" := ⟨_, he, rfl⟩
  unfold pyNext
  exact wpAny_bind (wpAny_attempt (wpAny_callSpecial?_slot (name := Str.ofString "__next__") hT F.slot_enumerate_next
    (wpAny_call_entry F.slot_enumerate_next hT F.entry_enumerate_next
      (next_held he ha hae hai hit hl hx hne fun h' a b c d k => wpAny_pure (hQ h' a b c d k)) (F.args_enumerate_next_1 _))))
theorem pyNext_end {e it l a : Addr} {i : Nat} {items : Array Value} {old : Value} {b : Bool} {Q : Option Value → Shared → Prop} (hh : A.handled = none)
    (he : EnumG s.heap e it i b old a) (hit : s.heap.IsListIter it l i) (hl : s.heap.IsList l items) (hx : items[i]? = none)
    (hQ : ∀ h', Heap.ExtBut it s.heap h' → Q none { s with heap := h' }) : wpAny (model prog w) A (pyNext (.ref e)) Q E s := by
  have hT : s.TypeIs (.ref e) "enumerate" := ⟨_, he, rfl⟩
  unfold pyNext
  refine wpAny_bind (wpAny_attempt (wpAny_callSpecial?_slot (name := Str.ofString "__next__") hT F.slot_enumerate_next
    (wpAny_call_entry F.slot_enumerate_next hT F.entry_enumerate_next ?_ (F.args_enumerate_next_1 _))))
  show wpAny _ _ (field (.ref e) 2 >>= _) _ _ _
  refine wpAny_bind (wpAny_field he rfl (x := .ref it) rfl ?_)
  refine wpAny_bind (wpAny_nextOf_list_end hh hit hl hx fun h' x he' hx' => ?_)
  obtain ⟨o, ho, hc⟩ := hx'
  refine wpAny_bind (wpAny_isInstance (T := "StopIteration") (b := true) ⟨o, ho, hc⟩ isSubtype_stop ?_)
  exact wpAny_pure (hQ _ he')
end
end BFW
set_option maxHeartbeats 4000000
namespace BFW
open PySem PySem.Spec PyProof.Rows L2
/-- the enumerator over the list at a, i items told -/
def EnS (h : Heap) (e it a : Addr) (i : Nat) : Prop := ((i = 0 ∧ IsEnum h e it 0 .none) ∨ ∃ b old t ot, EnumG h e it i b old t ∧ h.get? t = some ot ∧ t ≠ e ∧ t ≠ it) ∧ h.IsListIter it a i
def TsOk (H : Hp) (Ts : List Addr) (xs : List V) (i : Nat) : Prop := Ts.length = i ∧ ∀ (j : Nat) x, j < i → xs[j]? = some x → ∃ T, Ts[j]? = some T ∧ H T = some (.tup [.int (j : Int), x])
section
variable {X : Cx} {pins : List (Addr × Obj)} {σ : L2.St} {A : Around} {R : Result → Shared → Prop} {e it a S : Addr} {xs : List V} {res : Value}
theorem en_next {H : Hp} {s : Shared} {i : Nat} {x : V} {E : Value → Shared → Prop} {Q : Option Value → Shared → Prop} (I : Inv X pins σ H s) (fe : FpOk X pins H e) (fi : FpOk X pins H it) (hne : e ≠ it) (st : EnS s.heap e it a i) (hq : SqL X.K H a xs) (hx : xs[i]? = some x)
    (hQ : ∀ s' T, H T = none → Inv X pins σ (upd H T (.tup [.int (i : Int), x])) s' → EnS s'.heap e it a (i + 1) → T ≠ e → T ≠ it → Q (some (.ref T)) s') : wpAny (model X.prog X.w) A (pyNext (.ref e)) Q E s := by
  obtain ⟨its, rv, p, hz⟩ := I.list hq
  obtain ⟨u, hu, ru⟩ := rv.get hx
  have hf : ∀ b ∈ [e, it], FpOk X pins H b := fun b hb => by
    rcases List.mem_cons.mp hb with z | z
    · rw [z]; exact fe
    · rw [List.mem_singleton.mp z]; exact fi
  obtain ⟨st, hit⟩ := st
  have hil : it < s.heap.objs.size := by obtain ⟨_, q, _⟩ := hit; exact Heap.lt_size q
  have c1 : ((i + 1 : Nat) : Int) = (i : Int) + 1 := by omega
  rcases st with ⟨rfl, he⟩ | ⟨b, old, t, ot, he, ht, te, ti⟩
  · have hel : e < s.heap.objs.size := Heap.lt_size he
    refine wpAny_pyNext_enum_item (i := 0) he hit p.isList (x := u) (by simpa using hu) hne fun h' ho hit' hT hsz hk => ?_
    have new : ObjOk X.prog X.w (upd H s.heap.objs.size (.tup [.int ((0 : Nat) : Int), x])) h' s.heap.objs.size (.tup [.int ((0 : Nat) : Int), x]) :=
      ⟨by show 2 ≤ sizeLine; decide, [.int ((0 : Nat) : Int) s.toks, u], .cons ⟨_, rfl⟩ (.cons ru .nil), ⟨_, hT, rfl, _, rfl⟩⟩
    have I1 : Inv X pins σ (upd H s.heap.objs.size (.tup [.int ((0 : Nat) : Int), x])) { s with heap := h', toks := s.toks + 1 } :=
      I.turnedNew (ch := [e, it]) (fun b ob hb q => hk b ob (fun z => hb (by simp [z])) (fun z => hb (by simp [z])) q) hf (Nat.le_refl _) new
    refine hQ _ _ (I.hok.fresh (Nat.le_refl _)) I1 ⟨.inr ⟨false, u, s.heap.objs.size, _, ?_, hT, Nat.ne_of_gt hel, Nat.ne_of_gt hil⟩, hit'⟩ (Nat.ne_of_gt hel) (Nat.ne_of_gt hil)
    rw [c1]
    exact ho
  · have hel : e < s.heap.objs.size := Heap.lt_size he
    refine pyNext_held he ht te ti hit p.isList (x := u) (by simpa using hu) hne fun h' ho hit' hT hsz hk => ?_
    have new : ObjOk X.prog X.w (upd H s.heap.objs.size (.tup [.int (i : Int), x])) h' s.heap.objs.size (.tup [.int (i : Int), x]) :=
      ⟨by show 2 ≤ sizeLine; decide, [.int (i : Int) s.toks, u], .cons ⟨_, rfl⟩ (.cons ru .nil), ⟨_, hT, rfl, _, rfl⟩⟩
    have I1 : Inv X pins σ (upd H s.heap.objs.size (.tup [.int (i : Int), x])) { s with heap := h', toks := s.toks + 1 } :=
      I.turnedNew (ch := [e, it]) (fun b ob hb q => hk b ob (fun z => hb (by simp [z])) (fun z => hb (by simp [z])) q) hf (Nat.le_refl _) new
    refine hQ _ _ (I.hok.fresh (Nat.le_refl _)) I1 ⟨.inr ⟨true, old, t, ot, ?_, hk t ot te ti ht, te, ti⟩, hit'⟩ (Nat.ne_of_gt hel) (Nat.ne_of_gt hil)
    rw [c1]
    exact ho
theorem en_done {H : Hp} {s : Shared} {E : Value → Shared → Prop} {Q : Option Value → Shared → Prop} (hh : A.handled = none) (I : Inv X pins σ H s) (fi : FpOk X pins H it) (st : EnS s.heap e it a xs.length) (hq : SqL X.K H a xs)
    (hQ : ∀ s', Inv X pins σ H s' → Q none s') : wpAny (model X.prog X.w) A (pyNext (.ref e)) Q E s := by
  obtain ⟨its, rv, p, hz⟩ := I.list hq
  obtain ⟨f0, f1, f2, f3, f4, f5⟩ := fi
  have hl := rv.length
  obtain ⟨st, hit⟩ := st
  have fin : ∀ h', Heap.ExtBut it s.heap h' → Q none { s with heap := h' } := fun h' eb => hQ _ (I.turned (t' := s.toks) (fun b o hb q => eb b o hb q) f0 f1 f3 f4 f5)
  rcases st with ⟨e0, he⟩ | ⟨b, old, t, ot, he, ht, te, ti⟩
  · exact wpAny_pyNext_enum_end (i := xs.length) hh (by rw [e0]; exact he) hit p.isList (by simp; omega) fin
  · exact pyNext_end hh he hit p.isList (by simp; omega) fin
theorem FpOk.upd' {H : Hp} {b T : Addr} {o : HO} (h : FpOk X pins H b) (n : b ≠ T) : FpOk X pins (upd H T o) b := ⟨by rw [upd_ne n]; exact h.1, h.2⟩
theorem sqL_upd {K : PySem.W.Frag} {H : Hp} {o : HO} {ys : List V} (h : SqL K H a ys) (n : a ≠ S) : SqL K (upd H S o) a ys := h.imp (fun h => h.imp (fun h => by rw [upd_ne n]; exact h) fun ⟨u, h⟩ => ⟨u, by rw [upd_ne n]; exact h⟩) id
theorem enS_upd {h : Heap} {i : Nat} {f : Array Value → Array Value} {os : Obj} (hS : h.get? S = some os) (fr : ∀ o, (h.update S (Obj.mapSeq f)).get? S = some o ∨ True) (Se : S ≠ e) (Si : S ≠ it) (k : ∃ o, (h.update S (Obj.mapSeq f)).get? S = some o) (st : EnS h e it a i) : EnS (h.update S (Obj.mapSeq f)) e it a i := by
  obtain ⟨st, o, ho, hr⟩ := st
  refine ⟨?_, o, (Heap.get?_update_other h (Obj.mapSeq f) Si).trans ho, hr⟩
  rcases st with ⟨e0, he⟩ | ⟨b, old, t, ot, he, ht, te, ti⟩
  · exact .inl ⟨e0, (Heap.get?_update_other h (Obj.mapSeq f) Se).trans he⟩
  · by_cases c : t = S
    · obtain ⟨o', ho'⟩ := k
      exact .inr ⟨b, old, t, o', (Heap.get?_update_other h (Obj.mapSeq f) Se).trans he, by rw [c]; exact ho', te, ti⟩
    · exact .inr ⟨b, old, t, ot, (Heap.get?_update_other h (Obj.mapSeq f) Se).trans he, (Heap.get?_update_other h (Obj.mapSeq f) (Ne.symm c)).trans ht, te, ti⟩
theorem en_loop (hh : A.handled = none) (hl : xs.length ≤ 1000) (hne : e ≠ it) (Se : S ≠ e) (Si : S ≠ it) : ∀ (k i : Nat) (s : Shared) (H : Hp) (Ts : List Addr), xs.length - i = k → i ≤ xs.length → Inv X pins σ H s → FpOk X pins H e → FpOk X pins H it → EnS s.heap e it a i → SqL X.K H a xs → a ≠ S →
    H S = some (.lst (Ts.map V.ref)) → TsOk H Ts xs i →
    (∀ s' H' Ts', Inv X pins σ H' s' → BF.Off S H H' → H' S = some (.lst (Ts'.map V.ref)) → TsOk H' Ts' xs xs.length → R (.ok (.ret res)) s') →
    codeAny (model X.prog X.w) A (.builtin "list.extend.loop" ⟨[.ref S, .ref e, res], []⟩) R s := by
  intro k
  induction k with
  | zero =>
    intro i s H Ts hk hi I fe fi st hq aS hS ts hR
    have hin : i = xs.length := by omega
    subst hin
    refine codeAny_builtin F.entry_extend_loop ?_
    rw [Around.under_plainId F.plain_extend_loop _]
    show wpAny _ A.in1 (pyNext (.ref e) >>= _) _ _ s
    refine wpAny_bind (en_done (A := A.in1) hh I fi st hq fun s' I' => ?_)
    exact wpAny_pure (hR s' H Ts I' (BF.Off.refl _ _) hS ts)
  | succ k ih =>
    intro i s H Ts hk hi I fe fi st hq aS hS ts hR
    have hlt : i < xs.length := by omega
    refine codeAny_builtin F.entry_extend_loop ?_
    rw [Around.under_plainId F.plain_extend_loop _]
    show wpAny _ A.in1 (pyNext (.ref e) >>= _) _ _ s
    refine wpAny_bind (en_next (A := A.in1) I fe fi hne st hq (List.getElem?_eq_getElem hlt) fun s' T nT I' st' Te Ti => ?_)
    have TS : T ≠ S := fun z => by rw [z, hS] at nT; cases nT
    have hS1 : upd H T (.tup [.int (i : Int), xs[i]]) S = some (.lst (Ts.map V.ref)) := by rw [upd_ne TS.symm]; exact hS
    obtain ⟨z, its, n, r, hle, hobj⟩ := I'.lstM hS1
    have tl := ts.1
    have il : its.length = i := by rw [← r.length, List.length_map, tl]
    show wpAny _ A.in1 (updateSeq S (·.push (.ref T)) >>= _) _ _ s'
    refine wpAny_bind (wpAny_updateSeq hobj rfl ?_ (by rw [List.size_toArray, il]; exact Nat.le_trans (show i ≤ 1000 by omega) (by decide)) (by show (Array.push _ _).size ≤ _; rw [Array.size_push, List.size_toArray, il]; exact Nat.le_trans (show i + 1 ≤ 1001 by omega) (by decide)))
    have I2 := I'.lset (t' := s'.toks) (its' := its ++ [.ref T]) hS1 hobj (f := (·.push (.ref T))) (by simp) (r.append (.cons (a := V.ref T) (b := Value.ref T) rfl .nil)) (by rw [List.length_append, List.length_map, tl]; show i + 1 ≤ sizeLine; exact Nat.le_trans (show i + 1 ≤ 1001 by omega) (by decide))
    refine wpAny_pure ⟨plainId_quiet F.plain_extend_loop _, ih (i + 1) _ _ (Ts ++ [T]) (by omega) hlt I2 (FpOk.upd' (FpOk.upd' fe Te.symm) Se.symm) (FpOk.upd' (FpOk.upd' fi Ti.symm) Si.symm) (enS_upd hobj (fun _ => .inr trivial) Se Si ⟨_, PySem.IsL.update hobj _⟩ st') ?_ aS ?_ ?_ ?_⟩
    · exact sqL_upd (hq.ext (BF.same_upd nT)) aS
    · rw [upd_same, List.map_append]
      rfl
    · refine ⟨by simp [tl], fun j x hj hx => ?_⟩
      by_cases c : j < i
      · obtain ⟨T', g, h⟩ := ts.2 j x c hx
        refine ⟨T', by rw [List.getElem?_append_left (by omega)]; exact g, ?_⟩
        have n1 : T' ≠ S := fun z => by rw [z, hS] at h; cases h
        have n2 : T' ≠ T := fun z => by rw [z, nT] at h; cases h
        rw [upd_ne n1, upd_ne n2]
        exact h
      · have : j = i := by omega
        subst this
        refine ⟨T, by rw [List.getElem?_append_right (by omega), tl]; simp, ?_⟩
        rw [List.getElem?_eq_getElem hlt] at hx
        cases hx
        rw [upd_ne TS, upd_same]
    · intro s2 H2 Ts2 I2 o2 h2 t2
      refine hR s2 H2 Ts2 I2 (fun b o nb hb => o2 b o nb ?_) h2 t2
      have n2 : b ≠ T := fun z => by rw [z, nT] at hb; cases hb
      rw [upd_ne nb, upd_ne n2]
      exact hb
theorem no_len : typeLookup (.type "enumerate") "__len__" = pure none := by rw [typeLookup_type, builtinLookup_eq_fast]; kernel_rfl
theorem no_hint : typeLookup (.type "enumerate") "__length_hint__" = pure none := by rw [typeLookup_type, builtinLookup_eq_fast]; kernel_rfl
theorem en_extend {H : Hp} {s : Shared} (hh : A.handled = none) (hl : xs.length ≤ 1000) (hne : e ≠ it) (Se : S ≠ e) (Si : S ≠ it) (I : Inv X pins σ H s) (fe : FpOk X pins H e) (fi : FpOk X pins H it) (he : IsEnum s.heap e it 0 .none) (hit : s.heap.IsListIter it a 0) (hq : SqL X.K H a xs) (aS : a ≠ S) (hS : H S = some (.lst []))
    (hR : ∀ s' H' Ts', Inv X pins σ H' s' → BF.Off S H H' → H' S = some (.lst (Ts'.map V.ref)) → TsOk H' Ts' xs xs.length → R (.ok (.ret res)) s') :
    wpAny (model X.prog X.w) A.in1 (Builtin.List.listExtendWith (.ref S) (.ref e) res)
      (fun fin s' => match fin with | .done f => R (.ok f) s' | .again c' => c'.quiet = true ∧ codeAny (model X.prog X.w) A c' R s') (fun e s' => R (.error e) s') s := by
  have hT : s.TypeIs (.ref e) "enumerate" := ⟨_, he, rfl⟩
  obtain ⟨z, its, n, r, hle, hobj⟩ := I.lstM hS
  have i0 : its = [] := by
    cases its with
    | nil => rfl
    | cons x y => simp at hle
  subst i0
  unfold Builtin.List.listExtendWith
  refine wpAny_bind (wpAny_typeOf hT ?_)
  have h1 : Builtin.List.listSameRef (.ref S) (.ref e) = false := by simp [Builtin.List.listSameRef, Se]
  have h2 : (Value.type "enumerate" == Value.type "list") = false := by decide
  have h3 : (Value.type "enumerate" == Value.type "tuple") = false := by decide
  simp only [h1, h2, h3, Bool.or_false, Bool.false_eq_true, if_false]
  refine wpAny_bind (wpAny_pyIter_enum he ?_)
  refine wpAny_bind (wpAny_holding ?_)
  unfold Builtin.List.listLengthHint
  refine wpAny_bind (wpAny_specialOf hT no_len ?_)
  show wpAny _ A.in1 (specialOf (Value.ref e) (Str.ofString "__length_hint__") >>= _) _ _ _
  refine wpAny_bind (wpAny_specialOf hT no_hint ?_)
  refine wpAny_pure ?_
  show wpAny _ A.in1 (rule "list.extend.makes-room" >>= fun _ => Builtin.List.listTouch (.ref S) >>= fun _ =>
    again (.builtin "list.extend.loop" ⟨[.ref S, .ref e, res], []⟩)) _ _ _
  refine wpAny_bind (wpAny_rule ?_)
  refine wpAny_bind ?_
  show wpAny _ A.in1 (updateSeq S (·.push .none) >>= fun _ => updateSeq S (·.pop)) _ _ _
  refine wpAny_bind (wpAny_updateSeq hobj rfl ?_)
  have hS₂ := Heap.get?_update_self (Obj.mapSeq (·.push Value.none)) hobj rfl
  refine wpAny_updateSeq (hz := by seq_fits) hS₂ rfl ?_
  have I1 := I.lset (t' := s.toks) (its' := [.none]) hS hobj (f := (·.push .none)) (by simp) (.cons (a := V.non) (b := Value.none) rfl .nil) (by decide)
  have I2 := I1.lset (t' := s.toks) (its := [.none]) (its' := []) (n := _) upd_same (PySem.IsL.update hobj (·.push .none)) (f := (·.pop)) (by simp) .nil (by decide)
  rw [upd_upd] at I2
  have e0 : EnS s.heap e it a 0 := ⟨.inl ⟨rfl, he⟩, hit⟩
  have e1 := enS_upd (f := (·.push Value.none)) hobj (fun _ => .inr trivial) Se Si ⟨_, hS₂⟩ e0
  have e2 := enS_upd (f := (·.pop)) hS₂ (fun _ => .inr trivial) Se Si ⟨_, Heap.get?_update_self (Obj.mapSeq (·.pop)) hS₂ rfl⟩ e1
  refine wpAny_pure ⟨plainId_quiet F.plain_extend_loop _, en_loop hh hl hne Se Si xs.length 0 _ _ [] (by omega) (Nat.zero_le _) I2 (FpOk.upd' fe Se.symm) (FpOk.upd' fi Si.symm) e2 (sqL_upd hq aS) aS upd_same ⟨rfl, fun j x hj => by omega⟩ fun s' H' Ts' I' o' h' t' => ?_⟩
  exact hR s' H' Ts' I' (fun b o nb hb => o' b o nb (by rw [upd_ne nb]; exact hb)) h' t'
theorem en_init {H : Hp} {s : Shared} (hh : A.handled = none) (hl : xs.length ≤ 1000) (hne : e ≠ it) (Se : S ≠ e) (Si : S ≠ it) (I : Inv X pins σ H s) (fe : FpOk X pins H e) (fi : FpOk X pins H it) (he : IsEnum s.heap e it 0 .none) (hit : s.heap.IsListIter it a 0) (hq : SqL X.K H a xs) (aS : a ≠ S) (hS : H S = some (.lst []))
    (hR : ∀ s' H' Ts', Inv X pins σ H' s' → BF.Off S H H' → H' S = some (.lst (Ts'.map V.ref)) → TsOk H' Ts' xs xs.length → R (.ok (.ret .none)) s') :
    wpAny (model X.prog X.w) A.in1 (Builtin.«list.__init__» ⟨[.ref S, .ref e], []⟩)
      (fun fin s' => match fin with | .done f => R (.ok f) s' | .again c' => c'.quiet = true ∧ codeAny (model X.prog X.w) A c' R s') (fun e s' => R (.error e) s') s := by
  obtain ⟨z, its, n, r, hle, hobj⟩ := I.lstM hS
  have i0 : its = [] := by
    cases its with
    | nil => rfl
    | cons x y => simp at hle
  subst i0
  show wpAny _ A.in1 (do let old ← Builtin.List.listItems (.ref S); Builtin.List.listUpdate (.ref S) (fun _ => #[]); letGo old.toList.reverse; Builtin.List.listExtendWith (.ref S) (.ref e) .none) _ _ s
  refine wpAny_bind ?_
  unfold Builtin.List.listItems
  refine wpAny_bind (wpAny_seqItems hobj rfl (wpAny_pure ?_))
  show wpAny _ A.in1 (updateSeq S (fun _ => #[]) >>= fun _ => letGo (#[] : Array Value).toList.reverse >>= fun _ => Builtin.List.listExtendWith (.ref S) (.ref e) .none) _ _ s
  refine wpAny_bind (wpAny_updateSeq hobj rfl ?_)
  have I1 := I.lset (t' := s.toks) (its' := []) hS hobj (f := fun _ => #[]) rfl .nil (by decide)
  obtain ⟨o, ho, hr⟩ := hit
  refine wpAny_bind (wpAny_letGo ?_)
  refine en_extend hh hl hne Se Si I1 (FpOk.upd' fe Se.symm) (FpOk.upd' fi Si.symm) ((Heap.get?_update_other s.heap _ Se).trans he) ⟨o, (Heap.get?_update_other s.heap _ Si).trans ho, hr⟩ (sqL_upd hq aS) aS upd_same fun s' H' Ts' I' o' h' t' => ?_
  exact hR s' H' Ts' I' (fun b o nb hb => o' b o nb (by rw [upd_ne nb]; exact hb)) h' t'
theorem en_list {H : Hp} {s : Shared} {E : Value → Shared → Prop} {Q : Value → Shared → Prop} (hh : A.handled = none) (hl : xs.length ≤ 1000) (hne : e ≠ it) (I : Inv X pins σ H s) (fe : FpOk X pins H e) (fi : FpOk X pins H it) (he : IsEnum s.heap e it 0 .none) (hit : s.heap.IsListIter it a 0) (hq : SqL X.K H a xs) (ha : ∃ o, s.heap.get? a = some o)
    (hQ : ∀ s' H' S Ts', Inv X pins σ H' s' → Same H H' → H S = none → H' S = some (.lst (Ts'.map V.ref)) → TsOk H' Ts' xs xs.length → Q (.ref S) s') : wpAny (model X.prog X.w) A (call (.type "list") [.ref e]) Q E s := by
  refine callType_codes (Q₁ := fun obj s₁ => obj = .ref s.heap.objs.size ∧ s₁ = { s with heap := s.heap.push { cls := .type "list", data := .seq #[] } }) F.called_list (F.typeCall_list_1 _) F.entry_list_init
    (code_list_new _ ⟨rfl, rfl⟩) fun obj s₁ h₁ => ?_
  obtain ⟨rfl, rfl⟩ := h₁
  have hS : (s.heap.push { cls := .type "list", data := .seq #[] }).get? s.heap.objs.size = some { cls := .type "list", data := .seq #[] } := Heap.get?_push_size _ rfl
  have I1 := I.lnew (t' := s.toks) (ys := []) (its := []) .nil (by decide)
  have nS : H s.heap.objs.size = none := I.fresh
  have Se : s.heap.objs.size ≠ e := Nat.ne_of_gt (Heap.lt_size he)
  obtain ⟨o, ho, hr⟩ := hit
  have Si : s.heap.objs.size ≠ it := Nat.ne_of_gt (Heap.lt_size ho)
  obtain ⟨oa, hoa⟩ := ha
  have aS : a ≠ s.heap.objs.size := Nat.ne_of_lt (Heap.lt_size hoa)
  refine ⟨⟨_, hS, rfl⟩, F.args_list_init_2 _ _, en_init (A := A.in1) hh hl hne Se Si I1 (FpOk.upd' fe Se.symm) (FpOk.upd' fi Si.symm) (Heap.get?_push_of_some _ he) ⟨o, Heap.get?_push_of_some _ ho, hr⟩ (sqL_upd hq aS) aS upd_same fun s' H' Ts' I' o' h' t' => ?_⟩
  refine ⟨rfl, hQ s' H' _ Ts' I' (fun b u hb => ?_) nS h' t'⟩
  have nb : b ≠ s.heap.objs.size := fun z => by rw [z, nS] at hb; cases hb
  exact o' b u nb (by rw [upd_ne nb]; exact hb)
end
end BFW
namespace BF
open PySem PySem.Spec PyProof.Rows L2
/-- list(enumerate(e)) -/
def tLEnum (K : PySem.W.Frag) (te : TE) : TE := fun σ H Q => te σ H fun x H1 => ∃ a xs, x = .ref a ∧ SqL K H1 a xs ∧ xs.length ≤ 1000 ∧ ∀ H' S Ts, Same H1 H' → H1 S = none → H' S = some (.lst (Ts.map V.ref)) → BFW.TsOk H' Ts xs xs.length → Q (.ref S) H'
theorem pe_listEnum {X : Cx} {e : Expr} {te : TE} {p pos p2 pos2 : Pos} (hc : X.calm = true) (hg : Gl X "list") (hm : X.mg "list" = none) (hg2 : Gl X "enumerate") (hm2 : X.mg "enumerate" = none) (he : PE X e te)
    (na : starEach [.Call (.Name "enumerate" p2) [e] [] pos2] X.env = (false, eval (.Call (.Name "enumerate" p2) [e] [] pos2) X.env) :: starEach [] X.env := by rfl) (na2 : starEach [e] X.env = (false, eval e X.env) :: starEach [] X.env := by rfl) :
    PE X (.Call (.Name "list" p) [.Call (.Name "enumerate" p2) [e] [] pos2] [] pos) (tLEnum X.K te) := by
  refine ⟨fun pins s σ H Q I h => ?_⟩
  refine Call_ (ld_blt I hg hm boot_list (PyProof.Rows.callWith_type1 (args_cons (Q := fun vs s' => wpAny (model X.prog X.w) X.A (call (.type "list") vs) (EP X pins σ Q) X.xe s') ?_ na) na))
  refine Call_ (ld_blt I hg2 hm2 boot_enumerate (PyProof.Rows.callWith_type1 (one_arg he I h (fun v s2 x H2 I2 r q => ?_) na2) na2))
  obtain ⟨a, xs, rfl, hq, hl, k⟩ := q
  cases r
  obtain ⟨its, rv, p', hz⟩ := I2.list hq
  refine call_enumerate_list p'.isList fun h' hE hit hsz hk => ?_
  have I3 : Inv X pins σ H2 { s2 with heap := h' } := I2.kept (t' := s2.toks) hk
  have fp : ∀ b, s2.heap.objs.size ≤ b → FpOk X pins H2 b := fun b hb => I2.fpOk hb (I2.hok.fresh hb)
  refine args_nil ?_
  obtain ⟨oa, hoa, _⟩ := p'.isList
  exact BFW.en_list (e := s2.heap.objs.size + 1) (it := s2.heap.objs.size) (I3.ok.hd hc) hl (Nat.succ_ne_self _) I3 (fp _ (Nat.le_succ _)) (fp _ (Nat.le_refl _)) hE hit hq ⟨oa, hk _ _ hoa⟩ fun s4 H4 S Ts I4 sm nS hS ts => ⟨.ref S, H4, I4, rfl, k H4 S Ts sm nS hS ts⟩
end BF
set_option maxHeartbeats 4000000
namespace BF
open PySem PySem.Spec PyProof.Rows L2
def top (i : Nat) : Stmt := PySem.Challenge.pw_betweenfaces_k23_whole_moves_that_go_alo.main.body.getD i (.Pass ⟨0, 0, 0, 0⟩)
abbrev sIsInt : Stmt := top 7
abbrev sDivisor : Stmt := top 8
abbrev sRatio : Stmt := top 11
abbrev sInit : Stmt := inClass sRatio 0
abbrev FnP (K : PySem.W.Frag) (x q : Str) (st : Stmt) (f : Addr) (fd : FuncData) : Prop := FunD K x q (defArgs st) (defBody st) (defScope st) [] [] f fd

/-- the names of built-ins that the text leaves alone -/
structure Bl (mg : Str → Option Value) : Prop where
  isinstance : mg "isinstance" = none
  int : mg "int" = none
  bool : mg "bool" = none
  abs : mg "abs" = none
  len : mg "len" = none
  list : mg "list" = none
  range : mg "range" = none
  repr : mg "repr" = none
  str : mg "str" = none
  tuple : mg "tuple" = none
  dict : mg "dict" = none
  sorted : mg "sorted" = none
  enumerate : mg "enumerate" = none
  all : mg "all" = none
  any : mg "any" = none
  sum : mg "sum" = none
  min : mg "min" = none
  max : mg "max" = none
  zip : mg "zip" = none
  set : mg "set" = none
  type : mg "type" = none
  valueError : mg "ValueError" = none
/-- a value that is no integer -/
def NoInt (K : PySem.W.Frag) (H : Hp) (v : V) : Prop := (∃ b, v = .bl b) ∨ ∃ t, TyX K H v t ∧ PySem.W.kitOne K t (.type "int") = some false
def spIsInt (K : PySem.W.Frag) : Sp := fun vs H Q _ => ∃ v, vs = [v] ∧ ((∃ i, v = .int i) ∧ Q (.bl true) H ∨ NoInt K H v ∧ Q (.bl false) H)
section
variable {P : Program} {w : World} {K : PySem.W.Frag} {mg : Str → Option Value} {base : Heap} {CX : CXT} {f : Addr} {fd : FuncData}
theorem scIsInt : FnScope ["value"] ["value"] (defScope sIsInt) := ⟨rfl, rfl, rfl, by decide +kernel, rfl, by decide +kernel, by decide +kernel⟩
theorem ok_isint (B : Bl mg) (F : FnP K "is_integer" "is_integer" sIsInt f fd) : FnOk P w K mg base CX 1 f fd ["value"] (spIsInt K) := by
  refine F.ok scIsInt (fun vs H Q E h => ?_) (fun cdv A outer s H vs Q E hr h => ?_)
  · obtain ⟨v, rfl, _⟩ := h
    rfl
  · obtain ⟨v, rfl, h⟩ := h
    refine ⟨_, pss_one (ps_ret (pe_and
      (pe_callB call_isi (by rfl) B.isinstance boot_isinstance (pa_cons (pv 0) (pa_cons (pe_bltn (v := .ty "int") (by rfl) B.int boot_int rfl) pa_nil)))
      (pe_one (pe_not (pe_callB call_isi (by rfl) B.isinstance boot_isinstance (pa_cons (pv 0) (pa_cons (pe_bltn (v := .ty "bool") (by rfl) B.bool boot_bool rfl) pa_nil))))))), ?_⟩
    rcases h with ⟨⟨i, rfl⟩, q⟩ | ⟨⟨b, rfl⟩ | ⟨t, ty, e⟩, q⟩
    · exact ⟨_, rfl, _, _, _, _, true, rfl, .ty _, .base (.int i), kit_ty (by decide +kernel), true, rfl, iteT ⟨_, rfl, _, _, _, _, false, rfl, .ty _, .base (.int i), kit_ty (by decide +kernel), false, rfl, q⟩⟩
    · exact ⟨_, rfl, _, _, _, _, true, rfl, .ty _, .base (.bl b), kit_ty (by decide +kernel), true, rfl, iteT ⟨_, rfl, _, _, _, _, true, rfl, .ty _, .base (.bl b), kit_ty (by decide +kernel), true, rfl, q⟩⟩
    · exact ⟨_, rfl, _, _, _, _, false, rfl, .ty _, ty, e, false, rfl, iteF q⟩

def spDivisor : Sp := fun vs H Q _ => ∃ a b : Nat, vs = [.int a, .int b] ∧ Q (.int (a.gcd b : Nat)) H
theorem scDivisor : FnScope ["one", "other"] ["one", "other"] (defScope sDivisor) := ⟨rfl, rfl, rfl, by decide +kernel, rfl, by decide +kernel, by decide +kernel⟩
theorem ok_divisor (F : FnP K "divisor" "divisor" sDivisor f fd) : FnOk P w K mg base CX0 1 f fd ["one", "other"] spDivisor := by
  refine F.ok scDivisor (fun vs H Q E h => ?_) (fun cdv A outer s H vs Q E hr h => ?_)
  · obtain ⟨a, b, rfl, _⟩ := h
    rfl
  · obtain ⟨a, b, rfl, k⟩ := h
    refine ⟨_, PSs.nox (pss_cons (ps_while PassesOwn.never (pt_cmpR op_gt (pv 1) pe_int (nomark _))
      (pss_one (ps_par (i := 0) (j := 1) (by rfl) scDivisor.nd rfl rfl (by decide) rfl rfl (pa_cons (pv 1) (pa_cons (pe_op op_mod (pv 0) (pv 1)) pa_nil)) (by rfl)))) (pss_one (ps_ret (pv 0)))), ?_⟩
    refine while_by (fun σ H' => H' = H ∧ ∃ x y : Nat, σ = [some (.int x), some (.int y)] ∧ x.gcd y = a.gcd b) (fun σ _ => match σ with | [_, some (.int y)] => y.toNat | _ => 0) ⟨rfl, a, b, rfl, rfl⟩ ?_ ?_
    · rintro σ H' ⟨rfl, x, y, rfl, e⟩
      refine ⟨_, rfl, _, _, rfl, rfl, _, rfl, ite2 (fun hy => ?_) (fun hy => ?_)⟩
      · have hy' : (0 : Int) < y := of_decide_eq_true hy
        refine ⟨_, rfl, _, rfl, _, rfl, _, _, rfl, rfl, hy', _, _, rfl, ⟨rfl, y, x % y, rfl, ?_⟩, ?_⟩
        · rw [← e, Nat.gcd_comm y (x % y), ← Nat.gcd_rec, Nat.gcd_comm]
        · show ((x : Int) % (y : Int)).toNat < (y : Int).toNat
          have := Nat.mod_lt x (show y > 0 by omega)
          omega
      · have hy' : ¬ (0 : Int) < y := fun z => hy (decide_eq_true z)
        have y0 : y = 0 := by omega
        subst y0
        refine ⟨_, rfl, ?_⟩
        rw [Nat.gcd_zero_right] at e
        rw [e]
        exact k
    · rintro σ H' Q1 Q2 m ⟨v, e, _, _, h1, h2, _, h3, h4⟩
      exact ⟨v, e, _, _, h1, h2, _, h3, m _ _ h4⟩

/-! ### Ratio.__init__ -/
/-- the class of fractions and its error -/
structure RT (K : PySem.W.Frag) (mg : Str → Option Value) (C CI fI fD : Addr) : Prop where
  cl : Cls K C
  nT : NoAttr K C "top"
  nB : NoAttr K C "bottom"
  mgC : mg "Ratio" = some (.ref C)
  mgI : mg "is_integer" = some (.ref fI)
  mgD : mg "divisor" = some (.ref fD)
  mgE : mg "InvalidRatio" = some (.ref CI)
  xE : PySem.W.excIn K CI He.veBase "ValueError.__new__" = true
  kE : PySem.W.keepIn K (.ref CI) = true
  bE : PySem.W.subIn K (.ref CI) (.type "BaseException") = some true
  tE : PySem.W.typeIn K (.ref CI) = some (.type "type")
def spInit (K : PySem.W.Frag) (C CI : Addr) : Sp := fun vs H Q E => ∃ (p dx : Addr) (x y : V), vs = [.ref p, x, y] ∧ H p = some (.ins C dx []) ∧
  ((∃ (t b : Int), x = .int t ∧ y = .int b ∧ b ≠ 0 ∧ t.natAbs < 2 ^ 8000 ∧ b.natAbs < 2 ^ 8000 ∧ Q .non (upd H p (.ins C dx (rf (Rat.divInt t b).num (Rat.divInt t b).den)))) ∨
   ((NoInt K H x ∨ (∃ i, x = .int i) ∧ (NoInt K H y ∨ y = .int 0)) ∧ E (.ref CI) none H))
theorem scInit : FnScope ["self", "top", "bottom", "common"] ["self", "top", "bottom"] (defScope sInit) := ⟨rfl, rfl, rfl, by decide +kernel, rfl, by decide +kernel, by decide +kernel⟩
theorem ok_init {C CI fI fD : Addr} {fdI fdD : FuncData} {dvs : List V} (B : Bl mg) (T : RT K mg C CI fI fD) (FI : FnP K "is_integer" "is_integer" sIsInt fI fdI) (FD : FnP K "divisor" "divisor" sDivisor fD fdD)
    (F : FunD K "__init__" "Ratio.__init__" (defArgs sInit) (defBody sInit) (defScope sInit) dvs [] f fd) : FnOk P w K mg base (L2.CX P w) 2 f fd ["self", "top", "bottom"] (spInit K C CI) := by
  have GI : FnOk P w K mg base CX0 1 fI fdI ["value"] (spIsInt K) := ok_isint B FI
  have GD : FnOk P w K mg base CX0 1 fD fdD ["one", "other"] spDivisor := ok_divisor FD
  have bI : Binds K fdI ["value"] [] := FI.bindsN fun _ _ _ _ _ _ us hl => match us, hl with | [_], _ => rfl
  have bD : Binds K fdD ["one", "other"] [] := FD.bindsN fun _ _ _ _ _ _ us hl => match us, hl with | [_, _], _ => rfl
  refine F.ok scInit (fun vs H Q E h => ?_) (fun cdv A outer s H vs Q E hr h => ?_)
  · obtain ⟨p, dx, x, y, rfl, _⟩ := h
    rfl
  · obtain ⟨p, dx, x, y, rfl, hp, h⟩ := h
    refine ⟨_, pss_cons (ps_if (PW.pt (pw_or (pt_not (pt_val (pe_call GI hr (by rfl) T.mgI FI.kp bI .nil pass0 (pa_cons (pv 1) pa_nil))))
        (pw_or (pt_not (pt_val (pe_call GI hr (by rfl) T.mgI FI.kp bI .nil pass0 (pa_cons (pv 2) pa_nil)))) (pw_or1 (pt_cmpR op_eq (pv 2) pe_int (nomark _))))))
        (pss_one (ps_raise (by rfl) (takes_of rfl rfl rfl rfl) (pmk_own0 PySem.F.excBase_ValueError T.xE T.mgE T.kE (raises_own T.bE T.tE) (by rfl)))) pss_nil)
      (pss_cons (ps_set (i := 3) scInit.nd rfl (Or.inl rfl) (pe_call GD hr (by rfl) T.mgD FD.kp bD .nil pass0
        (pa_cons (pe_callB call_abs (by rfl) B.abs (by decide +kernel) (pa_cons (pv 1) pa_nil)) (pa_cons (pe_callB call_abs (by rfl) B.abs (by decide +kernel) (pa_cons (pv 2) pa_nil)) pa_nil))))
      (pss_cons (ps_if (pt_cmpR op_lt (pv 2) pe_int (nomark _)) (pss_one (ps_set (i := 1) scInit.nd rfl (Or.inl rfl) (pe_un un_neg (pv 1)))) pss_nil)
      (pss_cons (ps_fld (pv 0) (pe_op op_fdivW (pv 1) (pv 3)) rfl)
      (pss_one (ps_fld (pv 0) (pe_op op_fdivW (pe_callB call_abs (by rfl) B.abs (by decide +kernel) (pa_cons (pv 2) pa_nil)) (pv 3)) rfl))))), ?_⟩
    rcases h with ⟨t, b, rfl, rfl, hb, ht8, hb8, k⟩ | ⟨h, k⟩
    · have at_ : ∀ z : Int, (if z < 0 then -z else z) = (z.natAbs : Int) := fun z => by split <;> omega
      have hbz : ¬ V.int b = V.int 0 := fun z => hb (V.int.inj z)
      have hg : 0 < t.natAbs.gcd b.natAbs := Nat.gcd_pos_of_pos_right _ (by omega)
      have hgI : (0 : Int) < ((t.natAbs.gcd b.natAbs : Nat) : Int) := by omega
      have hg8 : (((t.natAbs.gcd b.natAbs : Nat) : Int)).natAbs < 2 ^ 8000 := Nat.lt_of_le_of_lt (Nat.gcd_le_right _ (by omega)) hb8
      have wd : ∀ z : Int, CDivW z ((t.natAbs.gcd b.natAbs : Nat) : Int) := fun z => wide_div hgI hg8 (by decide) (by decide)
      refine ⟨_, rfl, _, rfl, .inl ⟨⟨t, rfl⟩, true, rfl, iteF ⟨_, rfl, _, rfl, .inl ⟨⟨b, rfl⟩, true, rfl, iteF ⟨_, rfl, rfl, _, rfl, ?_⟩⟩⟩⟩⟩
      rw [decide_eq_false hbz]
      refine iteF ⟨_, rfl, t, rfl, _, rfl, b, rfl, t.natAbs, b.natAbs, by rw [at_, at_] <;> rfl, ?_⟩
      have fin : ∀ z : Int, z = (if b < 0 then -t else t) → (tSeq (sFld K (tVar 0) (tOp (rI CDivW fun i j => V.int (i / j)) (tVar 1) (tVar 3)) "top")
          (sFld K (tVar 0) (tOp (rI CDivW fun i j => V.int (i / j)) (tCB (fun xs H Q => ∃ i, xs = [V.int i] ∧ Q (V.int (if i < 0 then -i else i)) H) (tCons (tVar 2) tNil)) (tVar 3)) "bottom"))
          { nx := fun _ H' => Q .non H', rt := Q } [some (.ref p), some (.int z), some (.int b), some (.int (t.natAbs.gcd b.natAbs : Nat))] H := by
        intro z ez
        refine ⟨_, rfl, _, rfl, _, _, rfl, rfl, wd _, _, rfl, p, C, dx, [], rfl, hp, T.cl, T.nT, by decide, ?_⟩
        refine ⟨_, rfl, b, rfl, _, rfl, _, _, rfl, rfl, wd _, _, rfl, p, C, dx, _, rfl, upd_same, T.cl, T.nB, (by show 1 < 1000; decide), ?_⟩
        rw [upd_upd, rf_put, at_, ez, ← num_nrm t b hb, ← den_nrm t b hb]
        exact k
      refine ⟨_, rfl, _, _, rfl, rfl, _, rfl, ite2 (fun hn => ?_) (fun hn => ?_)⟩
      · refine ⟨_, rfl, t, rfl, ?_⟩
        exact fin (-t) (by rw [if_pos (of_decide_eq_true hn)])
      · exact fin t (by rw [if_neg fun z => hn (decide_eq_true z)])
    · rcases h with h | ⟨⟨i, rfl⟩, h | rfl⟩
      · exact ⟨_, rfl, x, rfl, .inr ⟨h, false, rfl, iteT (iteT k)⟩⟩
      · exact ⟨_, rfl, _, rfl, .inl ⟨⟨i, rfl⟩, true, rfl, iteF ⟨_, rfl, y, rfl, .inr ⟨h, false, rfl, iteT (iteT k)⟩⟩⟩⟩
      · refine ⟨_, rfl, _, rfl, .inl ⟨⟨i, rfl⟩, true, rfl, iteF ⟨_, rfl, _, rfl, .inl ⟨⟨0, rfl⟩, true, rfl, iteF ⟨_, rfl, rfl, _, rfl, ?_⟩⟩⟩⟩⟩
        rw [decide_eq_true rfl]
        exact iteT k
end
end BF
set_option maxHeartbeats 4000000
namespace BF
open PySem PySem.Spec PyProof.Rows L2
abbrev sOf : Stmt := inClass sRatio 1
abbrev sUnder : Stmt := inClass sRatio 3
abbrev sEq : Stmt := inClass sRatio 9
abbrev sRepr : Stmt := inClass sRatio 12
section
variable {P : Program} {w : World} {K : PySem.W.Frag} {mg : Str → Option Value} {base : Heap} {CX : CXT} {f : Addr} {fd : FuncData} {C CI fI fD : Addr}
/-- what the program's code asks of two fractions: products of them stay within the machine's line -/
def Bd2 (q r : Rat) : Prop := ∃ n m, Bd n q ∧ Bd m r ∧ n + m ≤ 100000
theorem Bd2.mul {q r : Rat} (h : Bd2 q r) : CMulW q.num r.den ∧ CMulW r.num q.den ∧ CMulW q.num r.num ∧ CMulW q.den r.den := by
  obtain ⟨n, m, hq, hr, l⟩ := h
  have a1 := hq.mono (Nat.le_succ n)
  have a2 := hr.mono (Nat.le_succ m)
  have d1 : ((q.den : Int)).natAbs < 2 ^ (n + 1) := by rw [Int.natAbs_natCast]; exact a1.2
  have d2 : ((r.den : Int)).natAbs < 2 ^ (m + 1) := by rw [Int.natAbs_natCast]; exact a2.2
  exact ⟨wide_mul a1.1 d2 (by omega) (by omega) (by omega), wide_mul a2.1 d1 (by omega) (by omega) (by omega), wide_mul a1.1 a2.1 (by omega) (by omega) (by omega), wide_mul d1 d2 (by omega) (by omega) (by omega)⟩
def spUnder (C : Addr) : Sp := fun vs H Q _ => ∃ x y q r, vs = [x, y] ∧ RatV C H x q ∧ RatV C H y r ∧ Bd2 q r ∧ Q (.bl (decide (q < r))) H
theorem scUnder : FnScope ["self", "other"] ["self", "other"] (defScope sUnder) := ⟨rfl, rfl, rfl, by decide +kernel, rfl, by decide +kernel, by decide +kernel⟩
theorem ok_under (T : RT K mg C CI fI fD) (F : FnP K "under" "Ratio.under" sUnder f fd) : FnOk P w K mg base CX0 1 f fd ["self", "other"] (spUnder C) := by
  refine F.ok scUnder (fun vs H Q E h => ?_) (fun cdv A outer s H vs Q E hr h => ?_)
  · obtain ⟨x, y, q, r, rfl, _⟩ := h
    rfl
  · obtain ⟨x, y, q, r, rfl, ⟨p, rfl, dx, hx⟩, ⟨p', rfl, dx', hy⟩, b2, k⟩ := h
    refine ⟨_, PSs.nox (pss_one (ps_ret (pe_cmpR op_lt (pe_op op_mulW (pe_fld (pv 0) rfl) (pe_fld (pv 1) rfl)) (pe_op op_mulW (pe_fld (pv 1) rfl) (pe_fld (pv 0) rfl)) (nomark _)))), ?_⟩
    refine ⟨_, rfl, p, C, dx, _, _, rfl, hx, T.cl, T.nT, rf_top _ _, _, rfl, p', C, dx', _, _, rfl, hy, T.cl, T.nB, rf_bottom _ _, _, _, rfl, rfl, b2.mul.1, ?_⟩
    refine ⟨_, rfl, p', C, dx', _, _, rfl, hy, T.cl, T.nT, rf_top _ _, _, rfl, p, C, dx, _, _, rfl, hx, T.cl, T.nB, rf_bottom _ _, _, _, rfl, rfl, b2.mul.2.1, _, _, rfl, rfl, ?_⟩
    have e : decide (q < r) = decide (q.num * (r.den : Int) < r.num * (q.den : Int)) := by
      rw [decide_eq_decide]
      exact Rat.lt_iff q r
    rw [e] at k
    exact k

/-! ### == -/
/-- the type of a fraction, for isinstance -/
structure RTy (K : PySem.W.Frag) (C : Addr) : Prop where
  ha : PySem.W.findIn K (.ref C) "__class__" = some (some (.builtin "object.__class__"))
  hn : PySem.W.specialIn K (.builtin "object.__class__") "__get__" = some (some (.builtin "getset_descriptor.__get__"))
  htk : PySem.W.takesIn K (.builtin "object.__class__") = some true
  hm : PySem.W.mroIn K C (.type "object") = some true
theorem RTy.ty {H : Hp} {p dx : Addr} {fs : List (Str × V)} (t : RTy K C) (c : Cls K C) (h : H p = some (.ins C dx fs)) : TyX K H (.ref p) (.ref C) := .base (.ins h c t.ha t.hn t.htk t.hm)
theorem kit_self {K : PySem.W.Frag} (t : Value) : PySem.W.kitOne K t t = some true := by
  unfold PySem.W.kitOne
  rw [if_pos (by simp)]
def spEq (C : Addr) : Sp := fun vs H Q _ => ∃ x y q r, vs = [x, y] ∧ RatV C H x q ∧ RatV C H y r ∧ Q (.bl (decide (q = r))) H
theorem scEq : FnScope ["self", "other"] ["self", "other"] (defScope sEq) := ⟨rfl, rfl, rfl, by decide +kernel, rfl, by decide +kernel, by decide +kernel⟩
theorem rat_eq_iff (q r : Rat) : q = r ↔ q.num = r.num ∧ (q.den : Int) = r.den := by
  constructor
  · rintro rfl
    exact ⟨rfl, rfl⟩
  · rintro ⟨a, b⟩
    exact Rat.ext a (by omega)
theorem ok_eq (B : Bl mg) (T : RT K mg C CI fI fD) (Y : RTy K C) (F : FnP K "__eq__" "Ratio.__eq__" sEq f fd) : FnOk P w K mg base CX0 1 f fd ["self", "other"] (spEq C) := by
  refine F.ok scEq (fun vs H Q E h => ?_) (fun cdv A outer s H vs Q E hr h => ?_)
  · obtain ⟨x, y, q, r, rfl, _⟩ := h
    rfl
  · obtain ⟨x, y, q, r, rfl, ⟨p, rfl, dx, hx⟩, ⟨p', rfl, dx', hy⟩, k⟩ := h
    refine ⟨_, PSs.nox (pss_cons (ps_if (pt_not (pt_val (pe_callB call_isi (by rfl) B.isinstance boot_isinstance (pa_cons (pv 1) (pa_cons (pe_glob (v := .ref C) (by rfl) T.mgC rfl) pa_nil))))) (pss_one (ps_ret pe_bl)) pss_nil)
      (pss_one (ps_ret (pe_and (pe_cmpR op_eq (pe_fld (pv 0) rfl) (pe_fld (pv 1) rfl) (nomark _)) (pe_one (pe_cmpR op_eq (pe_fld (pv 0) rfl) (pe_fld (pv 1) rfl) (nomark _))))))), ?_⟩
    refine ⟨_, rfl, _, _, _, _, true, rfl, .own C, Y.ty T.cl hy, kit_self _, true, rfl, iteF ?_⟩
    refine ⟨_, rfl, p, C, dx, _, _, rfl, hx, T.cl, T.nT, rf_top _ _, _, rfl, p', C, dx', _, _, rfl, hy, T.cl, T.nT, rf_top _ _, rfl, _, rfl, ite2 (fun e => ?_) (fun e => ?_)⟩
    · have e1 : q.num = r.num := V.int.inj (of_decide_eq_true e)
      refine ⟨_, rfl, p, C, dx, _, _, rfl, hx, T.cl, T.nB, rf_bottom _ _, _, rfl, p', C, dx', _, _, rfl, hy, T.cl, T.nB, rf_bottom _ _, rfl, ?_⟩
      have e2 : decide (V.int (q.den : Int) = V.int (r.den : Int)) = decide (q = r) := by
        rw [decide_eq_decide, rat_eq_iff q r]
        exact ⟨fun z => ⟨e1, V.int.inj z⟩, fun z => by rw [z.2]⟩
      rw [e2]
      exact k
    · have e1 : ¬ q = r := fun z => e (decide_eq_true (by rw [z]))
      rw [decide_eq_false e1] at k
      exact k
end
end BF
set_option maxHeartbeats 4000000
namespace BF
open PySem PySem.Spec PyProof.Rows L2
section
variable {P : Program} {w : World} {K : PySem.W.Frag} {mg : Str → Option Value} {base : Heap} {CX : CXT} {f : Addr} {fd : FuncData} {C CI fI fD : Addr}
/-! ### repr -/
def rtxt (q : Rat) : Str := Str.empty ++ "Ratio(" ++ (toString q.num : String) ++ ", " ++ (toString (q.den : Int) : String) ++ ")"
def Shown (q : Rat) : Prop := q.num.natAbs.log2 < 1920 ∧ ((q.den : Int)).natAbs.log2 < 1920
def spRepr (C : Addr) : Sp := fun vs H Q _ => ∃ x q, vs = [x] ∧ RatV C H x q ∧ Shown q ∧ Q (.str (rtxt q)) H
theorem scRepr : FnScope ["self"] ["self"] (defScope sRepr) := ⟨rfl, rfl, rfl, by decide +kernel, rfl, by decide +kernel, by decide +kernel⟩
theorem slen (a b : Str) : (a ++ b).length = a.length + b.length := PySem.strLen_append a b
theorem ok_repr (T : RT K mg C CI fI fD) (F : FnP K "__repr__" "Ratio.__repr__" sRepr f fd) : FnOk P w K mg base CX0 1 f fd ["self"] (spRepr C) := by
  refine F.ok scRepr (fun vs H Q E h => ?_) (fun cdv A outer s H vs Q E hr h => ?_)
  · obtain ⟨x, q, rfl, _⟩ := h
    rfl
  · obtain ⟨x, q, rfl, ⟨p, rfl, dx, hx⟩, ⟨s1, s2⟩, k⟩ := h
    have l1 := int_text_len_1921 s1
    have l2 := int_text_len_1921 s2
    have z0 : (Str.empty : Str).length = 0 := rfl
    have z1 : ((("Ratio(" : String) : Str)).length = 6 := rfl
    have z2 : (((", " : String) : Str)).length = 2 := rfl
    have z3 : (((")" : String) : Str)).length = 1 := rfl
    have sl : sizeLine = 16777216 := by decide
    refine ⟨_, PSs.nox (pss_one (ps_ret (pe_joined (.cons pe_str (.cons (pe_fmt (pe_fld (pv 0) rfl)) (.cons pe_str (.cons (pe_fmt (pe_fld (pv 0) rfl)) (.cons pe_str .nil)))))))), ?_⟩
    refine ⟨_, rfl, by decide, _, rfl, p, C, dx, _, _, rfl, hx, T.cl, T.nT, rf_top _ _, .inr ⟨_, rfl, s1, _, rfl, ?_, ?_⟩⟩
    · simp only [slen]; omega
    refine ⟨_, rfl, ?_, _, rfl, p, C, dx, _, _, rfl, hx, T.cl, T.nB, rf_bottom _ _, .inr ⟨_, rfl, s2, _, rfl, ?_, _, rfl, ?_, k⟩⟩
    all_goals (simp only [slen]; omega)

/-! ### of -/
/-- a number: an integer or a fraction -/
def Num (C : Addr) (H : Hp) (v : V) (q : Rat) : Prop := RatV C H v q ∨ ∃ i : Int, v = .int i ∧ q = Rat.divInt i 1 ∧ i.natAbs < 2 ^ 8000
theorem Num.up {H H' : Hp} {v : V} {q : Rat} (h : Num C H v q) (s : Same H H') : Num C H' v q := h.imp (fun z => z.up s) id
structure RT2 (K : PySem.W.Frag) (C fN pO fO : Addr) : Prop where
  mkr : Mk K C fN
  cr : ClX.CRead K C tyT
  cm : ClX.CMet K C tyT "of" pO fO
  iC : PySem.W.kitOne K (.type "int") (.ref C) = some false
def spOf (C : Addr) : Sp := fun vs H Q _ => ∃ v q, vs = [.ref C, v] ∧ Num C H v q ∧ ∀ H' v', Same H H' → RatV C H' v' q → Q v' H'
theorem scOf : FnScope ["cls", "number"] ["cls", "number"] (defScope sOf) := ⟨rfl, rfl, rfl, by decide +kernel, rfl, by decide +kernel, by decide +kernel⟩
theorem one8 : (1 : Int).natAbs < 2 ^ 8000 := Nat.one_lt_two_pow (by decide)
/-- a fraction made: what __init__ leaves -/
theorem made {H : Hp} {t b : Int} {Q : VK} (k : ∀ H' v', Same H H' → RatV C H' v' (Rat.divInt t b) → Q v' H') :
    ∀ x dx : Addr, H x = none → H dx = none → dx ≠ x → Q (.ref x) (upd (upd (upd H dx (.own x)) x (.ins C dx [])) x (.ins C dx (rf (Rat.divInt t b).num (Rat.divInt t b).den))) := by
  intro x dx nx nd ne
  refine k _ _ (fun a o e => ?_) ⟨x, rfl, dx, upd_same⟩
  have n1 := ne_of_none e nx
  rw [upd_ne n1, upd_ne n1, upd_ne (ne_of_none e nd)]
  exact e
theorem ok_of {fN fO pO : Addr} {fdI fdD fdN : FuncData} (B : Bl mg) (T : RT K mg C CI fI fD) (Y : RTy K C) (T2 : RT2 K C fN pO fO) (FI : FnP K "is_integer" "is_integer" sIsInt fI fdI) (FD : FnP K "divisor" "divisor" sDivisor fD fdD)
    (FN : FunD K "__init__" "Ratio.__init__" (defArgs sInit) (defBody sInit) (defScope sInit) [.int 1] [] fN fdN)
    (F : FnP K "of" "Ratio.of" sOf f fd) : FnOk P w K mg base (L2.CX P w) 4 f fd ["cls", "number"] (spOf C) := by
  have GN : FnOk P w K mg base (L2.CX P w) 2 fN fdN ["self", "top", "bottom"] (spInit K C CI) := ok_init B T FI FD FN
  obtain ⟨ds, hds, bN⟩ := FN.binds1 (ps := ["self", "top", "bottom"]) 2 0 (List.cons_ne_nil _ _) rfl fun _ _ _ _ _ _ _ us its hu hi => match us, its, hu, hi with | [_, _], [_], _, _ => ⟨_, rfl, rfl⟩
  refine F.ok scOf (fun vs H Q E h => ?_) (fun cdv A outer s H vs Q E hr h => ?_)
  · obtain ⟨v, q, rfl, _⟩ := h
    rfl
  · obtain ⟨v, q, rfl, hv, k⟩ := h
    refine ⟨_, pss_cons (ps_if (pt_val (pe_callB call_isi (by rfl) B.isinstance boot_isinstance (pa_cons (pv 1) (pa_cons (pe_glob (v := .ref C) (by rfl) T.mgC rfl) pa_nil)))) (pss_one (ps_ret (pv 1))) pss_nil)
      (pss_one (ps_ret (pe_make T2.mkr GN hr (by rfl) T.mgC bN hds passL (pa_cons (pv 1) pa_nil)))), ?_⟩
    rcases hv with hv | ⟨i, rfl, rfl, h8⟩
    · obtain ⟨p, rfl, dx, hp⟩ := id hv
      exact ⟨_, rfl, _, _, _, _, true, rfl, .own C, Y.ty T.cl hp, kit_self _, true, rfl, iteT ⟨_, rfl, k H _ (Same.refl H) hv⟩⟩
    · refine ⟨_, rfl, _, _, _, _, false, rfl, .own C, .base (.int i), T2.iC, false, rfl, iteF ⟨_, rfl, fun x dx nx nd ne => ?_⟩⟩
      exact ⟨x, dx, _, _, rfl, upd_same, .inl ⟨i, 1, rfl, rfl, by decide, h8, one8, rfl, made k x dx nx nd ne⟩⟩
end
end BF
set_option maxHeartbeats 4000000
namespace BF
open PySem PySem.Spec PyProof.Rows L2
abbrev sPen : Stmt := top 19
abbrev sDraw : Stmt := top 20
section
variable {P : Program} {w : World} {K : PySem.W.Frag} {mg : Str → Option Value} {base : Heap} {CX : CXT} {f : Addr} {fd : FuncData}
theorem scPen : FnScope ["_law_script"] ["_law_script"] (defScope sPen) := ⟨rfl, rfl, rfl, by decide +kernel, rfl, by decide +kernel, by decide +kernel⟩
theorem ok_pen (B : Bl mg) (F : FnP K "_law_pen" "_law_pen" sPen f fd) : FnOk P w K mg base CX0 1 f fd ["_law_script"] (spPen K) := by
  refine F.ok scPen (fun vs H Q E h => ?_) (fun cdv A outer s H vs Q E hr h => ?_)
  · obtain ⟨a, ns, rfl, _⟩ := h
    rfl
  · obtain ⟨a, ns, rfl, hS, k⟩ := h
    refine ⟨_, PSs.nox (pss_one (ps_ret (pe_lst (pa_cons (pe_callTy call_list_of (by rfl) B.list boot_list (pa_cons (pe_slice sl_list (pv 0) po_none (po_some pe_int)) pa_nil)) (pa_cons pe_int (pa_cons pe_int pa_nil)))))), ?_⟩
    refine ⟨_, rfl, _, rfl, a, _, rfl, hS, fun p hp => ?_⟩
    refine ⟨p, _, rfl, .inl (SqL.of upd_same), fun l hl => ?_⟩
    refine ⟨by show 3 ≤ sizeLine; decide, fun t ht => ?_⟩
    have s1 := same_upd (o := .lst (cutV (ns.map V.int) none (some 63))) hp
    have s2 := same_upd (o := .lst (cutV (ns.map V.int) none (some 63))) hl
    have s3 := same_upd (o := .lst [.ref l, .int 0, .int 0]) ht
    refine k _ t l ((s1.trans s2).trans s3) (Same.free (s1.trans s2) ht) ⟨ns.take 63, 0, 0, upd_same, ?_, ?_, Nat.le_refl _, Int.le_refl _⟩
    · refine s3 _ _ ?_
      rw [upd_same]
      have e : cutV (ns.map V.int) none (some 63) = (ns.take 63).map V.int := by
        unfold cutV
        have e1 : HT.sIx (ns.map V.int).length (ns.map V.int).length (some 63) = min 63 (ns.map V.int).length := HT.sIx_nat _ _ 63
        rw [HT.sIx_none, e1]
        simp only [List.drop_zero, Nat.sub_zero, List.map_take]
        rw [List.take_eq_take_iff]
        omega
      rw [e]
    · rw [List.length_take]
      omega
theorem ret_mod {Q : VK} {H : Hp} {x m : Int} (h : 0 < m) (k : ∀ d : Nat, (d : Int) < m → Q (.int d) H) : Q (.int (x % m)) H := by
  obtain ⟨d, e, hd⟩ := drawn x h
  rw [e]
  exact k d hd
theorem scDraw : FnScope ["_law_pen_here", "_law_many", "_law_digit", "_law_at", "_law_cell", "_law_great", "_law_mixed"] ["_law_pen_here", "_law_many"] (defScope sDraw) := ⟨rfl, rfl, rfl, by decide +kernel, rfl, by decide +kernel, by decide +kernel⟩
theorem ok_draw (B : Bl mg) (F : FnP K "_law_draw" "_law_draw" sDraw f fd) : FnOk P w K mg base CX0 1 f fd ["_law_pen_here", "_law_many"] spDraw := by
  refine F.ok scDraw (fun vs H Q E h => ?_) (fun cdv A outer s H vs Q E hr h => ?_)
  · obtain ⟨P, c, k, m, rfl, _⟩ := h
    rfl
  · obtain ⟨P, c, k, m, rfl, ⟨ns, n, lf, hP, hc, hns, hn, hlf⟩, hk, m0, m1, q⟩ := h
    refine ⟨_, PSs.nox (pss_cons (ps_if (pt_cmpR op_gt (pe_ix ix_list (pv 0) pe_int (fun _ _ => rfl)) pe_int (nomark _))
        (pss_cons (ps_set (i := 2) scDraw.nd rfl (.inl rfl) (pe_op op_mod (pe_callTy call_int1 (by rfl) B.int boot_int (pa_cons (pe_ix ix_list (pv 0) pe_int (fun _ _ => rfl)) pa_nil)) (pv 1)))
        (pss_cons (ps_asg (pe_op op_fdiv (pe_callTy call_int1 (by rfl) B.int boot_int (pa_cons (pe_ix ix_list (pv 0) pe_int (fun _ _ => rfl)) pa_nil)) (pv 1)) (pg_sub (pv 0) pe_int set_list))
        (pss_one (ps_ret (pv 2))))) pss_nil)
      (pss_cons (ps_set (i := 3) scDraw.nd rfl (.inl rfl) (pe_ix ix_list (pv 0) pe_int (fun _ _ => rfl)))
      (pss_cons (ps_asg (pe_op op_add (pv 3) pe_int) (pg_sub (pv 0) pe_int set_list))
      (pss_cons (ps_set (i := 4) scDraw.nd rfl (.inl rfl) (pe_op op_add (pe_op op_mul pe_int (pv 3)) pe_int))
      (C8.pss_cut (ps_if (pt_cmpR (op_neD hr.units) (pe_ix ix_list (pv 0) pe_int (fun _ _ => rfl)) (pe_lst pa_nil) (nomark _))
        (pss_one (ps_set (i := 4) scDraw.nd rfl (.inl rfl) (pe_ix ix_list (pe_ix ix_list (pv 0) pe_int (fun _ _ => rfl)) (pe_op op_mod (pe_callTy call_int1 (by rfl) B.int boot_int (pa_cons (pv 3) pa_nil)) (pe_callB call_len_seq (by rfl) B.len PySem.boot_len (pa_cons (pe_ix ix_list (pv 0) pe_int (fun _ _ => rfl)) pa_nil))) (fun _ _ => rfl)))) pss_nil)
      (C8.pss_cut (ps_if (PW.pt (pw_and (pt_cmpR op_lt (pv 3) (pe_callB call_len_seq (by rfl) B.len PySem.boot_len (pa_cons (pe_ix ix_list (pv 0) pe_int (fun _ _ => rfl)) pa_nil)) (nomark _))
          (pw_and1 (pt_cmpR op_ge (pe_callB call_abs (by rfl) B.abs (by decide +kernel) (pa_cons (pv 4) pa_nil)) (pe_op op_pow pe_int pe_int) (nomark _)))))
        (pss_cons (ps_set (i := 5) scDraw.nd rfl (.inl rfl) (pe_op op_add (pe_op op_mul pe_int (pe_callB call_abs (by rfl) B.abs (by decide +kernel) (pa_cons (pv 4) pa_nil))) (pe_callTy call_int1 (by rfl) B.int boot_int (pa_cons (pe_cmpR op_lt (pv 4) pe_int (nomark _)) pa_nil))))
        (pss_cons (ps_asg (pe_op op_fdiv (pv 5) (pv 1)) (pg_sub (pv 0) pe_int set_list))
        (pss_one (ps_ret (pe_op op_mod (pe_callTy call_int1 (by rfl) B.int boot_int (pa_cons (pv 5) pa_nil)) (pv 1)))))) pss_nil)
      (C8.pss_cut (ps_set (i := 6) scDraw.nd rfl (.inl rfl) (pe_op op_mod (pe_op op_pow (pe_callTy call_int1 (by rfl) B.int boot_int (pa_cons (pe_op op_add (pe_op op_add (pe_op op_mod (pe_callTy call_int1 (by rfl) B.int boot_int (pa_cons (pv 4) pa_nil)) pe_int) (pe_op op_mul pe_int (pv 3))) pe_int) pa_nil)) pe_int) pe_int))
      (C8.pss_cut (ps_set (i := 6) scDraw.nd rfl (.inl rfl) (pe_op op_mod (pe_op op_pow (pe_callTy call_int1 (by rfl) B.int boot_int (pa_cons (pe_op op_add (pe_op op_add (pe_op op_mul (pv 6) (pe_op op_add (pe_op op_mul pe_int (pv 3)) pe_int)) (pe_op op_mul (pe_op op_mul pe_int (pv 3)) (pv 3))) pe_int) pa_nil)) pe_int) pe_int))
      (pss_one (ps_ret (pe_op op_mod (pe_callTy call_int1 (by rfl) B.int boot_int (pa_cons (pe_op op_fdiv (pv 6) pe_int) pa_nil)) (pv 1)))))))))))), ?_⟩
    have g0 : atI [V.ref c, .int n, .int lf] 0 = some (.ref c) := rfl
    have g1 : atI [V.ref c, .int n, .int lf] 1 = some (.int n) := rfl
    have g2 : atI [V.ref c, .int n, .int lf] 2 = some (.int lf) := rfl
    have cP : c ≠ P := Pen.ne hP hc
    refine ⟨_, rfl, P, _, 2, _, rfl, rfl, SqL.of hP, g2, _, _, rfl, rfl, _, rfl, ite2 (fun hl => ?_) (fun hl => ?_)⟩
    · obtain ⟨d, ed, hd⟩ := drawn lf m0
      have hl0 : (0 : Int) < lf := of_decide_eq_true hl
      refine ⟨_, rfl, P, _, 2, _, rfl, rfl, SqL.of hP, g2, .inl ⟨lf, rfl, _, rfl, _, _, rfl, rfl, m0, ?_⟩⟩
      refine ⟨_, rfl, P, _, 2, _, rfl, rfl, SqL.of hP, g2, .inl ⟨lf, rfl, _, rfl, _, _, rfl, rfl, ⟨m0, m1⟩, _, rfl, P, _, 2, 2, rfl, rfl, hP, rfl, ?_⟩⟩
      refine ⟨_, rfl, ?_⟩
      show Q (V.int (lf % m)) _
      rw [ed]
      refine q _ d (Off.upd _) ⟨ns, n, lf / m, upd_same, ?_, hns, by omega, Int.ediv_nonneg (by omega) (by omega)⟩ hd
      rw [upd_ne cP]
      exact hc
    · refine ?_
      refine ⟨_, rfl, P, _, 1, _, rfl, rfl, SqL.of hP, g1, ?_⟩
      refine ⟨_, rfl, _, _, rfl, rfl, _, rfl, P, _, 1, 1, rfl, rfl, hP, rfl, ?_⟩
      have hP1 : (upd H P (.lst [.ref c, .int ((n : Int) + 1), .int lf])) P = some (.lst [.ref c, .int ((n : Int) + 1), .int lf]) := upd_same
      have hc1 : (upd H P (.lst [.ref c, .int ((n : Int) + 1), .int lf])) c = some (.lst (ns.map V.int)) := (upd_ne cP).trans hc
      have o1 : Off P H (upd H P (.lst [.ref c, .int ((n : Int) + 1), .int lf])) := Off.upd _
      have f0 : ∀ {j l : Int}, atI [V.ref c, .int j, .int l] 0 = some (.ref c) := rfl
      refine ⟨_, rfl, _, _, rfl, rfl, .inl ⟨by decide, by decide⟩, _, _, rfl, rfl, ?_⟩
      refine ⟨fun σ' H' => ∃ z : Int, σ' = [some (.ref P), some (.int m), none, some (.int n), some (.int z), none, none] ∧ Same (upd H P (.lst [.ref c, .int ((n : Int) + 1), .int lf])) H', ?_, ?_⟩
      · refine ⟨_, rfl, P, _, 0, _, rfl, rfl, SqL.of hP1, f0, Nat.zero_le _, fun e he => ?_⟩
        have s1 := same_upd (o := .lst []) he
        refine ⟨.list (ns.map PyData.int), .list [], .lst (SqL.of (s1 _ _ hc1)) (dp_ints _ _ ns), .lst (SqL.of upd_same) .nil, shaped_ints ns, shaped_ints [], _, rfl, ?_⟩
        rw [eqv_ints_nil]
        cases ns with
        | nil => exact iteF ⟨_, rfl, s1⟩
        | cons n0 nr =>
          have L1 : (0 : Int) < (((n0 :: nr).map V.int).length : Int) := by simp only [List.map_cons, List.length_cons]; omega
          obtain ⟨j, ej, hj⟩ := drawn (n : Int) L1
          have hj2 : j < (n0 :: nr).length := by rw [List.length_map] at hj; omega
          refine iteT ⟨_, rfl, P, _, 0, _, rfl, rfl, SqL.of (s1 _ _ hP1), f0, _, rfl, .inl ⟨_, rfl, _, rfl, P, _, 0, _, rfl, rfl, SqL.of (s1 _ _ hP1), f0, c, _, rfl, .inl (SqL.of (s1 _ _ hc1)), _, _, rfl, rfl, L1, c, _, j, .int ((n0 :: nr)[j]), rfl, congrArg V.int ej, SqL.of (s1 _ _ hc1), atI_nat ?_, ?_⟩⟩
          · rw [List.getElem?_map, List.getElem?_eq_getElem hj2]
            rfl
          · exact ⟨_, rfl, s1⟩
      · rintro σ' H' ⟨z, rfl, s2⟩
        have hP2 := s2 _ _ hP1
        have hc2 := s2 _ _ hc1
        have o2 : Off P H H' := o1.trans (Off.of s2)
        have at_ : ∀ z : Int, (if z < 0 then -z else z) = (z.natAbs : Int) := fun z => by split <;> omega
        have pen : ∀ l : Int, 0 ≤ l → Pen (upd H' P (.lst [.ref c, .int ((n : Int) + 1), .int l])) P c (k + 1) := fun l hl => ⟨ns, n + 1, l, upd_same, (upd_ne cP).trans hc2, hns, by omega, hl⟩
        refine ⟨fun σ2 H2 => σ2 = [some (.ref P), some (.int m), none, some (.int n), some (.int z), none, none] ∧ H2 = H', ?_, ?_⟩
        · refine ⟨_, rfl, _, rfl, P, _, 0, _, rfl, rfl, SqL.of hP2, f0, c, _, rfl, .inl (SqL.of hc2), _, _, rfl, rfl, _, rfl, ite2 (fun _ => ?_) (fun _ => iteF ⟨rfl, rfl⟩)⟩
          refine ⟨_, rfl, z, rfl, _, _, rfl, rfl, ⟨by decide, by decide, by decide⟩, _, _, rfl, rfl, _, rfl, ite2 (fun _ => ?_) (fun _ => ⟨rfl, rfl⟩)⟩
          refine ⟨_, rfl, z, rfl, _, _, rfl, rfl, .inl ⟨by decide, by decide⟩, _, rfl, _, _, rfl, rfl, .inr ⟨_, rfl, _, _, rfl, rfl, ?_⟩⟩
          refine ⟨_, rfl, _, rfl, _, _, rfl, rfl, ⟨m0, m1⟩, _, rfl, P, _, 2, 2, rfl, rfl, hP2, rfl, ?_⟩
          have big : (0 : Int) ≤ 2 * (if z < 0 then -z else z) + (if decide (z < 0) = true then 1 else 0) := by
            rw [at_]
            split <;> omega
          obtain ⟨d, ed, hd⟩ := drawn (2 * (if z < 0 then -z else z) + (if decide (z < 0) = true then 1 else 0)) m0
          refine ⟨_, rfl, .inl ⟨_, rfl, _, rfl, _, _, rfl, rfl, m0, ?_⟩⟩
          show Q (V.int ((2 * (if z < 0 then -z else z) + (if decide (z < 0) = true then 1 else 0)) % m)) _
          rw [ed]
          exact q _ d (o2.trans (Off.upd _)) (pen _ (Int.ediv_nonneg big (by omega))) hd
        · rintro σ2 H2 ⟨rfl, rfl⟩
          have hn6 : (0 : Int) ≤ n ∧ (n : Int) ≤ 1000000 := by omega
          refine ⟨fun σ3 H3 => ∃ x : Int, σ3 = [some (.ref P), some (.int m), none, some (.int n), some (.int z), none, some (.int x)] ∧ H3 = H2 ∧ 0 ≤ x ∧ x ≤ 2147483647, ?_, ?_⟩
          · refine ⟨_, rfl, .inl ⟨z, rfl, _, _, rfl, rfl, by show (0 : Int) < _; decide, _, rfl, _, _, rfl, rfl, .inl ⟨by decide, by decide⟩, _, _, rfl, rfl, _, _, rfl, rfl, .inl ⟨_, rfl, _, _, rfl, rfl, ⟨by decide, by decide, ?_⟩, _, _, rfl, rfl, by show (0 : Int) < _; decide, ?_⟩⟩⟩
            · exact mix1 _ _ hn6 (by decide) _ (by decide)
            · exact ⟨_, rfl, rfl, Int.emod_nonneg _ (by decide), Int.le_of_lt (Int.lt_of_lt_of_le (Int.emod_lt_of_pos _ (by decide)) (by decide))⟩
          rintro σ3 H3 ⟨x, rfl, rfl, x0, x1⟩
          refine ⟨fun σ4 H4 => ∃ y : Int, σ4 = [some (.ref P), some (.int m), none, some (.int n), some (.int z), none, some (.int y)] ∧ H4 = H3, ?_, ?_⟩
          · refine ⟨_, rfl, _, rfl, _, _, rfl, rfl, .inl ⟨by decide, by decide⟩, _, _, rfl, rfl, _, _, rfl, rfl, .inl ⟨by omega, by omega⟩, _, rfl, _, _, rfl, rfl, .inl ⟨by decide, by decide⟩, _, rfl, _, _, rfl, rfl, .inr ⟨by omega, by omega⟩, _, _, rfl, rfl, _, _, rfl, rfl, .inl ⟨_, rfl, _, _, rfl, rfl, ⟨by decide, by decide, ?_⟩, _, _, rfl, rfl, by show (0 : Int) < _; decide, ?_⟩⟩
            · exact mix2 _ _ _ hn6 ⟨x0, x1⟩ (by decide)
            · exact ⟨_, rfl, rfl⟩
          rintro σ4 H4 ⟨y, rfl, rfl⟩
          refine ⟨_, rfl, _, _, rfl, rfl, ⟨by decide, by decide⟩, .inl ⟨_, rfl, _, rfl, _, _, rfl, rfl, m0, ?_⟩⟩
          exact ret_mod m0 fun d hd => q H4 d o2 ⟨ns, n + 1, lf, hP2, hc2, hns, by omega, hlf⟩ hd
end
end BF
set_option maxHeartbeats 4000000
set_option exponentiation.threshold 10000
/-! The class Ratio whole: its operators, and all its facts in one. -/
namespace BF
open PySem PySem.Spec PyProof.Rows L2
abbrev sAdd : Stmt := inClass sRatio 5
abbrev sSub : Stmt := inClass sRatio 6
abbrev sMul : Stmt := inClass sRatio 7
abbrev sOver : Stmt := inClass sRatio 4
theorem pe_dead {X : Cx} {e : Expr} : PE X e (fun _ _ _ => False) := ⟨fun _ _ _ _ _ _ h => h.elim⟩
section
variable {P : Program} {w : World} {K : PySem.W.Frag} {mg : Str → Option Value} {base : Heap} {CX : CXT} {f : Addr} {fd : FuncData} {C CI fI fD : Addr}
/-! ### sizes of sums and products -/
theorem bd_parts {n m : Nat} {q r : Rat} (hq : Bd n q) (hr : Bd m r) : (q.num * (r.den : Int)).natAbs < 2 ^ (n + m) ∧ (r.num * (q.den : Int)).natAbs < 2 ^ (n + m) ∧ (q.num * r.num).natAbs < 2 ^ (n + m) ∧ ((q.den : Int) * (r.den : Int)).natAbs < 2 ^ (n + m) := by
  rw [Int.natAbs_mul, Int.natAbs_mul, Int.natAbs_mul, Int.natAbs_mul, Nat.pow_add, Int.natAbs_natCast, Int.natAbs_natCast]
  have h1 := hq.1
  have h2 := hq.2
  have h3 := hr.1
  have h4 := hr.2
  refine ⟨Nat.mul_lt_mul'' h1 h4, ?_, Nat.mul_lt_mul'' h1 h3, Nat.mul_lt_mul'' h2 h4⟩
  rw [Nat.mul_comm (2 ^ n)]
  exact Nat.mul_lt_mul'' h3 h2
theorem dd_ne (q r : Rat) : (q.den : Int) * (r.den : Int) ≠ 0 := by
  have := q.den_pos
  have := r.den_pos
  exact Int.mul_ne_zero (by omega) (by omega)
theorem add_divInt (q r : Rat) : Rat.divInt (q.num * (r.den : Int) + r.num * (q.den : Int)) ((q.den : Int) * (r.den : Int)) = q + r := by
  rw [Rat.add_def', ← Rat.divInt_ofNat]
  norm_cast
theorem sub_divInt (q r : Rat) : Rat.divInt (q.num * (r.den : Int) - r.num * (q.den : Int)) ((q.den : Int) * (r.den : Int)) = q - r := by
  rw [Rat.sub_def', ← Rat.divInt_ofNat]
  norm_cast
theorem mul_divInt (q r : Rat) : Rat.divInt (q.num * r.num) ((q.den : Int) * (r.den : Int)) = q * r := by
  rw [Rat.mul_def', ← Rat.divInt_ofNat]
  norm_cast
theorem over_divInt (q r : Rat) : Rat.divInt (q.num * (r.den : Int)) ((q.den : Int) * r.num) = q / r := by
  rw [← Rat.divInt_mul_divInt, Rat.num_divInt_den, Rat.div_def, ← Rat.inv_def]
theorem bd_sum {n m : Nat} {q r : Rat} (hq : Bd n q) (hr : Bd m r) : (q.num * (r.den : Int) + r.num * (q.den : Int)).natAbs < 2 ^ (n + m + 1) ∧ (q.num * (r.den : Int) - r.num * (q.den : Int)).natAbs < 2 ^ (n + m + 1) ∧ ((q.den : Int) * (r.den : Int)).natAbs < 2 ^ (n + m + 1) := by
  obtain ⟨a, b, _, d⟩ := bd_parts hq hr
  have e : 2 ^ (n + m + 1) = 2 ^ (n + m) * 2 := Nat.pow_succ 2 (n + m)
  refine ⟨?_, ?_, ?_⟩ <;> omega
theorem Bd.add {n m : Nat} {q r : Rat} (hq : Bd n q) (hr : Bd m r) : Bd (n + m + 1) (q + r) := by
  rw [← add_divInt]
  exact bd_divInt (dd_ne q r) (bd_sum hq hr).1 (bd_sum hq hr).2.2
theorem Bd.sub {n m : Nat} {q r : Rat} (hq : Bd n q) (hr : Bd m r) : Bd (n + m + 1) (q - r) := by
  rw [← sub_divInt]
  exact bd_divInt (dd_ne q r) (bd_sum hq hr).2.1 (bd_sum hq hr).2.2
theorem Bd.mul {n m : Nat} {q r : Rat} (hq : Bd n q) (hr : Bd m r) : Bd (n + m) (q * r) := by
  rw [← mul_divInt]
  exact bd_divInt (dd_ne q r) (bd_parts hq hr).2.2.1 (bd_parts hq hr).2.2.2
theorem Bd.div {n m : Nat} {q r : Rat} (hq : Bd n q) (hr : Bd m r) (h : r ≠ 0) : Bd (n + m) (q / r) := by
  rw [← over_divInt]
  have hz : r.num ≠ 0 := fun z => h (Rat.num_eq_zero.mp z)
  have hd := q.den_pos
  exact bd_divInt (Int.mul_ne_zero (by omega) hz) (bd_parts hq hr).1 (by rw [Int.mul_comm]; exact (bd_parts hq hr).2.1)
theorem p8 {n k : Nat} (h : n < 2 ^ k) (l : k ≤ 8000) : n < 2 ^ 8000 := Nat.lt_of_lt_of_le h (pow_mono l)
/-! ### the operators -/
def spOp (g : Rat → Rat → Rat) (C : Addr) : Sp := fun vs H Q _ => ∃ x y q r n m, vs = [x, y] ∧ RatV C H x q ∧ RatV C H y r ∧ Bd n q ∧ Bd m r ∧ n + m + 1 ≤ 8000 ∧ ∀ H' v, Same H H' → RatV C H' v (g q r) → Q v H'
def spOver (C CQ : Addr) : Sp := fun vs H Q E => ∃ x y q r n m, vs = [x, y] ∧ RatV C H x q ∧ RatV C H y r ∧ Bd n q ∧ Bd m r ∧ n + m + 1 ≤ 8000 ∧ (r ≠ 0 ∧ (∀ H' v, Same H H' → RatV C H' v (q / r) → Q v H') ∨ r = 0 ∧ E (.ref CQ) none H)
theorem scAdd : FnScope ["self", "other"] ["self", "other"] (defScope sAdd) := ⟨rfl, rfl, rfl, by decide +kernel, rfl, by decide +kernel, by decide +kernel⟩
theorem scSub : FnScope ["self", "other"] ["self", "other"] (defScope sSub) := ⟨rfl, rfl, rfl, by decide +kernel, rfl, by decide +kernel, by decide +kernel⟩
theorem scMul : FnScope ["self", "other"] ["self", "other"] (defScope sMul) := ⟨rfl, rfl, rfl, by decide +kernel, rfl, by decide +kernel, by decide +kernel⟩
theorem scOver : FnScope ["self", "other"] ["self", "other"] (defScope sOver) := ⟨rfl, rfl, rfl, by decide +kernel, rfl, by decide +kernel, by decide +kernel⟩
/-- Ratio(t, b): what is left to say -/
theorem mk2 {H : Hp} {t b : Int} {Q : VK} {E : XK} (hb : b ≠ 0) (h1 : t.natAbs < 2 ^ 8000) (h2 : b.natAbs < 2 ^ 8000) (k : ∀ H' v', Same H H' → RatV C H' v' (Rat.divInt t b) → Q v' H') :
    ∀ x dx : Addr, H x = none → H dx = none → dx ≠ x → spInit K C CI (V.ref x :: ([V.int t, V.int b] ++ [])) (upd (upd H dx (.own x)) x (.ins C dx [])) (fun v H2 => v = .non ∧ Q (.ref x) H2) E := by
  intro x dx nx nd ne
  exact ⟨x, dx, _, _, rfl, upd_same, .inl ⟨t, b, rfl, rfl, hb, h1, h2, rfl, made k x dx nx nd ne⟩⟩
theorem mk1 {H : Hp} {t : Int} {Q : VK} {E : XK} (h1 : t.natAbs < 2 ^ 8000) (k : ∀ H' v', Same H H' → RatV C H' v' (t : Rat) → Q v' H') :
    ∀ x dx : Addr, H x = none → H dx = none → dx ≠ x → spInit K C CI (V.ref x :: ([V.int t] ++ [.int 1])) (upd (upd H dx (.own x)) x (.ins C dx [])) (fun v H2 => v = .non ∧ Q (.ref x) H2) E := by
  intro x dx nx nd ne
  have e : Rat.divInt t 1 = (t : Rat) := by
    rw [Rat.divInt_eq_div]
    grind
  exact ⟨x, dx, _, _, rfl, upd_same, .inl ⟨t, 1, rfl, rfl, by decide, h1, one8, rfl, made (e ▸ k) x dx nx nd ne⟩⟩
theorem ok_add {fN : Addr} {fdN : FuncData} (B : Bl mg) (T : RT K mg C CI fI fD) (Y : RTy K C) (mk : Mk K C fN) (GN : FnOk P w K mg base (L2.CX P w) 2 fN fdN ["self", "top", "bottom"] (spInit K C CI)) (bN : Binds K fdN ["self", "top", "bottom"] [])
    (F : FnP K "__add__" "Ratio.__add__" sAdd f fd) : FnOk P w K mg base CX0 4 f fd ["self", "other"] (spOp (· + ·) C) := by
  refine F.ok scAdd (fun vs H Q E h => ?_) (fun cdv A outer s H vs Q E hr h => ?_)
  · obtain ⟨x, y, q, r, n, m, rfl, _⟩ := h
    rfl
  · obtain ⟨x, y, q, r, n, m, rfl, ⟨p, rfl, dx, hx⟩, ⟨p', rfl, dx', hy⟩, b1, b2, l, k⟩ := h
    have b3 : Bd2 q r := ⟨n, m, b1, b2, by omega⟩
    refine ⟨_, PSs.nox (pss_cons (ps_if (pt_not (pt_val (pe_callB call_isi (by rfl) B.isinstance boot_isinstance (pa_cons (pv 1) (pa_cons (pe_glob (v := .ref C) (by rfl) T.mgC rfl) pa_nil))))) (pss_one (ps_ret pe_dead)) pss_nil)
      (pss_one (ps_ret (pe_make mk GN hr (by rfl) T.mgC bN .nil passL (pa_cons (pe_op op_add (pe_op op_mulW (pe_fld (pv 0) rfl) (pe_fld (pv 1) rfl)) (pe_op op_mulW (pe_fld (pv 1) rfl) (pe_fld (pv 0) rfl))) (pa_cons (pe_op op_mulW (pe_fld (pv 0) rfl) (pe_fld (pv 1) rfl)) pa_nil)))))), ?_⟩
    refine ⟨_, rfl, _, _, _, _, true, rfl, .own C, Y.ty T.cl hy, kit_self _, true, rfl, iteF ?_⟩
    refine ⟨_, rfl, p, C, dx, _, _, rfl, hx, T.cl, T.nT, rf_top _ _, _, rfl, p', C, dx', _, _, rfl, hy, T.cl, T.nB, rf_bottom _ _, _, _, rfl, rfl, b3.mul.1, ?_⟩
    refine ⟨_, rfl, p', C, dx', _, _, rfl, hy, T.cl, T.nT, rf_top _ _, _, rfl, p, C, dx, _, _, rfl, hx, T.cl, T.nB, rf_bottom _ _, _, _, rfl, rfl, b3.mul.2.1, _, _, rfl, rfl, ?_⟩
    refine ⟨_, rfl, p, C, dx, _, _, rfl, hx, T.cl, T.nB, rf_bottom _ _, _, rfl, p', C, dx', _, _, rfl, hy, T.cl, T.nB, rf_bottom _ _, _, _, rfl, rfl, b3.mul.2.2.2, ?_⟩
    exact mk2 (dd_ne q r) (p8 (bd_sum b1 b2).1 l) (p8 (bd_sum b1 b2).2.2 l) fun H' v s h => k H' v s (by rw [add_divInt q r] at h; exact h)
theorem ok_sub {fN : Addr} {fdN : FuncData} (B : Bl mg) (T : RT K mg C CI fI fD) (Y : RTy K C) (mk : Mk K C fN) (GN : FnOk P w K mg base (L2.CX P w) 2 fN fdN ["self", "top", "bottom"] (spInit K C CI)) (bN : Binds K fdN ["self", "top", "bottom"] [])
    (F : FnP K "__sub__" "Ratio.__sub__" sSub f fd) : FnOk P w K mg base CX0 4 f fd ["self", "other"] (spOp (· - ·) C) := by
  refine F.ok scSub (fun vs H Q E h => ?_) (fun cdv A outer s H vs Q E hr h => ?_)
  · obtain ⟨x, y, q, r, n, m, rfl, _⟩ := h
    rfl
  · obtain ⟨x, y, q, r, n, m, rfl, ⟨p, rfl, dx, hx⟩, ⟨p', rfl, dx', hy⟩, b1, b2, l, k⟩ := h
    have b3 : Bd2 q r := ⟨n, m, b1, b2, by omega⟩
    refine ⟨_, PSs.nox (pss_cons (ps_if (pt_not (pt_val (pe_callB call_isi (by rfl) B.isinstance boot_isinstance (pa_cons (pv 1) (pa_cons (pe_glob (v := .ref C) (by rfl) T.mgC rfl) pa_nil))))) (pss_one (ps_ret pe_dead)) pss_nil)
      (pss_one (ps_ret (pe_make mk GN hr (by rfl) T.mgC bN .nil passL (pa_cons (pe_op op_sub (pe_op op_mulW (pe_fld (pv 0) rfl) (pe_fld (pv 1) rfl)) (pe_op op_mulW (pe_fld (pv 1) rfl) (pe_fld (pv 0) rfl))) (pa_cons (pe_op op_mulW (pe_fld (pv 0) rfl) (pe_fld (pv 1) rfl)) pa_nil)))))), ?_⟩
    refine ⟨_, rfl, _, _, _, _, true, rfl, .own C, Y.ty T.cl hy, kit_self _, true, rfl, iteF ?_⟩
    refine ⟨_, rfl, p, C, dx, _, _, rfl, hx, T.cl, T.nT, rf_top _ _, _, rfl, p', C, dx', _, _, rfl, hy, T.cl, T.nB, rf_bottom _ _, _, _, rfl, rfl, b3.mul.1, ?_⟩
    refine ⟨_, rfl, p', C, dx', _, _, rfl, hy, T.cl, T.nT, rf_top _ _, _, rfl, p, C, dx, _, _, rfl, hx, T.cl, T.nB, rf_bottom _ _, _, _, rfl, rfl, b3.mul.2.1, _, _, rfl, rfl, ?_⟩
    refine ⟨_, rfl, p, C, dx, _, _, rfl, hx, T.cl, T.nB, rf_bottom _ _, _, rfl, p', C, dx', _, _, rfl, hy, T.cl, T.nB, rf_bottom _ _, _, _, rfl, rfl, b3.mul.2.2.2, ?_⟩
    exact mk2 (dd_ne q r) (p8 (bd_sum b1 b2).2.1 l) (p8 (bd_sum b1 b2).2.2 l) fun H' v s h => k H' v s (by rw [sub_divInt q r] at h; exact h)
theorem ok_mul {fN : Addr} {fdN : FuncData} (B : Bl mg) (T : RT K mg C CI fI fD) (Y : RTy K C) (mk : Mk K C fN) (GN : FnOk P w K mg base (L2.CX P w) 2 fN fdN ["self", "top", "bottom"] (spInit K C CI)) (bN : Binds K fdN ["self", "top", "bottom"] [])
    (F : FnP K "__mul__" "Ratio.__mul__" sMul f fd) : FnOk P w K mg base CX0 4 f fd ["self", "other"] (spOp (· * ·) C) := by
  refine F.ok scMul (fun vs H Q E h => ?_) (fun cdv A outer s H vs Q E hr h => ?_)
  · obtain ⟨x, y, q, r, n, m, rfl, _⟩ := h
    rfl
  · obtain ⟨x, y, q, r, n, m, rfl, ⟨p, rfl, dx, hx⟩, ⟨p', rfl, dx', hy⟩, b1, b2, l, k⟩ := h
    have b3 : Bd2 q r := ⟨n, m, b1, b2, by omega⟩
    refine ⟨_, PSs.nox (pss_cons (ps_if (pt_not (pt_val (pe_callB call_isi (by rfl) B.isinstance boot_isinstance (pa_cons (pv 1) (pa_cons (pe_glob (v := .ref C) (by rfl) T.mgC rfl) pa_nil))))) (pss_one (ps_ret pe_dead)) pss_nil)
      (pss_one (ps_ret (pe_make mk GN hr (by rfl) T.mgC bN .nil passL (pa_cons (pe_op op_mulW (pe_fld (pv 0) rfl) (pe_fld (pv 1) rfl)) (pa_cons (pe_op op_mulW (pe_fld (pv 0) rfl) (pe_fld (pv 1) rfl)) pa_nil)))))), ?_⟩
    refine ⟨_, rfl, _, _, _, _, true, rfl, .own C, Y.ty T.cl hy, kit_self _, true, rfl, iteF ?_⟩
    refine ⟨_, rfl, p, C, dx, _, _, rfl, hx, T.cl, T.nT, rf_top _ _, _, rfl, p', C, dx', _, _, rfl, hy, T.cl, T.nT, rf_top _ _, _, _, rfl, rfl, b3.mul.2.2.1, ?_⟩
    refine ⟨_, rfl, p, C, dx, _, _, rfl, hx, T.cl, T.nB, rf_bottom _ _, _, rfl, p', C, dx', _, _, rfl, hy, T.cl, T.nB, rf_bottom _ _, _, _, rfl, rfl, b3.mul.2.2.2, ?_⟩
    exact mk2 (dd_ne q r) (p8 (bd_parts b1 b2).2.2.1 (by omega)) (p8 (bd_parts b1 b2).2.2.2 (by omega)) fun H' v s h => k H' v s (by rw [mul_divInt q r] at h; exact h)
/-- the error of a division by zero -/
structure RQ (K : PySem.W.Frag) (mg : Str → Option Value) (CQ : Addr) : Prop where
  mgQ : mg "NoQuotient" = some (.ref CQ)
  xQ : PySem.W.excIn K CQ He.veBase "ValueError.__new__" = true
  kQ : PySem.W.keepIn K (.ref CQ) = true
  bQ : PySem.W.subIn K (.ref CQ) (.type "BaseException") = some true
  tQ : PySem.W.typeIn K (.ref CQ) = some (.type "type")
theorem ok_over {fN CQ : Addr} {fdN : FuncData} (T : RT K mg C CI fI fD) (Z : RQ K mg CQ) (mk : Mk K C fN) (GN : FnOk P w K mg base (L2.CX P w) 2 fN fdN ["self", "top", "bottom"] (spInit K C CI)) (bN : Binds K fdN ["self", "top", "bottom"] [])
    (F : FnP K "over" "Ratio.over" sOver f fd) : FnOk P w K mg base (L2.CX P w) 4 f fd ["self", "other"] (spOver C CQ) := by
  refine F.ok scOver (fun vs H Q E h => ?_) (fun cdv A outer s H vs Q E hr h => ?_)
  · obtain ⟨x, y, q, r, n, m, rfl, _⟩ := h
    rfl
  · obtain ⟨x, y, q, r, n, m, rfl, ⟨p, rfl, dx, hx⟩, ⟨p', rfl, dx', hy⟩, b1, b2, l, k⟩ := h
    have b3 : Bd2 q r := ⟨n, m, b1, b2, by omega⟩
    refine ⟨_, pss_cons (ps_if (pt_cmpR op_eq (pe_fld (pv 1) rfl) pe_int (nomark _)) (pss_one (ps_raise (by rfl) (takes_of rfl rfl rfl rfl) (pmk_own0 PySem.F.excBase_ValueError Z.xQ Z.mgQ Z.kQ (raises_own Z.bQ Z.tQ) (by rfl)))) pss_nil)
      (pss_one (ps_ret (pe_make mk GN hr (by rfl) T.mgC bN .nil passL (pa_cons (pe_op op_mulW (pe_fld (pv 0) rfl) (pe_fld (pv 1) rfl)) (pa_cons (pe_op op_mulW (pe_fld (pv 0) rfl) (pe_fld (pv 1) rfl)) pa_nil))))), ?_⟩
    refine ⟨_, rfl, p', C, dx', _, _, rfl, hy, T.cl, T.nT, rf_top _ _, rfl, _, rfl, ?_⟩
    rcases k with ⟨hz, k⟩ | ⟨hz, k⟩
    · have hn : r.num ≠ 0 := fun z => hz (Rat.num_eq_zero.mp z)
      rw [decide_eq_false fun z => hn (V.int.inj z)]
      refine iteF ?_
      refine ⟨_, rfl, p, C, dx, _, _, rfl, hx, T.cl, T.nT, rf_top _ _, _, rfl, p', C, dx', _, _, rfl, hy, T.cl, T.nB, rf_bottom _ _, _, _, rfl, rfl, b3.mul.1, ?_⟩
      refine ⟨_, rfl, p, C, dx, _, _, rfl, hx, T.cl, T.nB, rf_bottom _ _, _, rfl, p', C, dx', _, _, rfl, hy, T.cl, T.nT, rf_top _ _, _, _, rfl, rfl, ?_, ?_⟩
      · have := b3.mul.2.1
        unfold CMulW at this ⊢
        omega
      have hd := q.den_pos
      exact mk2 (Int.mul_ne_zero (by omega) hn) (p8 (bd_parts b1 b2).1 (by omega)) (p8 (by rw [Int.mul_comm]; exact (bd_parts b1 b2).2.1) (by omega)) fun H' v s h => k H' v s (over_divInt q r ▸ h)
    · rw [hz, show (0 : Rat).num = 0 from rfl, decide_eq_true rfl]
      exact iteT k
end
end BF
set_option maxHeartbeats 4000000
/-! All that a text asks of the class Ratio, and the rules for its expressions. -/
namespace BF
open PySem PySem.Spec PyProof.Rows L2
def MCal (P : Program) (w : World) (K : PySem.W.Frag) (mg : Str → Option Value) (base : Heap) (CX : CXT) (k : Nat) (C : Addr) (m : Str) (ps : List Str) (sp : Sp) : Prop := ∃ f fd, Meth K C m f ∧ FnOk P w K mg base CX k f fd ps sp ∧ Binds K fd ps []
structure RK (P : Program) (w : World) (K : PySem.W.Frag) (mg : Str → Option Value) (base : Heap) (C CI CQ : Addr) : Prop where
  B : Bl mg
  cl : Cls K C
  nT : NoAttr K C "top"
  nB : NoAttr K C "bottom"
  mgC : mg "Ratio" = some (.ref C)
  ty : RTy K C
  iC : PySem.W.kitOne K (.type "int") (.ref C) = some false
  sf : PySem.W.selfFirst K C = true
  mkr : ∃ fN fdN, Mk K C fN ∧ FnOk P w K mg base (L2.CX P w) 2 fN fdN ["self", "top", "bottom"] (spInit K C CI) ∧ Binds K fdN ["self", "top", "bottom"] [] ∧ ∃ ds, Vals [.int 1] ds ∧ Binds K fdN ["self", "top", "bottom"] ds
  of_ : ∃ p g fd, ClX.CRead K C tyT ∧ ClX.CMet K C tyT "of" p g ∧ FnOk P w K mg base (L2.CX P w) 4 g fd ["cls", "number"] (spOf C) ∧ Binds K fd ["cls", "number"] []
  under : MCal P w K mg base CX0 1 C "under" ["self", "other"] (spUnder C)
  eq : MCal P w K mg base CX0 1 C "__eq__" ["self", "other"] (BF.spEq C)
  add : MCal P w K mg base CX0 4 C "__add__" ["self", "other"] (spOp (· + ·) C)
  sub : MCal P w K mg base CX0 4 C "__sub__" ["self", "other"] (spOp (· - ·) C)
  mul : MCal P w K mg base CX0 4 C "__mul__" ["self", "other"] (spOp (· * ·) C)
  over : MCal P w K mg base (L2.CX P w) 4 C "over" ["self", "other"] (spOver C CQ)
def rRat (g : Rat → Rat → Rat) (C : Addr) : R2 := fun x y H Q => ∃ q r n m, RatV C H x q ∧ RatV C H y r ∧ Bd n q ∧ Bd m r ∧ n + m + 1 ≤ 8000 ∧ ∀ H' v, Same H H' → RatV C H' v (g q r) → Q v H'
/-- Ratio(t, b), Ratio(t) -/
def rMk2 (C : Addr) : List V → Hp → VK → Prop := fun vs H Q => ∃ t b : Int, vs = [.int t, .int b] ∧ b ≠ 0 ∧ t.natAbs < 2 ^ 8000 ∧ b.natAbs < 2 ^ 8000 ∧ ∀ H' v, Same H H' → RatV C H' v (Rat.divInt t b) → Q v H'
def rMk1 (C : Addr) : List V → Hp → VK → Prop := fun vs H Q => ∃ t : Int, vs = [.int t] ∧ t.natAbs < 2 ^ 8000 ∧ ∀ H' v, Same H H' → RatV C H' v (t : Rat) → Q v H'
/-- tuples of two fractions; lists of these -/
abbrev PrR (C : Addr) : Den (Rat × Rat) := PairD (RatV C)
section
variable {X : Cx} {C CI CQ : Addr} {p pos apos : Pos} {o e : Expr} {es : List Expr} {ta : TE} {t : TA} {pl : Sem Bool}
theorem mon_rat : MonD (RatV C) := fun H H' x p e h => h.up e
theorem one_rat : OneD (RatV C) := fun H x p q ⟨a, h, dx, h1⟩ ⟨b, e, dy, h2⟩ => by
  subst h
  cases e
  rw [h1] at h2
  injection h2 with h2
  injection h2 with h3 h4 h5
  have e1 := congrArg (fun l => l.lookup ("top" : Str)) h5
  have e2 := congrArg (fun l => l.lookup ("bottom" : Str)) h5
  simp only [rf_top, rf_bottom] at e1 e2
  have e3 : (p.den : Int) = q.den := V.int.inj (Option.some.inj e2)
  exact Rat.ext (V.int.inj (Option.some.inj e1)) (by omega)
theorem ref_rat : RefD (RatV C) := fun H x p ⟨a, h, _⟩ => ⟨a, h⟩
theorem RatV.ins {H : Hp} {x : V} {q : Rat} (h : RatV C H x q) : InsOf C H x := by
  obtain ⟨a, e, dx, h1⟩ := h
  exact ⟨a, dx, _, e, h1⟩
/-- the receiver of a method of Ratio -/
theorem ratM {H : Hp} {x : V} {q : Rat} {m : Str} {R : Prop} (h : RatV C H x q) (k : R) (h1 : ¬ m = "top" := by decide) (h2 : ¬ m = "bottom" := by decide) : ∃ a dx fs, x = .ref a ∧ H a = some (.ins C dx fs) ∧ fs.lookup m = none ∧ R := by
  obtain ⟨a, e, dx, h3⟩ := h
  exact ⟨a, dx, _, e, h3, rf_none _ _ h1 h2, k⟩
variable (R : RK X.prog X.w X.K X.mg X.base C CI CQ)
include R
theorem pe_ratio2 {x : Str} (hr : Room 3 X.A) (hg : Gl X x) (hm : X.mg x = some (.ref C)) (ha : PA X (e :: es) t) (hdb : (x == ("__debug__" : Str)) = false := by decide) (he : starEach (e :: es) X.env = (false, eval e X.env) :: starEach es X.env := by rfl)
    (hpl : (backTo pos (starEach es X.env)).any (·.1) = false := by rfl) : PE X (.Call (.Name x p) (e :: es) [] pos) (tMake C (spInit X.K C CI) [] E0 t) := by
  obtain ⟨fN, fdN, h1, h2, h3, _⟩ := R.mkr
  exact pe_make h1 h2 hr hg hm h3 .nil passL ha hdb he hpl
theorem pe_ratio1 {x : Str} (hr : Room 3 X.A) (hg : Gl X x) (hm : X.mg x = some (.ref C)) (ha : PA X (e :: es) t) (hdb : (x == ("__debug__" : Str)) = false := by decide) (he : starEach (e :: es) X.env = (false, eval e X.env) :: starEach es X.env := by rfl)
    (hpl : (backTo pos (starEach es X.env)).any (·.1) = false := by rfl) : PE X (.Call (.Name x p) (e :: es) [] pos) (tMake C (spInit X.K C CI) [.int 1] E0 t) := by
  obtain ⟨fN, fdN, h1, h2, _, ds, h3, h4⟩ := R.mkr
  exact pe_make h1 h2 hr hg hm h4 h3 passL ha hdb he hpl
theorem pe_rt2 {x : Str} (hr : Room 3 X.A) (hg : Gl X x) (hm : X.mg x = some (.ref C)) (ha : PA X (e :: es) t) (hdb : (x == ("__debug__" : Str)) = false := by decide) (he : starEach (e :: es) X.env = (false, eval e X.env) :: starEach es X.env := by rfl)
    (hpl : (backTo pos (starEach es X.env)).any (·.1) = false := by rfl) : PE X (.Call (.Name x p) (e :: es) [] pos) (tCB (rMk2 C) t) := by
  obtain ⟨fN, fdN, h1, h2, h3, _⟩ := R.mkr
  refine ⟨fun pins s σ H Q I h => ?_⟩
  refine wpAny_Call_Name_kw (ld_glob I hg hm ?_ hdb)
  refine PySem.W.callWith_K (h₀ := X.base) I.ok.mod.kin h1.kp (thn (ha.run pos pins s σ H _ I h) fun us s1 ⟨vs, H1, I1, r, q⟩ => ⟨I1.kIn, ?_⟩) he hpl
  obtain ⟨t, b, rfl, hb, t8, b8, k⟩ := q
  exact run_make (E := E0) h1 h2 hr h3 .nil passL I1 r (mk2 hb t8 b8 k)
theorem pe_rt1 {x : Str} (hr : Room 3 X.A) (hg : Gl X x) (hm : X.mg x = some (.ref C)) (ha : PA X (e :: es) t) (hdb : (x == ("__debug__" : Str)) = false := by decide) (he : starEach (e :: es) X.env = (false, eval e X.env) :: starEach es X.env := by rfl)
    (hpl : (backTo pos (starEach es X.env)).any (·.1) = false := by rfl) : PE X (.Call (.Name x p) (e :: es) [] pos) (tCB (rMk1 C) t) := by
  obtain ⟨fN, fdN, h1, h2, _, ds, h3, h4⟩ := R.mkr
  refine ⟨fun pins s σ H Q I h => ?_⟩
  refine wpAny_Call_Name_kw (ld_glob I hg hm ?_ hdb)
  refine PySem.W.callWith_K (h₀ := X.base) I.ok.mod.kin h1.kp (thn (ha.run pos pins s σ H _ I h) fun us s1 ⟨vs, H1, I1, r, q⟩ => ⟨I1.kIn, ?_⟩) he hpl
  obtain ⟨t, rfl, t8, k⟩ := q
  exact run_make (E := E0) h1 h2 hr h4 h3 passL I1 r (mk1 t8 k)
theorem pe_rof (hr : Room 4 X.A) (ho : PE X o ta) (ha : PA X (e :: es) t)
    (hst : starEach (e :: es) X.env = (false, eval e X.env) :: starEach es X.env := by rfl) (hpl : (backTo pos (starEach es X.env)).any (·.1) = false := by rfl)
    (ht : eval (.Call (.Attribute o "of" apos) (e :: es) [] pos) X.env = (do
      let ov ← eval o X.env
      standAt apos.atName
      let (f, first) ← holding [ov] (getMethod ov "of" pl)
      callWith pos f first (backTo pos (starEach (e :: es) X.env)) (backToKw pos (keywordEach [] X.env))) := by rfl) :
    PE X (.Call (.Attribute o "of" apos) (e :: es) [] pos) (ClX.tCMeth C (fun vs H Q E => spOf C (vs ++ []) H Q E) E0 ta t) := by
  obtain ⟨q, g, fd, h1, h2, h3, h4⟩ := R.of_
  exact ClX.pe_cmeth ho h1 h2 (h3.raw h4 .nil) hr passL ha hst hpl ht
theorem pe_runder (hr : Room 1 X.A) (ho : PE X o ta) (ha : PA X (e :: es) t)
    (hst : starEach (e :: es) X.env = (false, eval e X.env) :: starEach es X.env := by rfl) (hpl : (backTo pos (starEach es X.env)).any (·.1) = false := by rfl)
    (ht : eval (.Call (.Attribute o "under" apos) (e :: es) [] pos) X.env = (do
      let ov ← eval o X.env
      standAt apos.atName
      let (f, first) ← holding [ov] (getMethod ov "under" pl)
      callWith pos f first (backTo pos (starEach (e :: es) X.env)) (backToKw pos (keywordEach [] X.env))) := by rfl) :
    PE X (.Call (.Attribute o "under" apos) (e :: es) [] pos) (tMeth C "under" (spUnder C) [] E0 ta t) := by
  obtain ⟨f, fd, h1, h2, h3⟩ := R.under
  exact pe_meth ho R.cl h1 h2 hr h3 .nil pass0 ha hst hpl ht
theorem pe_rover (hr : Room 4 X.A) (ho : PE X o ta) (ha : PA X (e :: es) t)
    (hst : starEach (e :: es) X.env = (false, eval e X.env) :: starEach es X.env := by rfl) (hpl : (backTo pos (starEach es X.env)).any (·.1) = false := by rfl)
    (ht : eval (.Call (.Attribute o "over" apos) (e :: es) [] pos) X.env = (do
      let ov ← eval o X.env
      standAt apos.atName
      let (f, first) ← holding [ov] (getMethod ov "over" pl)
      callWith pos f first (backTo pos (starEach (e :: es) X.env)) (backToKw pos (keywordEach [] X.env))) := by rfl) :
    PE X (.Call (.Attribute o "over" apos) (e :: es) [] pos) (tMeth C "over" (spOver C CQ) [] E0 ta t) := by
  obtain ⟨f, fd, h1, h2, h3⟩ := R.over
  exact pe_meth ho R.cl h1 h2 hr h3 .nil passL ha hst hpl ht
theorem op_radd (hr : Room 4 X.A) : OpR X (binaryOp .Add) (rRat (· + ·) C) := by
  obtain ⟨f, fd, h1, h2, h3⟩ := R.add
  exact OpR.imp (op_own h2 hr h1.at_ h1.fn R.sf h3 (E := E0) pass0) fun x y H Q ⟨q, r, n, m, hx, hy, b1, b2, l, k⟩ => ⟨hx.ins, hy.ins, x, y, q, r, n, m, rfl, hx, hy, b1, b2, l, k⟩
theorem op_rsub (hr : Room 4 X.A) : OpR X (binaryOp .Sub) (rRat (· - ·) C) := by
  obtain ⟨f, fd, h1, h2, h3⟩ := R.sub
  exact OpR.imp (op_own h2 hr h1.at_ h1.fn R.sf h3 (E := E0) pass0) fun x y H Q ⟨q, r, n, m, hx, hy, b1, b2, l, k⟩ => ⟨hx.ins, hy.ins, x, y, q, r, n, m, rfl, hx, hy, b1, b2, l, k⟩
theorem op_rmul (hr : Room 4 X.A) : OpR X (binaryOp .Mult) (rRat (· * ·) C) := by
  obtain ⟨f, fd, h1, h2, h3⟩ := R.mul
  exact OpR.imp (op_own h2 hr h1.at_ h1.fn R.sf h3 (E := E0) pass0) fun x y H Q ⟨q, r, n, m, hx, hy, b1, b2, l, k⟩ => ⟨hx.ins, hy.ins, x, y, q, r, n, m, rfl, hx, hy, b1, b2, l, k⟩
theorem rcD_rat : RcD X 1 .Eq false (RatV C) := by
  obtain ⟨f, fd, h1, h2, h3⟩ := R.eq
  exact rcD_own (E := E0) h2 (fun H x p h => h.ins) h1 h3 pass0
theorem eqD_rat : EqD X 1 (RatV C) := (rcD_rat R).eqD one_rat ref_rat
theorem op_req (hr : Room 1 X.A) : OpR X (compareOp .Eq) (rEqF (RatV C) false) := op_eqF (rcD_rat R) hr
theorem eqD_prR : EqD X 2 (PrR C) := (rcD_pair mon_rat (eqD_rat R)).eqD (one_pairD one_rat) ref_pairD
theorem op_neP (hr : Room 2 X.A) : OpR X (compareOp .NotEq) (rEqF (PrR C) true) := op_neF (rcD_pairN mon_rat (eqD_rat R)) hr
theorem op_eqPs (hr : Room 3 X.A) : OpR X (compareOp .Eq) (rEqF (LstD (PrR C)) false) := op_eqF (rcD_list (mon_pairD mon_rat) (eqD_prR R)) hr
theorem op_nePs (hr : Room 3 X.A) : OpR X (compareOp .NotEq) (rEqF (LstD (PrR C)) true) := op_neF (rcD_listN (mon_pairD mon_rat) (eqD_prR R)) hr
end
end BF
set_option maxHeartbeats 4000000
/-! Moves inferred: as_pairs, between, inferred_move, touched_around, infer. -/
namespace BF
open PySem PySem.Spec PyProof.Rows L2
abbrev sAsPairs : Stmt := top 13
abbrev sBetween : Stmt := top 14
abbrev sInfMove : Stmt := top 15
/-- what between tells -/
def betw (p : Rat) (a b : Rat × Rat) : Rat :=
  if a.1 = b.1 then (if a.2 = b.2 then a.2 else 0)
  else if a.1 < b.1 then (if a.1 < p then (if p < b.1 then a.2 + (b.2 - a.2) * ((p - a.1) / (b.1 - a.1)) else b.2) else a.2)
  else (if b.1 < p then (if p < a.1 then b.2 + (a.2 - b.2) * ((p - b.1) / (a.1 - b.1)) else a.2) else b.2)
theorem mon_num {C : Addr} : MonD (Num C) := fun H H' x p e h => h.imp (fun z => z.up e) id
theorem offL_num {C : Addr} : OffL (Num C) := fun D H acc o v z hd h => h.imp (fun r => offL_rat _ _ _ _ _ _ hd r) id
theorem upP_num {C P c : Addr} : UpP P c (Num C) := fun H H' v z k h p o => h.imp (fun r => upP_rat _ _ _ _ _ r p o) id
section
variable {P : Program} {w : World} {K : PySem.W.Frag} {mg : Str → Option Value} {base : Heap} {CX : CXT} {f : Addr} {fd : FuncData} {C CI CQ : Addr}
def spAsPairs (K : PySem.W.Frag) (C : Addr) : Sp := fun vs H Q _ => ∃ a xs ps, vs = [.ref a] ∧ SqL K H a xs ∧ Paired (PairD (Num C) H) xs ps ∧ xs.length ≤ 1000 ∧
  ∀ H' l ys, Same H H' → H l = none → H' l = some (.lst ys) → Paired (PrR C H') ys ps → Q (.ref l) H'
abbrev nAsPairs : List Str := ["pairs", "x", "y"]
theorem scAsPairs : FnScope nAsPairs ["pairs"] (defScope sAsPairs) := ⟨rfl, rfl, rfl, by decide +kernel, rfl, by decide +kernel, by decide +kernel⟩
theorem ok_aspairs (R : RK P w K mg base C CI CQ) (F : FnP K "as_pairs" "as_pairs" sAsPairs f fd) : FnOk P w K mg base CX0 5 f fd ["pairs"] (spAsPairs K C) := by
  refine F.ok scAsPairs (fun vs H Q E h => ?_) (fun cdv A outer s H vs Q E hr h => ?_)
  · obtain ⟨a, xs, ps, rfl, _⟩ := h
    rfl
  · obtain ⟨a, xs, ps, rfl, ha, hz, hl, k⟩ := h
    refine ⟨_, PSs.nox (pss_one (ps_ret (pe_lc (own := [("x", 1), ("y", 2)]) (g := gt2 K 1 2) (tt := tYes) rfl scAsPairs.nd (pi_list (pv 0)) (blkOk_by (N := nAsPairs) (sc := defScope sAsPairs) (by decide +kernel))
      (fun _ _ _ _ _ => pg_t2 K (by rfl) (pg_name (i := 1) scAsPairs.nd rfl (.inl rfl)) (pg_name (i := 2) scAsPairs.nd rfl (.inl rfl))) (fun _ _ _ _ _ => pts_nil)
      (fun _ _ _ _ _ => pe_tup (pa_cons (pe_rof R hr (pe_glob (v := .ref C) (by rfl) R.mgC rfl) (pa_cons (pv 1) pa_nil)) (pa_cons (pe_rof R hr (pe_glob (v := .ref C) (by rfl) R.mgC rfl) (pa_cons (pv 2) pa_nil)) pa_nil)))))), ?_⟩
    refine lcE ?_
    refine ⟨_, rfl, a, rfl, ⟨_, ha⟩, ?_⟩
    refine lcM (K := K) (F := PairD (Num C)) (G := PrR C) id ha hz (mon_pairD mon_num) (mon_pairD mon_rat) (offL_pair offL_rat) (by omega) ?_ ?_
    · rintro x ⟨p, q⟩ H1 hm s1 ⟨b, u, v, rfl, hb, hu, hv⟩ kT hk
      refine gt2R (SqT.of hb) ⟨wipe2 _ _ _ _ _ (by decide), ?_⟩
      refine ⟨rfl, _, rfl, u, p, rfl, hu, fun H2 v2 s2 h2 => ?_⟩
      refine ⟨rfl, _, rfl, v, q, rfl, mon_num _ _ _ _ s2 hv, fun H3 v3 s3 h3 => ⟨(show (2 : Nat) ≤ sizeLine by decide), fun b4 n4 => ?_⟩⟩
      have s4 := same_upd (o := .tup [v2, v3]) n4
      exact hk _ _ ((s2.trans s3).trans s4) ⟨b4, v2, v3, rfl, upd_same, (h2.up s3).up s4, h3.up s4⟩
    · intro H1 D ys s1 n1 h1 hp
      rw [List.map_id] at hp
      exact k H1 D ys s1 n1 h1 hp
/-! between -/
def betwO (p : Rat) (a b : Rat × Rat) : Rat := if a.1 < p then (if p < b.1 then a.2 + (b.2 - a.2) * ((p - a.1) / (b.1 - a.1)) else b.2) else a.2
def Bd5 (n : Nat) (p : Rat) (a b : Rat × Rat) : Prop := Bd n p ∧ (Bd n a.1 ∧ Bd n a.2) ∧ Bd n b.1 ∧ Bd n b.2
theorem bd_zero (n : Nat) (h : 0 < n) : Bd n 0 := ⟨Nat.two_pow_pos _, Nat.one_lt_two_pow (by omega)⟩
theorem bd_betwO {n : Nat} {p : Rat} {a b : Rat × Rat} (h : Bd5 n p a b) (l : a.1 < b.1) : Bd (7 * n + 4) (betwO p a b) := by
  obtain ⟨h1, ⟨h2, h3⟩, h4, h5⟩ := h
  unfold betwO
  split
  · split
    · have hz : b.1 - a.1 ≠ 0 := by grind
      exact (h3.add ((h5.sub h3).mul ((h1.sub h2).div (h4.sub h2) hz))).mono (by omega)
    · exact h5.mono (by omega)
  · exact h3.mono (by omega)
theorem betw_eq {p : Rat} {a b : Rat × Rat} (h : ¬ a.1 = b.1) : betw p a b = if a.1 < b.1 then betwO p a b else betwO p b a := by
  unfold betw betwO
  rw [if_neg h]
theorem bd_betw {n : Nat} {p : Rat} {a b : Rat × Rat} (h : Bd5 n p a b) : Bd (7 * n + 4) (betw p a b) := by
  by_cases e : a.1 = b.1
  · unfold betw
    rw [if_pos e]
    split
    · exact h.2.1.2.mono (by omega)
    · exact bd_zero _ (by omega)
  · rw [betw_eq e]
    split
    · rename_i l
      exact bd_betwO h l
    · rename_i l
      exact bd_betwO ⟨h.1, h.2.2, h.2.1⟩ (by grind)
def spBetween (C : Addr) : Sp := fun vs H Q _ => ∃ x y z p a b n, vs = [x, y, z] ∧ RatV C H x p ∧ PrR C H y a ∧ PrR C H z b ∧ Bd5 n p a b ∧ n ≤ 800 ∧ ∀ H' v, Same H H' → RatV C H' v (betw p a b) → Q v H'
abbrev nBetween : List Str := ["place", "one", "other", "low", "high", "share"]
theorem scBetween : FnScope nBetween ["place", "one", "other"] (defScope sBetween) := ⟨rfl, rfl, rfl, by decide +kernel, rfl, by decide +kernel, by decide +kernel⟩
theorem ok_between (R : RK P w K mg base C CI CQ) (F : FnP K "between" "between" sBetween f fd) : FnOk P w K mg base CX0 5 f fd ["place", "one", "other"] (spBetween C) := by
  refine F.ok scBetween (fun vs H Q E h => ?_) (fun cdv A outer s H vs Q E hr h => ?_)
  · obtain ⟨x, y, z, p, a, b, n, rfl, _⟩ := h
    rfl
  · obtain ⟨x, y, z, p, a, b, n, rfl, hx, hy, hz, hb, hn, k⟩ := h
    have hr1 : Room 1 (A.deeper (envOfC "between" (defScope sBetween) s.heap.objs.size f cdv)) := hr.mono (by decide)
    have hr3 : Room 3 (A.deeper (envOfC "between" (defScope sBetween) s.heap.objs.size f cdv)) := hr.mono (by decide)
    refine ⟨_, PSs.nox (pss_cons (ps_if (pt_cmpR (op_req R hr1) (pe_ix ix_tup (pv 1) pe_int (fun _ _ => rfl)) (pe_ix ix_tup (pv 2) pe_int (fun _ _ => rfl)) (nomark _))
        (pss_one (ps_ret (pe_ifExp (pt_cmpR (op_req R hr1) (pe_ix ix_tup (pv 1) pe_int (fun _ _ => rfl)) (pe_ix ix_tup (pv 2) pe_int (fun _ _ => rfl)) (nomark _)) (pe_ix ix_tup (pv 1) pe_int (fun _ _ => rfl)) (pe_ratio1 R hr3 (by rfl) R.mgC (pa_cons pe_int pa_nil))))) pss_nil)
      (C8.pss_cut (ps_asg (pe_ifExp (pt_val (pe_runder R hr1 (pe_ix ix_tup (pv 1) pe_int (fun _ _ => rfl)) (pa_cons (pe_ix ix_tup (pv 2) pe_int (fun _ _ => rfl)) pa_nil))) (pe_tup (pa_cons (pv 1) (pa_cons (pv 2) pa_nil))) (pe_tup (pa_cons (pv 2) (pa_cons (pv 1) pa_nil))))
          (pg_t2 K (by rfl) (pg_name (i := 3) scBetween.nd rfl (.inl rfl)) (pg_name (i := 4) scBetween.nd rfl (.inl rfl))))
      (pss_cons (ps_if (pt_not (pt_val (pe_runder R hr1 (pe_ix ix_tup (pv 3) pe_int (fun _ _ => rfl)) (pa_cons (pv 0) pa_nil)))) (pss_one (ps_ret (pe_ix ix_tup (pv 3) pe_int (fun _ _ => rfl)))) pss_nil)
      (pss_cons (ps_if (pt_not (pt_val (pe_runder R hr1 (pv 0) (pa_cons (pe_ix ix_tup (pv 4) pe_int (fun _ _ => rfl)) pa_nil)))) (pss_one (ps_ret (pe_ix ix_tup (pv 4) pe_int (fun _ _ => rfl)))) pss_nil)
      (pss_cons (ps_set (i := 5) scBetween.nd rfl (.inl rfl) (pe_rover R hr (pe_op (op_rsub R hr) (pv 0) (pe_ix ix_tup (pv 3) pe_int (fun _ _ => rfl))) (pa_cons (pe_op (op_rsub R hr) (pe_ix ix_tup (pv 4) pe_int (fun _ _ => rfl)) (pe_ix ix_tup (pv 3) pe_int (fun _ _ => rfl))) pa_nil)))
      (pss_one (ps_ret (pe_op (op_radd R hr) (pe_ix ix_tup (pv 3) pe_int (fun _ _ => rfl)) (pe_op (op_rmul R hr) (pe_op (op_rsub R hr) (pe_ix ix_tup (pv 4) pe_int (fun _ _ => rfl)) (pe_ix ix_tup (pv 3) pe_int (fun _ _ => rfl))) (pv 5)))))))))), ?_⟩
    obtain ⟨ya, y0, y1, rfl, hya, hy0, hy1⟩ := id hy
    obtain ⟨za, z0, z1, rfl, hza, hz0, hz1⟩ := id hz
    refine ⟨_, rfl, ya, _, 0, y0, rfl, rfl, SqT.of hya, rfl, _, rfl, za, _, 0, z0, rfl, rfl, SqT.of hza, rfl, a.1, b.1, hy0, hz0, fun H1 s1 => ⟨_, rfl, ite2 (fun e => ?_) (fun e => ?_)⟩⟩
    · have e1 : a.1 = b.1 := by simpa using e
      refine ⟨_, rfl, ya, _, 1, y1, rfl, rfl, SqT.of (s1 _ _ hya), rfl, _, rfl, za, _, 1, z1, rfl, rfl, SqT.of (s1 _ _ hza), rfl, a.2, b.2, hy1.up s1, hz1.up s1, fun H2 s2 => ⟨_, rfl, ite2 (fun e => ?_) (fun e => ?_)⟩⟩
      · have e2 : a.2 = b.2 := by simpa using e
        refine ⟨_, rfl, ya, _, 1, y1, rfl, rfl, SqT.of (s2 _ _ (s1 _ _ hya)), rfl, ?_⟩
        refine k _ _ (s1.trans s2) ?_
        unfold betw
        rw [if_pos e1, if_pos e2]
        exact (hy1.up s1).up s2
      · have e2 : ¬ a.2 = b.2 := by simpa using e
        refine mk1 (by decide) fun H3 v s3 h3 => ?_
        refine k _ _ ((s1.trans s2).trans s3) ?_
        unfold betw
        rw [if_pos e1, if_neg e2]
        exact h3
    · have e1 : ¬ a.1 = b.1 := by simpa using e
      obtain ⟨b1, ⟨b2, b3⟩, b4, b5⟩ := id hb
      refine ⟨fun σ' H' => ∃ lv hv lo hi, σ' = [some x, some (.ref ya), some (.ref za), some lv, some hv, none] ∧ Same H H' ∧ PrR C H' lv lo ∧ PrR C H' hv hi ∧ lo.1 < hi.1 ∧ Bd5 n p lo hi ∧ betw p a b = betwO p lo hi, ?_, ?_⟩
      · refine ⟨_, rfl, ya, _, 0, y0, rfl, rfl, SqT.of (s1 _ _ hya), rfl, ratM (hy0.up s1) ⟨_, rfl, za, _, 0, z0, rfl, rfl, SqT.of (s1 _ _ hza), rfl, y0, z0, a.1, b.1, rfl, hy0.up s1, hz0.up s1, ⟨n, n, b2, b4, by omega⟩, _, rfl, ite2 (fun e => ?_) (fun e => ?_)⟩⟩
        · have e2 : a.1 < b.1 := of_decide_eq_true e
          refine ⟨_, rfl, _, rfl, (show (2 : Nat) ≤ sizeLine by decide), fun t nt => gt2R (SqT.of upd_same) ?_⟩
          have s2 := same_upd (o := .tup [.ref ya, .ref za]) nt
          refine ⟨_, _, a, b, rfl, s1.trans s2, mon_pairD mon_rat _ _ _ _ (s1.trans s2) hy, mon_pairD mon_rat _ _ _ _ (s1.trans s2) hz, e2, hb, ?_⟩
          rw [betw_eq e1, if_pos e2]
        · have e2 : ¬ a.1 < b.1 := fun z => e (decide_eq_true z)
          refine ⟨_, rfl, _, rfl, (show (2 : Nat) ≤ sizeLine by decide), fun t nt => gt2R (SqT.of upd_same) ?_⟩
          have s2 := same_upd (o := .tup [.ref za, .ref ya]) nt
          refine ⟨_, _, b, a, rfl, s1.trans s2, mon_pairD mon_rat _ _ _ _ (s1.trans s2) hz, mon_pairD mon_rat _ _ _ _ (s1.trans s2) hy, by grind, ⟨hb.1, hb.2.2, hb.2.1⟩, ?_⟩
          rw [betw_eq e1, if_neg e2]
      · rintro σ' H2 ⟨lv, hv, lo, hi, rfl, s2, hlo, hhi, hlt, ⟨c1, ⟨c2, c3⟩, c4, c5⟩, eq⟩
        obtain ⟨la, l0, l1, rfl, hla, hl0, hl1⟩ := hlo
        obtain ⟨ha, h0, h1, rfl, hha, hh0, hh1⟩ := hhi
        refine ⟨_, rfl, la, _, 0, l0, rfl, rfl, SqT.of hla, rfl, ratM hl0 ⟨_, rfl, l0, x, lo.1, p, rfl, hl0, hx.up s2, ⟨n, n, c2, c1, by omega⟩, _, rfl, ?_⟩⟩
        by_cases t1 : lo.1 < p
        · rw [decide_eq_true t1]
          refine iteF ?_
          refine ⟨_, rfl, ratM (hx.up s2) ⟨_, rfl, ha, _, 0, h0, rfl, rfl, SqT.of hha, rfl, x, h0, p, hi.1, rfl, hx.up s2, hh0, ⟨n, n, c1, c4, by omega⟩, _, rfl, ?_⟩⟩
          by_cases t2 : p < hi.1
          · rw [decide_eq_true t2]
            refine iteF ?_
            have hz : hi.1 - lo.1 ≠ 0 := by grind
            refine ⟨_, rfl, _, rfl, la, _, 0, l0, rfl, rfl, SqT.of hla, rfl, p, lo.1, n, n, hx.up s2, hl0, c1, c2, by omega, fun H3 v3 s3 r3 => ratM r3 ?_⟩
            refine ⟨_, rfl, ha, _, 0, h0, rfl, rfl, SqT.of (s3 _ _ hha), rfl, _, rfl, la, _, 0, l0, rfl, rfl, SqT.of (s3 _ _ hla), rfl, hi.1, lo.1, n, n, hh0.up s3, hl0.up s3, c4, c2, by omega, fun H4 v4 s4 r4 => ?_⟩
            refine ⟨v3, v4, p - lo.1, hi.1 - lo.1, 2 * n + 1, 2 * n + 1, rfl, r3.up s4, r4, (c1.sub c2).mono (by omega), (c4.sub c2).mono (by omega), by omega, .inl ⟨hz, fun H5 v5 s5 r5 => ?_⟩⟩
            have s35 := (s3.trans s4).trans s5
            refine ⟨_, rfl, la, _, 1, l1, rfl, rfl, SqT.of (s35 _ _ hla), rfl, ?_⟩
            refine ⟨_, rfl, ha, _, 1, h1, rfl, rfl, SqT.of (s35 _ _ hha), rfl, _, rfl, la, _, 1, l1, rfl, rfl, SqT.of (s35 _ _ hla), rfl, hi.2, lo.2, n, n, hh1.up s35, hl1.up s35, c5, c3, by omega, fun H6 v6 s6 r6 => ?_⟩
            refine ⟨_, rfl, hi.2 - lo.2, _, 2 * n + 1, 4 * n + 2, r6, r5.up s6, (c5.sub c3).mono (by omega), ((c1.sub c2).div (c4.sub c2) hz).mono (by omega), by omega, fun H7 v7 s7 r7 => ?_⟩
            refine ⟨lo.2, _, n, 6 * n + 3, ((hl1.up s35).up s6).up s7, r7, c3, ((c5.sub c3).mul ((c1.sub c2).div (c4.sub c2) hz)).mono (by omega), by omega, fun H8 v8 s8 r8 => ?_⟩
            refine k _ _ ((((s2.trans s35).trans s6).trans s7).trans s8) ?_
            rw [eq]
            unfold betwO
            rw [if_pos t1, if_pos t2]
            exact r8
          · rw [decide_eq_false t2]
            refine iteT ?_
            refine ⟨_, rfl, ha, _, 1, h1, rfl, rfl, SqT.of hha, rfl, k _ _ s2 ?_⟩
            rw [eq]
            unfold betwO
            rw [if_pos t1, if_neg t2]
            exact hh1
        · rw [decide_eq_false t1]
          refine iteT ?_
          refine ⟨_, rfl, la, _, 1, l1, rfl, rfl, SqT.of hla, rfl, k _ _ s2 ?_⟩
          rw [eq]
          unfold betwO
          rw [if_neg t1]
          exact hl1
/-! inferred_move -/
def MvD {α : Type} (F : Den α) (H : Hp) (kv : Key × V) (m : Nat × α) : Prop := kv.1 = Sum.inl (m.1 : Int) ∧ F H kv.2 m.2
/-- the moves told by a dict -/
def DicD {α : Type} (F : Den α) (H : Hp) (d : Addr) (ms : List (Nat × α)) : Prop := ∃ kvs, Rd H d (.dK kvs) ∧ Paired (MvD F H) kvs ms
def mvAt {α : Type} (ms : List (Nat × α)) (i : Nat) : Option α := (ms.find? fun m => decide (m.1 = i)).map (·.2)
theorem mv_get {α : Type} {F : Den α} {H : Hp} (i : Nat) : ∀ {kvs : List (Key × V)} {ms : List (Nat × α)}, Paired (MvD F H) kvs ms → (valV kvs (Sum.inl (i : Int)) = none ∧ mvAt ms i = none) ∨ ∃ v m, valV kvs (Sum.inl (i : Int)) = some v ∧ mvAt ms i = some m ∧ F H v m
  | _, _, .nil => .inl ⟨rfl, rfl⟩
  | _, _, .cons (a := kv) (b := m) ⟨h1, h2⟩ r => by
    by_cases e : m.1 = i
    · refine .inr ⟨kv.2, m.2, valV_pos (by rw [h1, e]), ?_, h2⟩
      unfold mvAt
      rw [List.find?_cons_of_pos (by simpa using e)]
      rfl
    · have e1 : ¬ kv.1 = Sum.inl (i : Int) := fun z => by
        rw [h1] at z
        have := Sum.inl.inj z
        omega
      have e2 : ∀ l, mvAt (m :: l) i = mvAt l i := fun l => by
        unfold mvAt
        rw [List.find?_cons_of_neg (by simpa using e)]
      rw [valV_neg e1, e2]
      exact mv_get i r
theorem mon_mvD {α : Type} {F : Den α} (m : MonD F) {H H' : Hp} (s : Same H H') {kv : Key × V} {z : Nat × α} (h : MvD F H kv z) : MvD F H' kv z := ⟨h.1, m _ _ _ _ s h.2⟩
theorem rd_up {H H' : Hp} {a : Addr} {u : HO} (h : Rd H a u) (s : Same H H') : Rd H' a u := h.imp (fun z => s _ _ z) fun ⟨o, z⟩ => ⟨o, s _ _ z⟩
theorem DicD.up {α : Type} {F : Den α} (m : MonD F) {H H' : Hp} {d : Addr} {ms : List (Nat × α)} (h : DicD F H d ms) (s : Same H H') : DicD F H' d ms := by
  obtain ⟨kvs, h1, h2⟩ := h
  exact ⟨kvs, rd_up h1 s, Pd.imp h2 fun _ _ z => mon_mvD m s z⟩
/-- d[i] -/
theorem DicD.get {α : Type} {F : Den α} {H : Hp} {d : Addr} {ms : List (Nat × α)} (h : DicD F H d ms) (i : Nat) : ∃ o, DGet H d (.int (i : Int)) o ∧ ((o = none ∧ mvAt ms i = none) ∨ ∃ v m, o = some v ∧ mvAt ms i = some m ∧ F H v m) := by
  obtain ⟨kvs, h1, h2⟩ := h
  refine ⟨valV kvs (Sum.inl (i : Int)), .inl ⟨kvs, Sum.inl (i : Int), h1, rfl, rfl⟩, ?_⟩
  rcases mv_get i h2 with ⟨a, b⟩ | ⟨v, m, a, b, c⟩
  · exact .inl ⟨a, b⟩
  · exact .inr ⟨v, m, a, b, c⟩
theorem DicD.get1 {α : Type} {F : Den α} {H : Hp} {d : Addr} {ms : List (Nat × α)} (h : DicD F H d ms) {i : Nat} {m : α} (e : mvAt ms i = some m) : ∃ v, DGet H d (.int (i : Int)) (some v) ∧ F H v m := by
  obtain ⟨o, g, h⟩ := h.get i
  rcases h with ⟨_, z⟩ | ⟨v, m', rfl, z, f⟩
  · rw [e] at z; cases z
  · rw [e] at z
    cases z
    exact ⟨v, g, f⟩
theorem ru1 {k : Nat} {A : Around} (r : Room k A) : A.units + 1 < cLine := by have := r.un; omega
def comp (i : Nat) (q : Rat × Rat) : Rat := if i = 0 then q.1 else q.2
theorem pairAt {H : Hp} {v : V} {q : Rat × Rat} {i : Nat} (h : PrR C H v q) (hi : i < 2) : ∃ b x y z, v = .ref b ∧ H b = some (.tup [x, y]) ∧ atI [x, y] (i : Int) = some z ∧ RatV C H z (comp i q) := by
  obtain ⟨b, x, y, e, h1, h2, h3⟩ := h
  have c : i = 0 ∨ i = 1 := by omega
  rcases c with rfl | rfl
  · exact ⟨b, x, y, x, e, h1, rfl, h2⟩
  · exact ⟨b, x, y, y, e, h1, rfl, h3⟩
def infMove (p : Rat × Rat) (a ma b mb : Rat × Rat) : Rat × Rat := (betw p.1 (a.1, ma.1) (b.1, mb.1), betw p.2 (a.2, ma.2) (b.2, mb.2))
def BdP (n : Nat) (p : Rat × Rat) : Prop := Bd n p.1 ∧ Bd n p.2
theorem BdP.comp {n i : Nat} {p : Rat × Rat} (h : BdP n p) : Bd n (comp i p) := by
  unfold BF.comp
  split
  · exact h.1
  · exact h.2
def spInfMove (K : PySem.W.Frag) (C : Addr) : Sp := fun vs H Q _ => ∃ (a d e : Addr) (xs : List V) (ps : List (Rat × Rat)) (ms : List (Nat × (Rat × Rat))) (i f l : Nat) (p a1 m1 a2 m2 : Rat × Rat) (n : Nat),
  vs = [.ref a, .ref d, .int (i : Int), .ref e] ∧ H a = some (.lst xs) ∧ Paired (PrR C H) xs ps ∧ DicD (PrR C) H d ms ∧ H e = some (.tup [.int (f : Int), .int (l : Int)]) ∧
  ps[i]? = some p ∧ ps[f]? = some a1 ∧ ps[l]? = some a2 ∧ mvAt ms f = some m1 ∧ mvAt ms l = some m2 ∧ BdP n p ∧ BdP n a1 ∧ BdP n m1 ∧ BdP n a2 ∧ BdP n m2 ∧ n ≤ 800 ∧
  ∀ H' v, Same H H' → PrR C H' v (infMove p a1 m1 a2 m2) → Q v H'
abbrev nInfMove : List Str := ["points", "moves", "index", "ends", "first", "last", "found", "part", "one", "other"]
theorem scInfMove : FnScope nInfMove ["points", "moves", "index", "ends"] (defScope sInfMove) := ⟨rfl, rfl, rfl, by decide +kernel, rfl, by decide +kernel, by decide +kernel⟩
theorem ok_infmove (c : Cal P w K mg base CX0 5 "between" ["place", "one", "other"] (spBetween C)) (F : FnP K "inferred_move" "inferred_move" sInfMove f fd) : FnOk P w K mg base CX0 6 f fd ["points", "moves", "index", "ends"] (spInfMove K C) := by
  refine F.ok scInfMove (fun vs H Q E h => ?_) (fun cdv A outer s H vs Q E hr h => ?_)
  · obtain ⟨a, d, e, xs, ps, ms, i, f, l, p, a1, m1, a2, m2, n, rfl, _⟩ := h
    rfl
  · obtain ⟨a, d, e, xs, ps, ms, i, f, l, p, a1, m1, a2, m2, n, rfl, ha, hps, hms, he, gi, gf, gl, mf, ml, bp, ba1, bm1, ba2, bm2, hn, k⟩ := h
    refine ⟨_, PSs.nox (pss_cons (ps_asg (pv 3) (pg_t2 K (by rfl) (pg_name (i := 4) scInfMove.nd rfl (.inl rfl)) (pg_name (i := 5) scInfMove.nd rfl (.inl rfl))))
      (pss_cons (ps_set (i := 6) scInfMove.nd rfl (.inl rfl) (pe_lst pa_nil))
      (pss_cons (ps_for PassesOwn.never rfl (pi_tup (pe_tup (pa_cons pe_int (pa_cons pe_int pa_nil)))) (pg_name (i := 7) scInfMove.nd rfl (.inl rfl))
        (pss_cons (ps_set (i := 8) scInfMove.nd rfl (.inl rfl) (pe_tup (pa_cons (pe_ix ix_tup (pe_ix ix_list (pv 0) (pv 4) (fun _ _ => rfl)) (pv 7) (fun _ _ => rfl)) (pa_cons (pe_ix ix_tup (pe_dget (ru1 hr) (pv 1) (pv 4) (fun _ _ => rfl)) (pv 7) (fun _ _ => rfl)) pa_nil))))
        (pss_cons (ps_set (i := 9) scInfMove.nd rfl (.inl rfl) (pe_tup (pa_cons (pe_ix ix_tup (pe_ix ix_list (pv 0) (pv 5) (fun _ _ => rfl)) (pv 7) (fun _ _ => rfl)) (pa_cons (pe_ix ix_tup (pe_dget (ru1 hr) (pv 1) (pv 5) (fun _ _ => rfl)) (pv 7) (fun _ _ => rfl)) pa_nil))))
        (pss_one (ps_expr (pe_bm PySem.F.plainAttrs_list PySem.F.slot_list_append PySem.F.type_list_append mt_append (pv 6) (pa_cons (pe_cal c hr (by rfl) pass0 (pa_cons (pe_ix ix_tup (pe_ix ix_list (pv 0) (pv 2) (fun _ _ => rfl)) (pv 7) (fun _ _ => rfl)) (pa_cons (pv 8) (pa_cons (pv 9) pa_nil)))) pa_nil)))))))
      (pss_one (ps_ret (pe_tup (pa_cons (pe_ix ix_list (pv 6) pe_int (fun _ _ => rfl)) (pa_cons (pe_ix ix_list (pv 6) pe_int (fun _ _ => rfl)) pa_nil)))))))), ?_⟩
    refine ⟨_, rfl, gt2R (SqT.of he) ?_⟩
    refine ⟨Nat.zero_le _, fun L nL => ?_⟩
    have s1 := same_upd (o := .lst []) nL
    have h1 := upd_same (H := H) (a := L) (o := .lst [])
    generalize upd H L (.lst []) = H1 at s1 h1 ⊢
    refine ⟨(show (2 : Nat) ≤ sizeLine by decide), fun T nT => ?_⟩
    have s2 := same_upd (o := .tup [.int 0, .int 1]) nT
    have h2 := upd_same (H := H1) (a := T) (o := .tup [.int 0, .int 1])
    have hL2 := s2 _ _ h1
    generalize upd H1 T (.tup [.int 0, .int 1]) = H2 at s2 h2 hL2 ⊢
    have s12 := s1.trans s2
    have LT : T ≠ L := fun z => by rw [z, hL2] at h2; cases h2
    refine ⟨T, rfl, ⟨_, SqT.of h2⟩, for_tup (K := K) (a := T) (xs := [.int 0, .int 1]) (fun j σ' H' => ∃ u7 u8 u9 fs, σ' = [some (.ref a), some (.ref d), some (.int (i : Int)), some (.ref e), some (.int (f : Int)), some (.int (l : Int)), some (.ref L), u7, u8, u9] ∧
      Same H H' ∧ H' L = some (.lst fs) ∧ H' T = some (.tup [.int 0, .int 1]) ∧ Paired (RatV C H') fs ((List.range j).map fun m => betw (comp m p) (comp m a1, comp m m1) (comp m a2, comp m m2)))
      ⟨_, _, _, [], rfl, s12, hL2, h2, .nil⟩ (fun j σ' H' _ ⟨_, _, _, _, _, _, _, hT, _⟩ => SqT.of hT) ?_ ?_⟩
    · rintro j x σ' H3 hx ⟨u7, u8, u9, fs, rfl, sm, hL, hT, pr⟩
      have hj : j < 2 := (List.getElem?_eq_some_iff.mp hx).1
      have ex : x = .int (j : Int) := by
        have c : j = 0 ∨ j = 1 := by omega
        rcases c with rfl | rfl
        · exact (Option.some.inj hx).symm
        · exact (Option.some.inj hx).symm
      subst ex
      have fl : fs.length ≤ 2 := by
        have := Pd.len pr
        rw [List.length_map, List.length_range] at this
        omega
      refine gnm ?_
      have ps3 : Paired (PrR C H3) xs ps := Pd.imp hps fun _ _ z => mon_pairD mon_rat _ _ _ _ sm z
      have dd3 := hms.up (mon_pairD mon_rat) sm
      obtain ⟨v1, e1, r1⟩ := Pd.getR ps3 gf
      obtain ⟨v2, e2, r2⟩ := Pd.getR ps3 gl
      obtain ⟨v0, e0, r0⟩ := Pd.getR ps3 gi
      obtain ⟨w1, g1, q1⟩ := dd3.get1 mf
      obtain ⟨w2, g2, q2⟩ := dd3.get1 ml
      obtain ⟨b1, x1, y1, z1, rfl, hb1, at1, z1r⟩ := pairAt r1 hj
      obtain ⟨b2, x2, y2, z2, rfl, hb2, at2, z2r⟩ := pairAt r2 hj
      obtain ⟨b0, x0, y0, z0, rfl, hb0, at0, z0r⟩ := pairAt r0 hj
      obtain ⟨c1, x3, y3, n1, rfl, hc1, at3, n1r⟩ := pairAt q1 hj
      obtain ⟨c2, x4, y4, n2, rfl, hc2, at4, n2r⟩ := pairAt q2 hj
      have ha3 := sm _ _ ha
      refine ⟨_, rfl, _, rfl, a, xs, f, _, rfl, rfl, SqL.of ha3, atI_nat e1, _, rfl, b1, _, j, z1, rfl, rfl, SqT.of hb1, at1, ?_⟩
      refine ⟨_, rfl, _, rfl, d, _, rfl, g1, _, rfl, c1, _, j, n1, rfl, rfl, SqT.of hc1, at3, (show (2 : Nat) ≤ sizeLine by decide), fun T4 n4 => ?_⟩
      have s4 := same_upd (o := .tup [z1, n1]) n4
      have h4 := upd_same (H := H3) (a := T4) (o := .tup [z1, n1])
      generalize upd H3 T4 (.tup [z1, n1]) = H4 at s4 h4 ⊢
      have dg : ∀ {v : V} {o : Option V}, DGet H3 d v o → DGet H4 d v o := fun {v o} g => by
        rcases g with ⟨kvs, k, h, z⟩ | ⟨kvs, k, b, h, z, h', z'⟩
        · exact .inl ⟨kvs, k, rd_up h s4, z⟩
        · exact .inr ⟨kvs, k, b, rd_up h s4, z, s4 _ _ h', z'⟩
      refine ⟨_, rfl, _, rfl, a, xs, l, _, rfl, rfl, SqL.of (s4 _ _ ha3), atI_nat e2, _, rfl, b2, _, j, z2, rfl, rfl, SqT.of (s4 _ _ hb2), at2, ?_⟩
      refine ⟨_, rfl, _, rfl, d, _, rfl, dg g2, _, rfl, c2, _, j, n2, rfl, rfl, SqT.of (s4 _ _ hc2), at4, (show (2 : Nat) ≤ sizeLine by decide), fun T5 n5 => ?_⟩
      have s5 := same_upd (o := .tup [z2, n2]) n5
      have h5 := upd_same (H := H4) (a := T5) (o := .tup [z2, n2])
      generalize upd H4 T5 (.tup [z2, n2]) = H5 at s5 h5 ⊢
      have s45 := s4.trans s5
      refine ⟨_, rfl, .inl ⟨rfl, fs, SqL.of (s45 _ _ hL)⟩, ?_⟩
      refine ⟨_, rfl, _, rfl, a, xs, i, _, rfl, rfl, SqL.of (s45 _ _ ha3), atI_nat e0, _, rfl, b0, _, j, z0, rfl, rfl, SqT.of (s45 _ _ hb0), at0, ?_⟩
      refine ⟨_, rfl, _, rfl, z0, .ref T4, .ref T5, comp j p, (comp j a1, comp j m1), (comp j a2, comp j m2), n, rfl, z0r.up s45, ⟨T4, z1, n1, rfl, s5 _ _ h4, z1r.up s45, n1r.up s45⟩, ⟨T5, z2, n2, rfl, h5, z2r.up s45, n2r.up s45⟩, ⟨bp.comp, ⟨ba1.comp, bm1.comp⟩, ba2.comp, bm2.comp⟩, hn, fun H6 v6 s6 r6 => ?_⟩
      have s46 := s45.trans s6
      have hL6 := s46 _ _ hL
      refine ⟨L, fs, v6, rfl, rfl, hL6, Nat.lt_of_le_of_lt fl (by decide), ?_⟩
      refine ⟨_, _, _, fs ++ [v6], rfl, same_put (sm.trans s46) nL, upd_same, by rw [upd_ne LT]; exact s46 _ _ hT, ?_⟩
      rw [List.range_succ, List.map_append]
      exact Pd.append (Pd.imp pr fun _ _ z => offL_rat _ _ _ _ _ _ hL6 (z.up s46)) (.cons (offL_rat _ _ _ _ _ _ hL6 r6) .nil)
    · rintro σ' H3 ⟨u7, u8, u9, fs, rfl, sm, hL, hT, pr⟩
      match fs, pr with
      | [v0, v1], .cons r0 (.cons r1 .nil) =>
        refine ⟨_, rfl, L, _, 0, v0, rfl, rfl, SqL.of hL, rfl, _, rfl, L, _, 1, v1, rfl, rfl, SqL.of hL, rfl, (show (2 : Nat) ≤ sizeLine by decide), fun T4 n4 => ?_⟩
        have s4 := same_upd (o := .tup [v0, v1]) n4
        exact k _ _ (sm.trans s4) ⟨T4, v0, v1, rfl, upd_same, r0.up s4, r1.up s4⟩
end
end BF
set_option maxHeartbeats 4000000
/-! touched_around, infer. -/
namespace BF
open PySem PySem.Spec PyProof.Rows L2
abbrev sAround : Stmt := top 16
/-- a whole number from 0 on -/
def NatD : Den Nat := fun _ v i => v = .int (i : Int)
theorem mon_nat : MonD NatD := fun _ _ _ _ _ h => h
theorem offL_nat : OffL NatD := fun _ _ _ _ _ _ _ h => h
theorem upP_nat {P c : Addr} : UpP P c NatD := fun _ _ _ _ _ h _ _ => h
theorem pd_nat {H : Hp} : ∀ {xs : List V} {ns : List Nat}, Paired (NatD H) xs ns → xs = ns.map fun n : Nat => V.int (n : Int)
  | _, _, .nil => rfl
  | _, _, .cons h r => by rw [pd_nat r]; rw [show _ = V.int _ from h]; rfl
theorem nat_pd {H : Hp} : ∀ ns : List Nat, Paired (NatD H) (ns.map fun n : Nat => V.int (n : Int)) ns
  | [] => .nil
  | n :: r => .cons rfl (nat_pd r)
theorem nat_ints (ns : List Nat) : (ns.map fun n : Nat => V.int (n : Int)) = (ns.map fun n : Nat => (n : Int)).map V.int := by rw [List.map_map]; rfl
def prevT (ts : List Nat) (i : Nat) : Nat := match (ts.filter fun t => decide (t < i)).getLast? with
  | some x => x
  | none => ts.getLast?.getD 0
def nextT (ts : List Nat) (i : Nat) : Nat := match (ts.filter fun t => decide (i < t)).head? with
  | some x => x
  | none => ts.head?.getD 0
section
variable {P : Program} {w : World} {K : PySem.W.Frag} {mg : Str → Option Value} {base : Heap} {CX : CXT} {f : Addr} {fd : FuncData} {C CI CQ : Addr}
theorem at_last {ns : List Nat} {x : Nat} (h : ns.getLast? = some x) : atI (ns.map fun n : Nat => V.int (n : Int)) (-1) = some (.int (x : Int)) := by
  obtain ⟨l, rfl⟩ := List.getLast?_eq_some_iff.mp h
  rw [List.map_append]
  exact atI_last _ _
theorem at_head {ns : List Nat} {x : Nat} (h : ns.head? = some x) : atI (ns.map fun n : Nat => V.int (n : Int)) 0 = some (.int (x : Int)) := by
  cases ns with
  | nil => cases h
  | cons a l => cases h; exact atI_nat (j := 0) rfl
def spAround : Sp := fun vs H Q _ => ∃ (a : Addr) (ts : List Nat) (i : Nat), vs = [.ref a, .int (i : Int)] ∧ H a = some (.lst (ts.map fun n : Nat => V.int (n : Int))) ∧ ts ≠ [] ∧ ts.length ≤ 1000 ∧
  ∀ H' e, Same H H' → H' e = some (.tup [.int (prevT ts i : Nat), .int (nextT ts i : Nat)]) → Q (.ref e) H'
abbrev nAround : List Str := ["touched", "index", "before", "behind", "other"]
theorem scAround : FnScope nAround ["touched", "index"] (defScope sAround) := ⟨rfl, rfl, rfl, by decide +kernel, rfl, by decide +kernel, by decide +kernel⟩
/-- ns != [] -/
theorem neNil {H : Hp} {b e : Addr} {ns : List Nat} {Q : VK} (hb : H b = some (.lst (ns.map fun n : Nat => V.int (n : Int)))) (he : H e = some (.lst [])) (k : Q (.bl (!ns.isEmpty)) H) : rNeD K (.ref b) (.ref e) H Q := by
  rw [nat_ints] at hb
  refine ⟨.list ((ns.map fun n : Nat => (n : Int)).map PyData.int), .list [], .lst (SqL.of hb) (dp_ints _ _ _), .lst (SqL.of he) .nil, shaped_ints _, shaped_ints [], ?_⟩
  rw [eqv_ints_nil]
  cases ns with
  | nil => exact k
  | cons a l => exact k
theorem eqNil {H : Hp} {b e : Addr} {ns : List Nat} {Q : VK} (hb : H b = some (.lst (ns.map fun n : Nat => V.int (n : Int)))) (he : H e = some (.lst [])) (k : Q (.bl ns.isEmpty) H) : rEqD K (.ref b) (.ref e) H Q := by
  rw [nat_ints] at hb
  refine ⟨.list ((ns.map fun n : Nat => (n : Int)).map PyData.int), .list [], .lst (SqL.of hb) (dp_ints _ _ _), .lst (SqL.of he) .nil, shaped_ints _, shaped_ints [], ?_⟩
  rw [eqv_ints_nil]
  cases ns with
  | nil => exact k
  | cons a l => exact k
theorem ok_around (F : FnP K "touched_around" "touched_around" sAround f fd) : FnOk P w K mg base CX0 1 f fd ["touched", "index"] spAround := by
  refine F.ok scAround (fun vs H Q E h => ?_) (fun cdv A outer s H vs Q E hr h => ?_)
  · obtain ⟨a, ts, i, rfl, _⟩ := h
    rfl
  · obtain ⟨a, ts, i, rfl, ha, hn, hl, k⟩ := h
    refine ⟨_, PSs.nox (pss_cons (ps_setLc (i := 2) (own := [("other", 4)]) (g := gName 4) (te := tVar 4) rfl scAround.nd rfl rfl (sw_true rfl rfl rfl (by decide +kernel)) (pi_list (pv 0)) (blkOk_by (N := nAround) (sc := defScope sAround) (by decide +kernel))
        (fun _ _ _ _ _ => pg_name (i := 4) scAround.nd rfl (.inl rfl)) (fun _ _ _ _ _ => pts_one (pt_cmpR op_lt (pv 4) (pv 1) (nomark _))) (fun _ _ _ _ _ => pv 4))
      (pss_cons (ps_setLc (i := 3) (own := [("other", 4)]) (g := gName 4) (te := tVar 4) rfl scAround.nd rfl rfl (sw_true rfl rfl rfl (by decide +kernel)) (pi_list (pv 0)) (blkOk_by (N := nAround) (sc := defScope sAround) (by decide +kernel))
        (fun _ _ _ _ _ => pg_name (i := 4) scAround.nd rfl (.inl rfl)) (fun _ _ _ _ _ => pts_one (pt_cmpR op_gt (pv 4) (pv 1) (nomark _))) (fun _ _ _ _ _ => pv 4))
      (pss_one (ps_ret (pe_tup (pa_cons (pe_ifExp (pt_cmpR (op_neD hr.units) (pv 2) (pe_lst pa_nil) (nomark _)) (pe_ix ix_list (pv 2) (pe_un un_neg pe_int) (fun _ _ => rfl)) (pe_ix ix_list (pv 0) (pe_un un_neg pe_int) (fun _ _ => rfl)))
        (pa_cons (pe_ifExp (pt_cmpR (op_neD hr.units) (pv 3) (pe_lst pa_nil) (nomark _)) (pe_ix ix_list (pv 3) pe_int (fun _ _ => rfl)) (pe_ix ix_list (pv 0) pe_int (fun _ _ => rfl))) pa_nil))))))), ?_⟩
    have tl : (ts.map fun n : Nat => V.int (n : Int)).length ≤ 100000 := by rw [List.length_map]; omega
    refine asgLc ?_
    refine lcE ?_
    refine ⟨_, rfl, a, rfl, ⟨_, SqL.of ha⟩, ?_⟩
    refine lcG (K := K) (F := NatD) (G := NatD) (fun t => decide (t < i)) id (SqL.of ha) (nat_pd ts) mon_nat mon_nat offL_nat tl ?_ ?_
    · rintro x z H' hm s1 hx kT kF h1 h2
      obtain rfl : x = V.int (z : Int) := hx
      refine gnm ⟨wipe1 _ _ _, ?_⟩
      refine ⟨_, rfl, _, rfl, _, _, rfl, rfl, _, rfl, ite2 (fun hc => ?_) (fun hc => ?_)⟩
      · have := of_decide_eq_true hc
        exact ⟨_, rfl, h1 (decide_eq_true (by omega)) H' _ (Same.refl _) rfl⟩
      · exact h2 (decide_eq_false fun q => hc (decide_eq_true (by omega))) H' (Same.refl _)
    intro H1 D1 ys1 s1 n1 h1 p1
    rw [List.map_id] at p1
    have e1 := pd_nat p1
    subst e1
    dsimp only
    refine asgLc ?_
    refine lcE ?_
    refine ⟨_, rfl, a, rfl, ⟨_, SqL.of (s1 _ _ ha)⟩, ?_⟩
    refine lcG (K := K) (F := NatD) (G := NatD) (fun t => decide (i < t)) id (SqL.of (s1 _ _ ha)) (nat_pd ts) mon_nat mon_nat offL_nat tl ?_ ?_
    · rintro x z H' hm s1 hx kT kF h1 h2
      obtain rfl : x = V.int (z : Int) := hx
      refine gnm ⟨wipe1 _ _ _, ?_⟩
      refine ⟨_, rfl, _, rfl, _, _, rfl, rfl, _, rfl, ite2 (fun hc => ?_) (fun hc => ?_)⟩
      · have := of_decide_eq_true hc
        exact ⟨_, rfl, h1 (decide_eq_true (by omega)) H' _ (Same.refl _) rfl⟩
      · exact h2 (decide_eq_false fun q => hc (decide_eq_true (by omega))) H' (Same.refl _)
    intro H2 D2 ys2 s2 n2 h2 p2
    rw [List.map_id] at p2
    have e2 := pd_nat p2
    subst e2
    have s12 := s1.trans s2
    refine ⟨_, rfl, Nat.zero_le _, fun E3 n3 => ?_⟩
    have s3 := same_upd (o := .lst []) n3
    have h3 := upd_same (H := H2) (a := E3) (o := .lst [])
    generalize upd H2 E3 (.lst []) = H3 at s3 h3 ⊢
    have ha3 := s3 _ _ (s12 _ _ ha)
    refine neNil (s3 _ _ (s2 _ _ h1)) h3 ⟨_, rfl, ?_⟩
    have s123 := s12.trans s3
    have fin : ∀ (H4 : Hp) (x : Nat), Same H3 H4 → x = prevT ts i → (tCons (tIf (tTest (tOp (rNeD K) (tVar 3) (tLst tNil))) (tOp (rIxL K) (tVar 3) (tC (V.int 0))) (tOp (rIxL K) (tVar 0) (tC (V.int 0)))) tNil) [some (V.ref a), some (V.int (i : Int)), some (V.ref D1), some (V.ref D2), none] H4
        (fun vs H1 => (V.int (x : Int) :: vs).length ≤ sizeLine ∧ ∀ p, H1 p = none → Q (.ref p) (upd H1 p (.tup (V.int (x : Int) :: vs)))) := by
      intro H4 x s4 ex
      refine ⟨_, rfl, Nat.zero_le _, fun E5 n5 => ?_⟩
      have s5 := same_upd (o := .lst []) n5
      have h5 := upd_same (H := H4) (a := E5) (o := .lst [])
      generalize upd H4 E5 (.lst []) = H5 at s5 h5 ⊢
      have s45 := s4.trans s5
      refine neNil (s45 _ _ (s3 _ _ h2)) h5 ⟨_, rfl, ?_⟩
      have done : ∀ y : Nat, y = nextT ts i → ([V.int (x : Int), V.int (y : Int)]).length ≤ sizeLine ∧ ∀ p, H5 p = none → Q (.ref p) (upd H5 p (.tup [V.int (x : Int), V.int (y : Int)])) := fun y ey => by
        refine ⟨(show (2 : Nat) ≤ sizeLine by decide), fun p np => k _ _ ((s123.trans s45).trans (same_upd np)) ?_⟩
        rw [← ex, ← ey]
        exact upd_same
      cases q : (ts.filter fun t => decide (i < t)) with
      | nil =>
        refine iteF ?_
        cases ts with
        | nil => exact absurd rfl hn
        | cons t0 tr =>
          refine ⟨_, rfl, a, _, 0, _, rfl, rfl, SqL.of (s45 _ _ ha3), at_head (x := t0) rfl, done t0 ?_⟩
          unfold nextT
          rw [q]
          rfl
      | cons t0 tr =>
        refine iteT ?_
        refine ⟨_, rfl, D2, _, 0, _, rfl, rfl, SqL.of (s45 _ _ (s3 _ _ h2)), ?_, done t0 ?_⟩
        · exact at_head (by rw [q]; rfl)
        · unfold nextT
          rw [q]
          rfl
    cases q : (ts.filter fun t => decide (t < i)) with
    | nil =>
      refine iteF ?_
      obtain ⟨x, ex⟩ : ∃ x, ts.getLast? = some x := by
        cases e : ts.getLast? with
        | none => exact absurd (List.getLast?_eq_none_iff.mp e) hn
        | some x => exact ⟨x, rfl⟩
      refine ⟨_, rfl, 1, rfl, a, _, -1, _, rfl, rfl, SqL.of ha3, at_last ex, ?_⟩
      refine fin H3 x (Same.refl _) ?_
      unfold prevT
      rw [q, ex]
      rfl
    | cons t0 tr =>
      refine iteT ?_
      obtain ⟨x, ex⟩ : ∃ x, (ts.filter fun t => decide (t < i)).getLast? = some x := by
        cases e : (ts.filter fun t => decide (t < i)).getLast? with
        | none => rw [List.getLast?_eq_none_iff.mp e] at q; cases q
        | some x => exact ⟨x, rfl⟩
      refine ⟨_, rfl, 1, rfl, D1, _, -1, _, rfl, rfl, SqL.of (s3 _ _ (s2 _ _ h1)), at_last ex, ?_⟩
      refine fin H3 x (Same.refl _) ?_
      unfold prevT
      rw [ex]
end
end BF
set_option maxHeartbeats 4000000
/-! infer. -/
namespace BF
open PySem PySem.Spec PyProof.Rows L2
abbrev sInfer : Stmt := top 17
/-! ### what infer tells -/
def IsKey {α : Type} (ms : List (Nat × α)) (i : Nat) : Prop := ∃ m, mvAt ms i = some m
/-- how far behind i, going round -/
def cdist (n i f : Nat) : Nat := if f ≤ i then i - f else i + n - f
def IsPrev {α : Type} (n : Nat) (ms : List (Nat × α)) (i f : Nat) : Prop := IsKey ms f ∧ ∀ g, IsKey ms g → cdist n i f ≤ cdist n i g
def IsNext {α : Type} (n : Nat) (ms : List (Nat × α)) (i f : Nat) : Prop := IsKey ms f ∧ ∀ g, IsKey ms g → cdist n f i ≤ cdist n g i
def InfAt (ps : List (Rat × Rat)) (ms : List (Nat × (Rat × Rat))) (i : Nat) (p r : Rat × Rat) : Prop := (ms = [] ∧ r = (0, 0)) ∨ mvAt ms i = some r ∨ (mvAt ms i = none ∧ ∃ f l a1 m1 a2 m2, IsPrev ps.length ms i f ∧ IsNext ps.length ms i l ∧ ps[f]? = some a1 ∧ mvAt ms f = some m1 ∧ ps[l]? = some a2 ∧ mvAt ms l = some m2 ∧ r = infMove p a1 m1 a2 m2)
structure IsInf (ps : List (Rat × Rat)) (ms : List (Nat × (Rat × Rat))) (out : List (Rat × Rat)) : Prop where
  len : out.length = ps.length
  all : ∀ i p r, ps[i]? = some p → out[i]? = some r → InfAt ps ms i p r
theorem key_mem {α : Type} {i : Nat} : ∀ {ms : List (Nat × α)}, IsKey ms i ↔ i ∈ ms.map (·.1)
  | [] => ⟨fun ⟨_, h⟩ => (by cases h), fun h => (by cases h)⟩
  | m :: ms => by
    have ih := key_mem (i := i) (ms := ms)
    by_cases e : m.1 = i
    · refine ⟨fun _ => by rw [← e]; exact List.mem_cons_self, fun _ => ⟨m.2, ?_⟩⟩
      unfold mvAt
      rw [List.find?_cons_of_pos (by simpa using e)]
      rfl
    · have e2 : mvAt (m :: ms) i = mvAt ms i := by
        unfold mvAt
        rw [List.find?_cons_of_neg (by simpa using e)]
      unfold IsKey
      rw [e2, List.map_cons, List.mem_cons]
      exact ⟨fun h => .inr (ih.mp h), fun h => h.elim (fun z => absurd z.symm e) ih.mpr⟩
theorem not_key {α : Type} {ms : List (Nat × α)} {i : Nat} (h : ¬ IsKey ms i) : mvAt ms i = none := by
  cases e : mvAt ms i with
  | none => rfl
  | some m => exact absurd ⟨m, e⟩ h
theorem last_ge {l : List Nat} (h : l.Pairwise (· ≤ ·)) {x y : Nat} (e : l.getLast? = some x) (m : y ∈ l) : y ≤ x := by
  obtain ⟨l', rfl⟩ := List.getLast?_eq_some_iff.mp e
  rcases List.mem_append.mp m with m | m
  · exact (List.pairwise_append.mp h).2.2 y m x (by simp)
  · rw [List.mem_singleton.mp m]
    exact Nat.le_refl _
theorem head_le {l : List Nat} (h : l.Pairwise (· ≤ ·)) {x y : Nat} (e : l.head? = some x) (m : y ∈ l) : x ≤ y := by
  cases l with
  | nil => cases e
  | cons a l =>
    cases e
    rcases List.mem_cons.mp m with rfl | m
    · exact Nat.le_refl _
    · exact (List.pairwise_cons.mp h).1 y m
theorem prev_is {α : Type} {ms : List (Nat × α)} {ts : List Nat} {n i : Nat} (hp : ts.Perm (ms.map (·.1))) (hs : ts.Pairwise (· ≤ ·)) (hn : ts ≠ []) (hk : ∀ k, IsKey ms k → k < n) (hi : i < n) (ni : ¬ IsKey ms i) : IsPrev n ms i (prevT ts i) := by
  have mem : ∀ k, IsKey ms k ↔ k ∈ ts := fun k => key_mem.trans hp.mem_iff.symm
  unfold prevT
  cases e : (ts.filter fun t => decide (t < i)).getLast? with
  | some x =>
    have hx := List.mem_of_getLast? e
    obtain ⟨hx1, hx2⟩ := List.mem_filter.mp hx
    have hx2 := of_decide_eq_true hx2
    refine ⟨(mem x).mpr hx1, fun g hg => ?_⟩
    have hgn := hk g hg
    have gi : g ≠ i := fun z => ni (z ▸ hg)
    show cdist n i x ≤ cdist n i g
    unfold cdist
    by_cases c : g < i
    · have := last_ge (hs.filter _) e (List.mem_filter.mpr ⟨(mem g).mp hg, decide_eq_true c⟩)
      rw [if_pos (by omega), if_pos (by omega)]
      omega
    · rw [if_pos (by omega), if_neg (by omega)]
      omega
  | none =>
    have em := List.getLast?_eq_none_iff.mp e
    have no : ∀ t ∈ ts, ¬ t < i := fun t ht c => by
      have : t ∈ ts.filter fun t => decide (t < i) := List.mem_filter.mpr ⟨ht, decide_eq_true c⟩
      rw [em] at this
      cases this
    obtain ⟨x, ex⟩ : ∃ x, ts.getLast? = some x := by
      cases e : ts.getLast? with
      | none => exact absurd (List.getLast?_eq_none_iff.mp e) hn
      | some x => exact ⟨x, rfl⟩
    show IsPrev n ms i (ts.getLast?.getD 0)
    rw [ex]
    show IsPrev n ms i x
    have hx := List.mem_of_getLast? ex
    have xi : x ≠ i := fun z => ni (z ▸ (mem x).mpr hx)
    refine ⟨(mem x).mpr hx, fun g hg => ?_⟩
    have hgn := hk g hg
    have g1 := no g ((mem g).mp hg)
    have x1 := no x hx
    have gi : g ≠ i := fun z => ni (z ▸ hg)
    have := last_ge hs ex ((mem g).mp hg)
    unfold cdist
    rw [if_neg (by omega), if_neg (by omega)]
    omega
theorem next_is {α : Type} {ms : List (Nat × α)} {ts : List Nat} {n i : Nat} (hp : ts.Perm (ms.map (·.1))) (hs : ts.Pairwise (· ≤ ·)) (hn : ts ≠ []) (hk : ∀ k, IsKey ms k → k < n) (hi : i < n) (ni : ¬ IsKey ms i) : IsNext n ms i (nextT ts i) := by
  have mem : ∀ k, IsKey ms k ↔ k ∈ ts := fun k => key_mem.trans hp.mem_iff.symm
  unfold nextT
  cases e : (ts.filter fun t => decide (i < t)).head? with
  | some x =>
    have hx := List.mem_of_head? e
    obtain ⟨hx1, hx2⟩ := List.mem_filter.mp hx
    have hx2 := of_decide_eq_true hx2
    refine ⟨(mem x).mpr hx1, fun g hg => ?_⟩
    have hgn := hk g hg
    have hxn := hk x ((mem x).mpr hx1)
    have gi : g ≠ i := fun z => ni (z ▸ hg)
    show cdist n x i ≤ cdist n g i
    unfold cdist
    by_cases c : i < g
    · have := head_le (hs.filter _) e (List.mem_filter.mpr ⟨(mem g).mp hg, decide_eq_true c⟩)
      rw [if_pos (by omega), if_pos (by omega)]
      omega
    · rw [if_pos (by omega), if_neg (by omega)]
      omega
  | none =>
    have em := List.head?_eq_none_iff.mp e
    have no : ∀ t ∈ ts, ¬ i < t := fun t ht c => by
      have : t ∈ ts.filter fun t => decide (i < t) := List.mem_filter.mpr ⟨ht, decide_eq_true c⟩
      rw [em] at this
      cases this
    obtain ⟨x, ex⟩ : ∃ x, ts.head? = some x := by
      cases ts with
      | nil => exact absurd rfl hn
      | cons a l => exact ⟨a, rfl⟩
    show IsNext n ms i (ts.head?.getD 0)
    rw [ex]
    show IsNext n ms i x
    have hx := List.mem_of_head? ex
    have xi : x ≠ i := fun z => ni (z ▸ (mem x).mpr hx)
    refine ⟨(mem x).mpr hx, fun g hg => ?_⟩
    have hgn := hk g hg
    have g1 := no g ((mem g).mp hg)
    have x1 := no x hx
    have gi : g ≠ i := fun z => ni (z ▸ hg)
    have := head_le hs ex ((mem g).mp hg)
    unfold cdist
    rw [if_neg (by omega), if_neg (by omega)]
    omega
end BF
set_option maxHeartbeats 4000000
namespace BF
open PySem PySem.Spec PyProof.Rows L2
theorem offM_num {C : Addr} : OffM (Num C) := fun D H u o v z hd n h => h.imp (fun r => offM_rat _ _ _ _ _ _ hd n r) id
section
variable {P : Program} {w : World} {K : PySem.W.Frag} {mg : Str → Option Value} {base : Heap} {CX : CXT} {f : Addr} {fd : FuncData} {C CI CQ : Addr}
def spInfer (K : PySem.W.Frag) (C : Addr) : Sp := fun vs H Q _ => ∃ (a d : Addr) (xs : List V) (kvs : List (Key × V)) (ps : List (Rat × Rat)) (ms : List (Nat × (Rat × Rat))) (n : Nat),
  vs = [.ref a, .ref d] ∧ SqL K H a xs ∧ Paired (PairD (Num C) H) xs ps ∧ xs.length ≤ 60 ∧ H d = some (.dK kvs) ∧ Paired (MvD (PairD (Num C)) H) kvs ms ∧ ms.length ≤ 60 ∧ (ms.map (·.1)).Nodup ∧ (∀ m ∈ ms, m.1 < ps.length) ∧
  (∀ p ∈ ps, BdP n p) ∧ (∀ m ∈ ms, BdP n m.2) ∧ n ≤ 800 ∧
  ∀ H' l ys out, Same H H' → H l = none → H' l = some (.lst ys) → Paired (PrR C H') ys out → IsInf ps ms out → Q (.ref l) H'
abbrev nInfer : List Str := ["points", "moves", "here", "known", "touched", "found", "index", "point"]
theorem scInfer : FnScope nInfer ["points", "moves"] (defScope sInfer) := ⟨rfl, rfl, rfl, by decide +kernel, rfl, by decide +kernel, by decide +kernel⟩
theorem asgDc {wi : TI} {g : TG} {tt : TT} {tk tv : TE} {vs : List Nat} {i : Nat} {D : Ends} {σ : L2.St} {H : Hp} (h : wi σ H fun J H1 => DcBody J g tt tk tv vs σ (fun x H2 => D.nx (σ.set i (some x)) H2) H1) : tAsg (tDc wi g tt tk tv vs) (gName i) D σ H := h
theorem mv_of_get {α : Type} : ∀ {ms : List (Nat × α)} {j : Nat} {m : Nat × α}, (ms.map (·.1)).Nodup → ms[j]? = some m → mvAt ms m.1 = some m.2
  | [], j, m, _, e => by simp at e
  | a :: ms, 0, m, _, e => by
    cases e
    unfold mvAt
    rw [List.find?_cons_of_pos (by simp)]
    rfl
  | a :: ms, j + 1, m, nd, e => by
    have e' : ms[j]? = some m := by simpa using e
    have nd' := List.nodup_cons.mp nd
    have ne : ¬ a.1 = m.1 := fun z => nd'.1 (by show a.1 ∈ _; rw [z]; exact List.mem_map_of_mem (List.mem_of_getElem? e'))
    have ih := mv_of_get nd'.2 e'
    unfold mvAt at ih ⊢
    rw [List.find?_cons_of_neg (by simpa using ne)]
    exact ih
theorem mv_take {α : Type} {ms : List (Nat × α)} {j : Nat} {m : Nat × α} (nd : (ms.map (·.1)).Nodup) (e : ms[j]? = some m) : mvAt (ms.take j) m.1 = none := by
  refine not_key fun h => ?_
  have hm := key_mem.mp h
  have hj : j < ms.length := (List.getElem?_eq_some_iff.mp e).1
  obtain ⟨x, hx, ex⟩ := List.mem_map.mp hm
  obtain ⟨i, hi, ei⟩ := List.mem_iff_getElem.mp hx
  rw [List.length_take] at hi
  have e1 : (ms.map (·.1))[i]? = some m.1 := by
    rw [List.getElem?_map, List.getElem?_eq_getElem (by omega), ← ex, ← ei, List.getElem_take]
    rfl
  have e2 : (ms.map (·.1))[j]? = some m.1 := by rw [List.getElem?_map, e]; rfl
  have := (List.getElem?_inj (by rw [List.length_map]; omega) nd).mp (e1.trans e2.symm)
  omega
theorem mv_keys {α : Type} {F : Den α} {H : Hp} : ∀ {kvs : List (Key × V)} {ms : List (Nat × α)}, Paired (MvD F H) kvs ms → kvs.map (·.1) = (ms.map fun m => (m.1 : Int)).map Sum.inl
  | _, _, .nil => rfl
  | _, _, .cons ⟨h, _⟩ r => by rw [List.map_cons, List.map_cons, List.map_cons, h, mv_keys r]
theorem mv_mem {α : Type} {ms : List (Nat × α)} {i : Nat} {m : α} (h : mvAt ms i = some m) : (i, m) ∈ ms := by
  unfold mvAt at h
  cases e : ms.find? fun m => decide (m.1 = i) with
  | none => rw [e] at h; cases h
  | some x =>
    rw [e] at h
    have h1 := List.mem_of_find?_eq_some e
    have h2 := List.find?_some e
    have h3 : x.1 = i := of_decide_eq_true h2
    have h4 : x.2 = m := Option.some.inj h
    rw [← h3, ← h4]
    exact h1
theorem yesE {σ : L2.St} {H : Hp} {Q : Bool → Hp → Prop} (h : Q true H) : tYes σ H Q := h
theorem tupE {t : TA} {σ : L2.St} {H : Hp} {Q : VK} (h : t σ H fun xs H1 => xs.length ≤ sizeLine ∧ ∀ p, H1 p = none → Q (.ref p) (upd H1 p (.tup xs))) : tTup t σ H Q := h
theorem consE {te : TE} {t : TA} {σ : L2.St} {H : Hp} {k : List V → Hp → Prop} (h : te σ H fun x H1 => t σ H1 fun xs H2 => k (x :: xs) H2) : tCons te t σ H k := h
theorem mk1E {t : Int} {σ : L2.St} {H : Hp} {Q : VK} {E : XK} (h8 : t.natAbs < 2 ^ 8000) (k : ∀ H' v', Same H H' → RatV C H' v' (t : Rat) → Q v' H') : tMake C (spInit K C CI) [.int 1] E (tCons (tC (.int t)) tNil) σ H Q := mk1 h8 k
structure CsI (P : Program) (w : World) (K : PySem.W.Frag) (mg : Str → Option Value) (base : Heap) (C : Addr) : Prop where
  aspairs : Cal P w K mg base CX0 5 "as_pairs" ["pairs"] (spAsPairs K C)
  move : Cal P w K mg base CX0 6 "inferred_move" ["points", "moves", "index", "ends"] (spInfMove K C)
  around : Cal P w K mg base CX0 1 "touched_around" ["touched", "index"] spAround
theorem ok_infer (R : RK P w K mg base C CI CQ) (c : CsI P w K mg base C) (F : FnP K "infer" "infer" sInfer f fd) : FnOk P w K mg base CX0 7 f fd ["points", "moves"] (spInfer K C) := by
  refine F.ok scInfer (fun vs H Q E h => ?_) (fun cdv A outer s H vs Q E hr h => ?_)
  · obtain ⟨a, d, xs, kvs, ps, ms, n, rfl, _⟩ := h
    rfl
  · obtain ⟨a, d, xs, kvs, ps, ms, n, rfl, ha, hps, hxl, hd, hms, kl, nod, keys, bps, bms, hn, k⟩ := h
    have r1 := hr.mono (show 1 ≤ 6 by decide)
    have r3 := hr.mono (show 3 ≤ 6 by decide)
    have r4 := hr.mono (show 4 ≤ 6 by decide)
    have r5 := hr.mono (show 5 ≤ 6 by decide)
    refine ⟨_, PSs.nox (pss_cons (ps_set (i := 2) scInfer.nd rfl (.inl rfl) (pe_cal c.aspairs r5 (by rfl) pass0 (pa_cons (pv 0) pa_nil)))
      (pss_cons (ps_lock (ps_setDc (i := 3) (own := [("index", 6)]) (g := gName 6) (tt := tYes) (tk := tVar 6) rfl scInfer.nd rfl rfl (sw_trueD rfl rfl rfl (by decide +kernel)) (pi_keys (pv 1)) (blkOk_by (N := nInfer) (sc := defScope sInfer) (by decide +kernel))
        (fun _ _ _ _ _ => pg_name (i := 6) scInfer.nd rfl (.inl rfl)) (fun _ _ _ _ _ => pts_nil) (fun _ _ _ _ _ => pv 6)
        (fun _ _ _ _ _ => pe_tup (pa_cons (pe_rof R r4 (pe_glob (v := .ref C) (by rfl) R.mgC rfl) (pa_cons (pe_ix (ixT K) (pe_dget (ru1 r1) (pv 1) (pv 6) (fun _ _ => rfl)) pe_int (fun _ _ => rfl)) pa_nil)) (pa_cons (pe_rof R r4 (pe_glob (v := .ref C) (by rfl) R.mgC rfl) (pa_cons (pe_ix (ixT K) (pe_dget (ru1 r1) (pv 1) (pv 6) (fun _ _ => rfl)) pe_int (fun _ _ => rfl)) pa_nil)) pa_nil)))))
      (pss_cons (ps_set (i := 4) scInfer.nd rfl (.inl rfl) (pe_callB (call_sortedDI rfl) (by rfl) R.B.sorted (by decide +kernel) (pa_cons (pv 3) pa_nil)))
      (pss_cons (ps_if (pt_cmpR (op_eqD hr.units) (pv 4) (pe_lst pa_nil) (nomark _)) (pss_one (ps_ret (pe_lc (own := [("point", 7)]) (g := gName 7) (tt := tYes) (te := tTup (tCons (tMake C (spInit K C CI) [.int 1] E0 (tCons (tC (.int 0)) tNil)) (tCons (tMake C (spInit K C CI) [.int 1] E0 (tCons (tC (.int 0)) tNil)) tNil))) rfl scInfer.nd (pi_list (pv 2)) (blkOk_by (N := nInfer) (sc := defScope sInfer) (by decide +kernel))
          (fun _ _ _ _ _ => pg_name (i := 7) scInfer.nd rfl (.inl rfl)) (fun _ _ _ _ _ => pts_nil) (fun _ _ _ _ _ => pe_tup (pa_cons (pe_ratio1 R r3 (by rfl) R.mgC (pa_cons pe_int pa_nil)) (pa_cons (pe_ratio1 R r3 (by rfl) R.mgC (pa_cons pe_int pa_nil)) pa_nil)))))) pss_nil)
      (pss_cons (ps_set (i := 5) scInfer.nd rfl (.inl rfl) (pe_lst pa_nil))
      (pss_cons (ps_for PassesOwn.never rfl (pi_range1 rfl R.B.range (pa_cons (pe_callB (lenK K) (by rfl) R.B.len PySem.boot_len (pa_cons (pv 2) pa_nil)) pa_nil)) (pg_name (i := 6) scInfer.nd rfl (.inl rfl))
        (pss_one (ps_if (pt_cmp (pc_din (ru1 hr) (pv 6) (pv 3))) (pss_one (ps_expr (pe_bm PySem.F.plainAttrs_list PySem.F.slot_list_append PySem.F.type_list_append mt_append (pv 5) (pa_cons (pe_dget (ru1 hr) (pv 3) (pv 6) (fun _ _ => rfl)) pa_nil))))
          (pss_one (ps_expr (pe_bm PySem.F.plainAttrs_list PySem.F.slot_list_append PySem.F.type_list_append mt_append (pv 5) (pa_cons (pe_cal c.move hr (by rfl) pass0 (pa_cons (pv 2) (pa_cons (pv 3) (pa_cons (pv 6) (pa_cons (pe_cal c.around r1 (by rfl) pass0 (pa_cons (pv 4) (pa_cons (pv 6) pa_nil))) pa_nil))))) pa_nil)))))))
      (pss_one (ps_ret (pv 5))))))))), ?_⟩
    refine ⟨_, rfl, a, xs, ps, rfl, ha, hps, by omega, fun H1 h1 ys1 s1 n1 hh1 pp1 => ?_⟩
    refine ⟨d, _, s1 _ _ hd, trivial, fun od => ?_⟩
    have hd1 := s1 _ _ hd
    have lock := upd_same (H := H1) (a := d) (o := .frz od (.dK kvs))
    have msL : Paired (MvD (PairD (Num C)) (upd H1 d (.frz od (.dK kvs)))) kvs ms := Pd.imp hms fun _ _ z => ⟨z.1, offM_pair offM_num _ _ _ _ _ _ hd1 nit_dk (mon_pairD mon_num _ _ _ _ s1 z.2)⟩
    have lockS : ∀ {H'}, Same (upd H1 d (.frz od (.dK kvs))) H' → Same H1 (upd H' d (.dK kvs)) := fun s => lock_same hd1 s
    generalize upd H1 d (.frz od (.dK kvs)) = L1 at lock msL lockS ⊢
    refine asgDc ?_
    refine ⟨_, rfl, d, od, rfl, .inl ⟨kvs, lock, fun D nD => ?_⟩⟩
    have ml : kvs.length = ms.length := Pd.len hms
    have dD : D ≠ d := fun z => by rw [z, lock] at nD; cases nD
    refine dc_keys (d := d) (o := od) (kvs := kvs) (fun j H' => ∃ kv2, Same L1 H' ∧ H' D = some (.dK kv2) ∧ Paired (MvD (PrR C) H') kv2 (ms.take j)) ⟨[], same_upd nD, upd_same, .nil⟩ (fun j H' _ ⟨_, sm, _⟩ => sm _ _ lock) ?_ ?_
    · rintro j kk vv H2 ej ⟨kv2, sm, hD, pr⟩
      obtain ⟨m, em, ek, fv⟩ := Pd.get hms ej
      simp only at ek
      subst ek
      have dic : DicD (PairD (Num C)) H2 d ms := ⟨kvs, .inr ⟨od, sm _ _ lock⟩, Pd.imp msL fun _ _ z => mon_mvD (mon_pairD mon_num) sm z⟩
      have hmv := mv_of_get nod em
      obtain ⟨v, gv, hv⟩ := dic.get1 hmv
      obtain ⟨b, x, y, rfl, hb, hx, hy⟩ := hv
      refine gnm ⟨wipe1 _ _ _, yesE (iteT ?_)⟩
      refine ⟨_, rfl, ?_⟩
      refine ⟨rfl, _, rfl, _, rfl, d, _, rfl, gv, b, _, 0, x, rfl, rfl, SqT.of hb, rfl, x, m.2.1, rfl, hx, fun H3 v3 s3 r3 => ?_⟩
      have gv3 : DGet H3 d (.int (m.1 : Int)) (some (.ref b)) := by
        rcases gv with ⟨q1, q2, h, z⟩ | ⟨q1, q2, q3, h, z, h', z'⟩
        · exact .inl ⟨q1, q2, rd_up h s3, z⟩
        · exact .inr ⟨q1, q2, q3, rd_up h s3, z, s3 _ _ h', z'⟩
      refine ⟨rfl, _, rfl, _, rfl, d, _, rfl, gv3, b, _, 1, y, rfl, rfl, SqT.of (s3 _ _ hb), rfl, y, m.2.2, rfl, mon_num _ _ _ _ s3 hy, fun H4 v4 s4 r4 => ⟨(show (2 : Nat) ≤ sizeLine by decide), fun T5 n5 => ?_⟩⟩
      have s5 := same_upd (o := .tup [v3, v4]) n5
      have h5 := upd_same (H := H4) (a := T5) (o := .tup [v3, v4])
      generalize upd H4 T5 (.tup [v3, v4]) = H5 at s5 h5 ⊢
      have s35 := (s3.trans s4).trans s5
      have tk : ms.take (j + 1) = ms.take j ++ [m] := by rw [List.take_add_one, em]; rfl
      have nk : valV kv2 (Sum.inl (m.1 : Int)) = none := by
        rcases mv_get m.1 pr with ⟨z, _⟩ | ⟨_, _, _, z, _⟩
        · exact z
        · rw [mv_take nod em] at z; cases z
      have k2l : kv2.length ≤ 60 := by
        have := Pd.len pr
        rw [List.length_take] at this
        omega
      refine ⟨kv2, Sum.inl (m.1 : Int), rfl, s35 _ _ hD, Nat.lt_of_le_of_lt k2l (by decide), ?_⟩
      rw [putK_new _ nk]
      refine ⟨_, same_put (sm.trans s35) nD, upd_same, ?_⟩
      rw [tk]
      have up : ∀ (a : Key × V) (z : Nat × (Rat × Rat)), MvD (PrR C) H5 a z → MvD (PrR C) (upd H5 D (.dK (kv2 ++ [(Sum.inl (m.1 : Int), .ref T5)]))) a z := fun a z h => ⟨h.1, offM_pair offM_rat _ _ _ _ _ _ (s35 _ _ hD) nit_dk h.2⟩
      exact Pd.append (Pd.imp pr fun _ _ z => up _ _ (mon_mvD (mon_pairD mon_rat) s35 z)) (.cons (up _ _ ⟨rfl, T5, v3, v4, rfl, h5, (r3.up s4).up s5, r4.up s5⟩) .nil)
    rintro H2 ⟨kv2, sm, hD, pr⟩
    rw [ml, List.take_length] at pr
    refine ⟨sm _ _ lock, ?_⟩
    have s2 := lockS sm
    have pr2 : Paired (MvD (PrR C) (upd H2 d (.dK kvs))) kv2 ms := Pd.imp pr fun _ _ z => ⟨z.1, offM_pair offM_rat _ _ _ _ _ _ (sm _ _ lock) nit_frz z.2⟩
    have hD2 : upd H2 d (.dK kvs) D = some (.dK kv2) := by rw [upd_ne dD]; exact hD
    generalize upd H2 d (.dK kvs) = H3 at s2 pr2 hD2 ⊢
    have s12 := s1.trans s2
    have kk2 : kv2.map (·.1) = (ms.map fun m => (m.1 : Int)).map Sum.inl := by
      exact mv_keys pr2
    refine ⟨_, rfl, D, kv2, _, rfl, .inl hD2, kk2, by rw [List.length_map]; omega, fun ti T4 perm sorted n4 => ?_⟩
    obtain ⟨ts, ets⟩ : ∃ ts : List Nat, ti = ts.map fun n : Nat => (n : Int) := by
      refine ⟨ti.map Int.toNat, ?_⟩
      rw [List.map_map]
      conv => lhs; rw [← List.map_id ti]
      refine List.map_congr_left fun x hx => ?_
      obtain ⟨m, hm, rfl⟩ := List.mem_map.mp (perm.mem_iff.mp hx)
      simp
    have tperm : ts.Perm (ms.map (·.1)) := by
      have h1 := perm.map Int.toNat
      rw [ets, List.map_map, List.map_map] at h1
      have e1 : ts.map (Int.toNat ∘ fun n : Nat => (n : Int)) = ts := by
        conv => rhs; rw [← List.map_id ts]
        exact List.map_congr_left fun x _ => by simp
      have e2 : ms.map (Int.toNat ∘ fun m => (m.1 : Int)) = ms.map (·.1) := List.map_congr_left fun x _ => by simp
      rw [e1, e2] at h1
      exact h1
    have tsort : ts.Pairwise (· ≤ ·) := by
      rw [ets, List.pairwise_map] at sorted
      exact sorted.imp fun h => by omega
    have s4 := same_upd (o := .lst (ti.map V.int)) n4
    have h4 := upd_same (H := H3) (a := T4) (o := .lst (ti.map V.int))
    generalize upd H3 T4 (.lst (ti.map V.int)) = H4 at s4 h4 ⊢
    rw [ets, ← nat_ints] at h4
    have s14 := s12.trans s4
    refine ⟨_, rfl, Nat.zero_le _, fun E5 n5 => ?_⟩
    have s5 := same_upd (o := .lst []) n5
    have h5 := upd_same (H := H4) (a := E5) (o := .lst [])
    generalize upd H4 E5 (.lst []) = H5 at s5 h5 ⊢
    have s25 := (s2.trans s4).trans s5
    have pp5 : Paired (PrR C H5) ys1 ps := Pd.imp pp1 fun _ _ z => mon_pairD mon_rat _ _ _ _ s25 z
    have hh5 := s25 _ _ hh1
    have y1l : ys1.length = ps.length := Pd.len pp1
    have pl : ps.length ≤ 60 := by rw [← Pd.len hps]; exact hxl
    refine eqNil (s5 _ _ h4) h5 ⟨_, rfl, ?_⟩
    cases tse : ts with
    | nil =>
      have msn : ms = [] := by
        rw [tse] at tperm
        exact List.map_eq_nil_iff.mp tperm.symm.eq_nil
      refine iteT ?_
      refine lcE ?_
      refine ⟨_, rfl, h1, rfl, ⟨_, SqL.of hh5⟩, ?_⟩
      refine lcM (K := K) (F := PrR C) (G := PrR C) (fun _ => (0, 0)) (SqL.of hh5) pp5 (mon_pairD mon_rat) (mon_pairD mon_rat) (offL_pair offL_rat) (by omega) ?_ ?_
      · rintro x z H6 hm s6 hx kT hk
        refine gnm ⟨wipe1 _ _ _, ?_⟩
        refine tupE (consE (mk1E (by decide) fun H7 v7 s7 r7 => consE (mk1E (by decide) fun H8 v8 s8 r8 => ?_)))
        refine ⟨(show (2 : Nat) ≤ sizeLine by decide), fun T9 n9 => ?_⟩
        have s9 := same_upd (o := .tup [v7, v8]) n9
        exact hk _ _ ((s7.trans s8).trans s9) ⟨T9, v7, v8, rfl, upd_same, (r7.up s8).up s9, r8.up s9⟩
      · intro H6 D6 ys6 s6 n6 h6 p6
        have s15 := s1.trans s25
        refine k H6 D6 ys6 _ (s15.trans s6) (s15.free n6) h6 p6 ⟨by rw [List.length_map], fun i p r e e2 => .inl ⟨msn, by rw [List.getElem?_map, e] at e2; exact (Option.some.inj e2).symm⟩⟩
    | cons t0 tr =>
      refine iteF ?_
      have tsn : ts ≠ [] := by rw [tse]; exact List.cons_ne_nil _ _
      refine nextE ?_
      refine ⟨Nat.zero_le _, fun L6 n6 => ?_⟩
      have s6 := same_upd (o := .lst []) n6
      have h6 := upd_same (H := H5) (a := L6) (o := .lst [])
      generalize upd H5 L6 (.lst []) = H6 at s6 h6 ⊢
      have s15 := s1.trans s25
      have nL : H L6 = none := s15.free n6
      have s16 := s25.trans s6
      have sH6 := s1.trans s16
      refine ⟨_, rfl, h1, ys1, rfl, .inl (SqL.of (s16 _ _ hh1)), _, rfl, by omega, by omega, for_range (n := ys1.length) (fun i σ' H' => ∃ u6 fs out, σ' = [some (.ref a), some (.ref d), some (.ref h1), some (.ref D), some (.ref T4), some (.ref L6), u6, none] ∧ Same H H' ∧ H' L6 = some (.lst fs) ∧ H' h1 = some (.lst ys1) ∧ H' D = some (.dK kv2) ∧ H' T4 = some (.lst (ts.map fun n : Nat => V.int (n : Int))) ∧
        Paired (PrR C H') ys1 ps ∧ Paired (MvD (PrR C) H') kv2 ms ∧ Paired (PrR C H') fs out ∧ out.length = i ∧ ∀ j p r, ps[j]? = some p → out[j]? = some r → InfAt ps ms j p r)
        ?_ ?_ ?_⟩
      · exact ⟨_, [], [], rfl, sH6, h6, s16 _ _ hh1, (s4.trans (s5.trans s6)) _ _ hD2, (s5.trans s6) _ _ h4, Pd.imp pp1 fun _ _ z => mon_pairD mon_rat _ _ _ _ s16 z, Pd.imp pr2 fun _ _ z => mon_mvD (mon_pairD mon_rat) (s4.trans (s5.trans s6)) z, .nil, rfl, fun j p r _ e => by simp at e⟩
      · rintro i σ' H7 hi ⟨u6, fs, out, rfl, sm, hL, hh, hDD, hT, pp, dd, po, ol, inv⟩
        have z0 : (0 : Int) + (i : Int) = (i : Int) := Int.zero_add _
        rw [z0]
        refine gnm ?_
        have hin : i < ps.length := by omega
        have gp : ps[i]? = some ps[i] := List.getElem?_eq_getElem hin
        have dic : DicD (PrR C) H7 D ms := ⟨kv2, .inl hDD, dd⟩
        have fl : fs.length ≤ 60 := by rw [Pd.len po]; omega
        have x1 : h1 ≠ L6 := fun z => by rw [z, n6] at hh5; cases hh5
        have x2 : D ≠ L6 := fun z => by have := (s4.trans s5) _ _ hD2; rw [z, n6] at this; cases this
        have x3 : T4 ≠ L6 := fun z => by have := s5 _ _ h4; rw [z, n6] at this; cases this
        have fin : ∀ (H9 : Hp) (v : V) (r : Rat × Rat), Same H7 H9 → PrR C H9 v r → InfAt ps ms i ps[i] r → ∃ u6 fs' out, ([some (.ref a), some (.ref d), some (.ref h1), some (.ref D), some (.ref T4), some (.ref L6), some (V.int (i : Int)), none] : L2.St) = [some (.ref a), some (.ref d), some (.ref h1), some (.ref D), some (.ref T4), some (.ref L6), u6, none] ∧ Same H (upd H9 L6 (.lst (fs ++ [v]))) ∧ upd H9 L6 (.lst (fs ++ [v])) L6 = some (.lst fs') ∧ upd H9 L6 (.lst (fs ++ [v])) h1 = some (.lst ys1) ∧ upd H9 L6 (.lst (fs ++ [v])) D = some (.dK kv2) ∧ upd H9 L6 (.lst (fs ++ [v])) T4 = some (.lst (ts.map fun n : Nat => V.int (n : Int))) ∧
            Paired (PrR C (upd H9 L6 (.lst (fs ++ [v])))) ys1 ps ∧ Paired (MvD (PrR C) (upd H9 L6 (.lst (fs ++ [v])))) kv2 ms ∧ Paired (PrR C (upd H9 L6 (.lst (fs ++ [v])))) fs' out ∧ out.length = i + 1 ∧ ∀ j p r, ps[j]? = some p → out[j]? = some r → InfAt ps ms j p r := by
          intro H9 v r s9 hv hr
          have hL9 := s9 _ _ hL
          have up : ∀ (x : V) (z : Rat × Rat), PrR C H9 x z → PrR C (upd H9 L6 (.lst (fs ++ [v]))) x z := fun x z h => offL_pair offL_rat _ _ _ _ _ _ hL9 h
          refine ⟨_, fs ++ [v], out ++ [r], rfl, same_put (sm.trans s9) nL, upd_same, by rw [upd_ne x1]; exact s9 _ _ hh, by rw [upd_ne x2]; exact s9 _ _ hDD, by rw [upd_ne x3]; exact s9 _ _ hT,
            Pd.imp pp fun _ _ z => up _ _ (mon_pairD mon_rat _ _ _ _ s9 z), Pd.imp dd fun _ _ z => ⟨z.1, up _ _ (mon_pairD mon_rat _ _ _ _ s9 z.2)⟩, Pd.append (Pd.imp po fun _ _ z => up _ _ (mon_pairD mon_rat _ _ _ _ s9 z)) (.cons (up _ _ hv) .nil), by simp [ol], fun j p r' e1 e2 => ?_⟩
          by_cases hj : j < out.length
          · rw [List.getElem?_append_left hj] at e2
            exact inv j p r' e1 e2
          · rw [List.getElem?_append_right (by omega)] at e2
            have hj0 : j - out.length = 0 := by
              have := (List.getElem?_eq_some_iff.mp e2).1
              simp at this
              omega
            have : j = i := by omega
            subst this
            rw [hj0] at e2
            rw [gp] at e1
            cases e1
            cases e2
            exact hr
        obtain ⟨o, go, ho⟩ := dic.get i
        refine ⟨_, rfl, _, rfl, D, o, rfl, go, _, rfl, ?_⟩
        rcases ho with ⟨rfl, mvn⟩ | ⟨v, m, rfl, mvs, hv⟩
        · refine iteF ?_
          have nk : ¬ IsKey ms i := fun ⟨m, e⟩ => by rw [mvn] at e; cases e
          have hk : ∀ k, IsKey ms k → k < ps.length := fun k h => by
            obtain ⟨m, hm, rfl⟩ := List.mem_map.mp (key_mem.mp h)
            exact keys m hm
          have pv := prev_is tperm tsort tsn hk hin nk
          have nx := next_is tperm tsort tsn hk hin nk
          obtain ⟨m1, em1⟩ := pv.1
          obtain ⟨m2, em2⟩ := nx.1
          have l1 := hk _ pv.1
          have l2 := hk _ nx.1
          have g1 : ps[prevT ts i]? = some ps[prevT ts i] := List.getElem?_eq_getElem l1
          have g2 : ps[nextT ts i]? = some ps[nextT ts i] := List.getElem?_eq_getElem l2
          have tl : ts.length ≤ 60 := by rw [tperm.length_eq, List.length_map]; exact kl
          refine ⟨_, rfl, .inl ⟨rfl, fs, SqL.of hL⟩, ?_⟩
          refine ⟨_, rfl, _, rfl, _, rfl, _, rfl, _, rfl, T4, ts, i, rfl, hT, tsn, by omega, fun H8 e8 s8 h8 => ?_⟩
          refine ⟨h1, D, e8, ys1, ps, ms, i, prevT ts i, nextT ts i, ps[i], _, m1, _, m2, n, rfl, s8 _ _ hh, Pd.imp pp fun _ _ z => mon_pairD mon_rat _ _ _ _ s8 z, dic.up (mon_pairD mon_rat) s8, h8, gp, g1, g2, em1, em2, bps _ (List.mem_of_getElem? gp), bps _ (List.mem_of_getElem? g1), bms _ (mv_mem em1), bps _ (List.mem_of_getElem? g2), bms _ (mv_mem em2), hn, fun H9 v9 s9 r9 => ?_⟩
          refine ⟨L6, fs, v9, rfl, rfl, (s8.trans s9) _ _ hL, Nat.lt_of_le_of_lt fl (by decide), ?_⟩
          exact fin H9 v9 _ (s8.trans s9) r9 (.inr (.inr ⟨mvn, _, _, _, m1, _, m2, pv, nx, g1, em1, g2, em2, rfl⟩))
        · refine iteT ?_
          refine ⟨_, rfl, .inl ⟨rfl, fs, SqL.of hL⟩, _, rfl, _, rfl, D, v, rfl, go, L6, fs, v, rfl, rfl, hL, Nat.lt_of_le_of_lt fl (by decide), ?_⟩
          exact fin H7 v m (Same.refl _) hv (.inr (.inl mvs))
      · rintro σ' H7 ⟨u6, fs, out, rfl, sm, hL, hh, hDD, hT, pp, dd, po, ol, inv⟩
        exact ⟨_, rfl, k H7 L6 fs out sm nL hL po ⟨ol.trans y1l, inv⟩⟩
end
end BF
set_option maxHeartbeats 4000000
/-! The law's own numbers: drawn fractions, pairs, lists. -/
namespace BF
open PySem PySem.Spec PyProof.Rows L2
abbrev sLPart : Stmt := top 21
abbrev sLNumber : Stmt := top 22
/-- a tuple of a fraction's two parts -/
def PartQ : Den Rat := fun H v q => ∃ a, v = .ref a ∧ H a = some (.tup [.int q.num, .int (q.den : Int)])
theorem mon_partQ : MonD PartQ := fun H H' v q e ⟨a, h, h1⟩ => ⟨a, h, e _ _ h1⟩
theorem offL_partQ : OffL PartQ := fun D H acc o v z hd ⟨a, e, h1⟩ => ⟨a, e, by rw [upd_ne (ne_of h1 hd (by intro z; cases z))]; exact h1⟩
theorem upP_partQ {P c : Addr} : UpP P c PartQ := fun H H' v z k ⟨a, e, h1⟩ p o => ⟨a, e, o _ _ (fun z => by subst z; obtain ⟨ns, n, lf, hP, _⟩ := p; rw [hP] at h1; cases h1) h1⟩
section
variable {P : Program} {w : World} {K : PySem.W.Frag} {mg : Str → Option Value} {base : Heap} {CX : CXT} {f : Addr} {fd : FuncData} {C CI CQ : Addr}
def spLPart : Sp := fun vs H Q _ => ∃ t b : Int, vs = [.int t, .int b] ∧ 0 < b ∧ b.natAbs < 2 ^ 8000 ∧ ∀ H' v, Same H H' → PartQ H' v (Rat.divInt t b) → Q v H'
abbrev nLPart : List Str := ["_law_top", "_law_bottom", "_law_one", "_law_other"]
theorem scLPart : FnScope nLPart ["_law_top", "_law_bottom"] (defScope sLPart) := ⟨rfl, rfl, rfl, by decide +kernel, rfl, by decide +kernel, by decide +kernel⟩
theorem ok_lpart (B : Bl mg) (F : FnP K "_law_part" "_law_part" sLPart f fd) : FnOk P w K mg base CX0 1 f fd ["_law_top", "_law_bottom"] spLPart := by
  refine F.ok scLPart (fun vs H Q E h => ?_) (fun cdv A outer s H vs Q E hr h => ?_)
  · obtain ⟨t, b, rfl, _⟩ := h
    rfl
  · obtain ⟨t, b, rfl, hb, hb8, k⟩ := h
    refine ⟨_, PSs.nox (pss_cons (ps_par (i := 2) (j := 3) (by rfl) scLPart.nd rfl rfl (by decide) rfl rfl (pa_cons (pe_callB call_abs (by rfl) B.abs (by decide +kernel) (pa_cons (pv 0) pa_nil)) (pa_cons (pv 1) pa_nil)) (by rfl))
      (pss_cons (ps_while PassesOwn.never (pt_cmpR op_gt (pv 3) pe_int (nomark _))
        (pss_one (ps_par (i := 2) (j := 3) (by rfl) scLPart.nd rfl rfl (by decide) rfl rfl (pa_cons (pv 3) (pa_cons (pe_op op_mod (pe_callTy call_int1 (by rfl) B.int boot_int (pa_cons (pv 2) pa_nil)) (pv 3)) pa_nil)) (by rfl))))
      (pss_one (ps_ret (pe_tup (pa_cons (pe_op op_fdivW (pv 0) (pv 2)) (pa_cons (pe_op op_fdivW (pv 1) (pv 2)) pa_nil))))))), ?_⟩
    have at_ : ∀ z : Int, (if z < 0 then -z else z) = (z.natAbs : Int) := fun z => by split <;> omega
    have bN : b = (b.natAbs : Int) := by omega
    refine ⟨_, rfl, t, rfl, _, rfl, _, _, rfl, ?_⟩
    rw [at_]
    have hg : 0 < t.natAbs.gcd b.natAbs := Nat.gcd_pos_of_pos_right _ (by omega)
    have hgI : (0 : Int) < ((t.natAbs.gcd b.natAbs : Nat) : Int) := by omega
    have hg8 : (((t.natAbs.gcd b.natAbs : Nat) : Int)).natAbs < 2 ^ 8000 := Nat.lt_of_le_of_lt (Nat.gcd_le_right _ (by omega)) hb8
    have wd : ∀ z : Int, CDivW z ((t.natAbs.gcd b.natAbs : Nat) : Int) := fun z => wide_div hgI hg8 (by decide) (by decide)
    refine while_by (fun σ H' => H' = H ∧ ∃ x y : Nat, σ = [some (.int t), some (.int b), some (.int x), some (.int y)] ∧ x.gcd y = t.natAbs.gcd b.natAbs) (fun σ _ => match σ with | [_, _, _, some (.int y)] => y.toNat | _ => 0) ⟨rfl, t.natAbs, b.natAbs, by rw [← bN]; rfl, rfl⟩ ?_ ?_
    · rintro σ H' ⟨rfl, x, y, rfl, e⟩
      refine ⟨_, rfl, _, _, rfl, rfl, _, rfl, ite2 (fun hy => ?_) (fun hy => ?_)⟩
      · have hy' : (0 : Int) < y := of_decide_eq_true hy
        refine ⟨_, rfl, _, rfl, .inl ⟨_, rfl, _, rfl, _, _, rfl, rfl, hy', _, _, rfl, ⟨rfl, y, x % y, rfl, ?_⟩, ?_⟩⟩
        · rw [← e, Nat.gcd_comm y (x % y), ← Nat.gcd_rec, Nat.gcd_comm]
        · show ((x : Int) % (y : Int)).toNat < (y : Int).toNat
          have := Nat.mod_lt x (show y > 0 by omega)
          omega
      · have hy' : ¬ (0 : Int) < y := fun z => hy (decide_eq_true z)
        have y0 : y = 0 := by omega
        subst y0
        rw [Nat.gcd_zero_right] at e
        subst e
        refine ⟨_, rfl, _, rfl, _, _, rfl, rfl, wd _, _, rfl, _, rfl, _, _, rfl, rfl, wd _, (show (2 : Nat) ≤ sizeLine by decide), fun T nT => ?_⟩
        refine k _ _ (same_upd nT) ⟨T, rfl, ?_⟩
        rw [upd_same, num_nrm t b (by omega), den_nrm t b (by omega), if_neg (by omega), ← bN]
    · rintro σ H' Q1 Q2 m ⟨v, e, _, _, h1, h2, _, h3, h4⟩
      exact ⟨v, e, _, _, h1, h2, _, h3, m _ _ h4⟩
end
end BF
set_option maxHeartbeats 4000000
/-! Drawn numbers: number, given, handed. -/
namespace BF
open PySem PySem.Spec PyProof.Rows L2
abbrev sLGiven : Stmt := top 25
abbrev sLHanded : Stmt := top 26
/-- .. of at most twenty bits -/
def PartB : Den Rat := fun H v q => PartQ H v q ∧ Bd 20 q
theorem mon_partB : MonD PartB := fun H H' v q e h => ⟨mon_partQ _ _ _ _ e h.1, h.2⟩
theorem offL_partB : OffL PartB := fun D H acc o v z hd h => ⟨offL_partQ _ _ _ _ _ _ hd h.1, h.2⟩
theorem upP_partB {P c : Addr} : UpP P c PartB := fun H H' v z k h p o => ⟨upP_partQ _ _ _ _ _ h.1 p o, h.2⟩
theorem int_part (i : Int) : ((i : Rat).num = i) ∧ ((i : Rat).den = 1) := ⟨Rat.num_intCast i, Rat.den_intCast i⟩
theorem bd20_int {i : Int} (h : i.natAbs ≤ 999999) : Bd 20 (i : Rat) := by
  constructor
  · rw [(int_part i).1]
    exact Nat.lt_of_le_of_lt h (by decide)
  · rw [(int_part i).2]
    decide
theorem num_of {C : Addr} {H : Hp} {i : Int} (h : i.natAbs < 2 ^ 8000) : Num C H (.int i) (i : Rat) := by
  refine .inr ⟨i, rfl, ?_, h⟩
  rw [Rat.divInt_eq_div]
  grind
section
variable {P : Program} {w : World} {K : PySem.W.Frag} {mg : Str → Option Value} {base : Heap} {CX : CXT} {f : Addr} {fd : FuncData} {C CI CQ : Addr}
def spLNumber : Sp := fun vs H Q _ => ∃ (P c : Addr) (k : Nat) (st : Int), vs = [.ref P, .int st] ∧ Pen H P c k ∧ k ≤ 900000 ∧ ∀ H' v q, Off P H H' → Pen H' P c (k + 2) → PartB H' v q → Q v H'
abbrev nLNumber : List Str := ["_law_pen_here", "_law_style"]
theorem scLNumber : FnScope nLNumber ["_law_pen_here", "_law_style"] (defScope sLNumber) := ⟨rfl, rfl, rfl, by decide +kernel, rfl, by decide +kernel, by decide +kernel⟩
abbrev DrawC (P : Program) (w : World) (K : PySem.W.Frag) (mg : Str → Option Value) (base : Heap) : Prop := Cal P w K mg base CX0 1 "_law_draw" ["_law_pen_here", "_law_many"] spDraw
theorem ok_lnumber (cd : DrawC P w K mg base) (cp : Cal P w K mg base CX0 1 "_law_part" ["_law_top", "_law_bottom"] spLPart) (F : FnP K "_law_number" "_law_number" sLNumber f fd) : FnOk P w K mg base CX0 2 f fd ["_law_pen_here", "_law_style"] spLNumber := by
  refine F.ok scLNumber (fun vs H Q E h => ?_) (fun cdv A outer s H vs Q E hr h => ?_)
  · obtain ⟨P, c, k, st, rfl, _⟩ := h
    rfl
  · obtain ⟨P, c, k, st, rfl, pen, hk, q⟩ := h
    refine ⟨_, PSs.nox (pss_cons (ps_if (pt_cmpR op_eq (pv 1) pe_int (nomark _)) (pss_one (ps_ret (pe_tup (pa_cons (pe_op op_sub (pe_cal cd hr (by rfl) pass0 (pa_cons (pv 0) (pa_cons pe_int pa_nil))) pe_int) (pa_cons pe_int pa_nil))))) pss_nil)
      (pss_cons (ps_if (pt_cmpR op_eq (pv 1) pe_int (nomark _)) (pss_one (ps_ret (pe_cal cp hr (by rfl) pass0 (pa_cons (pe_op op_sub (pe_cal cd hr (by rfl) pass0 (pa_cons (pv 0) (pa_cons pe_int pa_nil))) pe_int) (pa_cons (pe_op op_add pe_int (pe_cal cd hr (by rfl) pass0 (pa_cons (pv 0) (pa_cons pe_int pa_nil)))) pa_nil))))) pss_nil)
      (pss_cons (ps_if (pt_cmpR op_eq (pv 1) pe_int (nomark _)) (pss_one (ps_ret (pe_cal cp hr (by rfl) pass0 (pa_cons (pe_op op_sub (pe_cal cd hr (by rfl) pass0 (pa_cons (pv 0) (pa_cons pe_int pa_nil))) pe_int) (pa_cons (pe_op op_add pe_int (pe_cal cd hr (by rfl) pass0 (pa_cons (pv 0) (pa_cons pe_int pa_nil)))) pa_nil))))) pss_nil)
      (pss_one (ps_ret (pe_tup (pa_cons (pe_cal cd hr (by rfl) pass0 (pa_cons (pv 0) (pa_cons pe_int pa_nil))) (pa_cons pe_int pa_nil)))))))), ?_⟩
    have tup : ∀ (H1 : Hp) (i : Int), i.natAbs ≤ 999999 → Off P H H1 → Pen H1 P c (k + 1) → ([V.int i, V.int 1]).length ≤ sizeLine ∧ ∀ p, H1 p = none → Q (.ref p) (upd H1 p (.tup [V.int i, V.int 1])) := fun H1 i hi o1 p1 => by
      refine ⟨(show (2 : Nat) ≤ sizeLine by decide), fun T nT => q _ _ (i : Rat) (o1.trans (Off.of (same_upd nT))) ((p1.up (same_upd nT)).mono (by omega)) ⟨⟨T, rfl, ?_⟩, bd20_int hi⟩⟩
      rw [(int_part i).1, (int_part i).2]
      exact upd_same
    have prt : ∀ (H1 : Hp) (t b : Int), t.natAbs ≤ 999999 → 0 < b → b ≤ 1000 → Off P H H1 → Pen H1 P c (k + 2) → spLPart [.int t, .int b] H1 Q E0 := fun H1 t b ht hb hb1 o1 p1 => by
      refine ⟨t, b, rfl, hb, Nat.lt_of_lt_of_le (show b.natAbs < 2 ^ 10 by omega) (pow_mono (by decide)), fun H2 v s2 h2 => q H2 v _ (o1.trans (Off.of s2)) (p1.up s2) ⟨h2, bd_divInt (by omega) (Nat.lt_of_le_of_lt ht (by decide)) (Nat.lt_of_le_of_lt (show b.natAbs ≤ 1000 by omega) (by decide))⟩⟩
    refine ⟨_, rfl, rfl, _, rfl, ite2 (fun _ => ?_) (fun _ => ?_)⟩
    · refine ⟨_, rfl, P, c, k, 13, rfl, pen, by omega, by decide, by decide, fun H1 d1 o1 p1 h1 => ⟨_, _, rfl, rfl, ?_⟩⟩
      exact tup H1 _ (by omega) o1 p1
    refine ⟨_, rfl, rfl, _, rfl, ite2 (fun _ => ?_) (fun _ => ?_)⟩
    · refine ⟨_, rfl, P, c, k, 41, rfl, pen, by omega, by decide, by decide, fun H1 d1 o1 p1 h1 => ⟨_, _, rfl, rfl, ?_⟩⟩
      refine ⟨_, rfl, P, c, k + 1, 8, rfl, p1, by omega, by decide, by decide, fun H2 d2 o2 p2 h2 => ⟨_, _, rfl, rfl, ?_⟩⟩
      exact prt H2 _ _ (by omega) (by omega) (by omega) (o1.trans o2) p2
    refine ⟨_, rfl, rfl, _, rfl, ite2 (fun _ => ?_) (fun _ => ?_)⟩
    · refine ⟨_, rfl, P, c, k, 1999999, rfl, pen, by omega, by decide, by decide, fun H1 d1 o1 p1 h1 => ⟨_, _, rfl, rfl, ?_⟩⟩
      refine ⟨_, rfl, P, c, k + 1, 1000, rfl, p1, by omega, by decide, by decide, fun H2 d2 o2 p2 h2 => ⟨_, _, rfl, rfl, ?_⟩⟩
      exact prt H2 _ _ (by omega) (by omega) (by omega) (o1.trans o2) p2
    · refine ⟨_, rfl, P, c, k, 2, rfl, pen, by omega, by decide, by decide, fun H1 d1 o1 p1 h1 => ?_⟩
      exact tup H1 _ (by omega) o1 p1
def spLGiven (C : Addr) : Sp := fun vs H Q _ => ∃ (P c : Addr) (k : Nat) (x : V) (q : Rat), vs = [.ref P, x] ∧ Pen H P c k ∧ k ≤ 900000 ∧ PartQ H x q ∧ Bd 7000 q ∧ ∀ H' v, Off P H H' → Pen H' P c (k + 1) → Num C H' v q → Q v H'
abbrev nLGiven : List Str := ["_law_pen_here", "_law_number_here"]
theorem scLGiven : FnScope nLGiven ["_law_pen_here", "_law_number_here"] (defScope sLGiven) := ⟨rfl, rfl, rfl, by decide +kernel, rfl, by decide +kernel, by decide +kernel⟩
theorem ok_lgiven (R : RK P w K mg base C CI CQ) (cd : DrawC P w K mg base) (F : FnP K "_law_given" "_law_given" sLGiven f fd) : FnOk P w K mg base CX0 4 f fd ["_law_pen_here", "_law_number_here"] (spLGiven C) := by
  refine F.ok scLGiven (fun vs H Q E h => ?_) (fun cdv A outer s H vs Q E hr h => ?_)
  · obtain ⟨P, c, k, x, q, rfl, _⟩ := h
    rfl
  · obtain ⟨P, c, k, x, q, rfl, pen, hk, ⟨a, rfl, ha⟩, hq, kk⟩ := h
    have r1 := hr.mono (show 1 ≤ 3 by decide)
    refine ⟨_, PSs.nox (pss_cons (ps_if (PW.pt (pw_and (pt_cmpR op_eq (pe_ix ix_tup (pv 1) pe_int (fun _ _ => rfl)) pe_int (nomark _)) (pw_and1 (pt_cmpR op_eq (pe_cal cd r1 (by rfl) pass0 (pa_cons (pv 0) (pa_cons pe_int pa_nil))) pe_int (nomark _)))))
        (pss_one (ps_ret (pe_ix ix_tup (pv 1) pe_int (fun _ _ => rfl)))) pss_nil)
      (pss_one (ps_ret (pe_ratio2 R hr (by rfl) R.mgC (pa_cons (pe_ix ix_tup (pv 1) pe_int (fun _ _ => rfl)) (pa_cons (pe_ix ix_tup (pv 1) pe_int (fun _ _ => rfl)) pa_nil)))))), ?_⟩
    have aP := pen.apartT ha
    have hn8 := p8 hq.1 (by decide)
    have hd8 : ((q.den : Int)).natAbs < 2 ^ 8000 := by rw [Int.natAbs_natCast]; exact p8 hq.2 (by decide)
    have hd0 : (q.den : Int) ≠ 0 := by have := q.den_pos; omega
    have rat : ∀ (H1 : Hp), Off P H H1 → Pen H1 P c (k + 1) → tMake C (spInit K C CI) [] E0 (tCons (tOp (rIxT K) (tVar 1) (tC (.int 0))) (tCons (tOp (rIxT K) (tVar 1) (tC (.int 1))) tNil)) [some (.ref P), some (.ref a)] H1 Q := fun H1 o1 p1 => by
      refine ⟨_, rfl, a, _, 0, _, rfl, rfl, SqT.of (o1 _ _ aP ha), rfl, _, rfl, a, _, 1, _, rfl, rfl, SqT.of (o1 _ _ aP ha), rfl, ?_⟩
      exact mk2 hd0 hn8 hd8 fun H2 v s2 h2 => kk H2 v (o1.trans (Off.of s2)) (p1.up s2) (.inl (by rw [Rat.num_divInt_den] at h2; exact h2))
    refine ⟨_, rfl, a, _, 1, _, rfl, rfl, SqT.of ha, rfl, rfl, _, rfl, ite2 (fun e => ?_) (fun e => ?_)⟩
    · have e1 : (q.den : Int) = 1 := V.int.inj (of_decide_eq_true e)
      refine ⟨_, rfl, P, c, k, 2, rfl, pen, by omega, by decide, by decide, fun H1 d1 o1 p1 h1 => ⟨rfl, _, rfl, ite2 (fun _ => ?_) (fun _ => ?_)⟩⟩
      · refine ⟨_, rfl, a, _, 0, _, rfl, rfl, SqT.of (o1 _ _ aP ha), rfl, kk H1 _ o1 p1 ?_⟩
        have e2 : q = ((q.num : Int) : Rat) := Rat.ext (by rw [(int_part _).1]) (by rw [(int_part _).2]; omega)
        rw [e2, (int_part _).1]
        exact num_of hn8
      · exact rat H1 o1 p1
    · refine iteF ?_
      exact rat H (Off.refl _ _) (pen.mono (by omega))
def spLHanded (C : Addr) : Sp := fun vs H Q _ => ∃ (P c a : Addr) (k : Nat) (xs : List V) (ps : List (Rat × Rat)), vs = [.ref P, .ref a] ∧ Pen H P c k ∧ k ≤ 800000 ∧ H a = some (.lst xs) ∧ a ≠ P ∧ Paired (PairD PartQ H) xs ps ∧ xs.length ≤ 100 ∧ (∀ p ∈ ps, Bd 7000 p.1 ∧ Bd 7000 p.2) ∧
  ∀ H' l ys, Off P H H' → H l = none → H' l = some (.lst ys) → Pen H' P c (k + 2 * xs.length) → Paired (PairD (Num C) H') ys ps → Q (.ref l) H'
abbrev nLHanded : List Str := ["_law_pen_here", "_law_pairs_here", "_law_x", "_law_y"]
theorem scLHanded : FnScope nLHanded ["_law_pen_here", "_law_pairs_here"] (defScope sLHanded) := ⟨rfl, rfl, rfl, by decide +kernel, rfl, by decide +kernel, by decide +kernel⟩
theorem mon_num' : MonD (Num C) := fun H H' x p e h => h.imp (fun z => z.up e) id
theorem offL_num' : OffL (Num C) := fun D H acc o v z hd h => h.imp (fun r => offL_rat _ _ _ _ _ _ hd r) id
theorem upP_num' {P c : Addr} : UpP P c (Num C) := fun H H' v z k h p o => h.imp (fun r => upP_rat _ _ _ _ _ r p o) id
theorem ok_lhanded (cg : Cal P w K mg base CX0 4 "_law_given" ["_law_pen_here", "_law_number_here"] (spLGiven C)) (F : FnP K "_law_handed" "_law_handed" sLHanded f fd) : FnOk P w K mg base CX0 5 f fd ["_law_pen_here", "_law_pairs_here"] (spLHanded C) := by
  refine F.ok scLHanded (fun vs H Q E h => ?_) (fun cdv A outer s H vs Q E hr h => ?_)
  · obtain ⟨P, c, a, k, xs, ps, rfl, _⟩ := h
    rfl
  · obtain ⟨P, c, a, k, xs, ps, rfl, pen, hk, ha, aP, hz, hl, bd, kk⟩ := h
    refine ⟨_, PSs.nox (pss_one (ps_ret (pe_lc (own := [("_law_x", 2), ("_law_y", 3)]) (g := gt2 K 2 3) (tt := tYes) rfl scLHanded.nd (pi_list (pv 1)) (blkOk_by (N := nLHanded) (sc := defScope sLHanded) (by decide +kernel))
      (fun _ _ _ _ _ => pg_t2 K (by rfl) (pg_name (i := 2) scLHanded.nd rfl (.inl rfl)) (pg_name (i := 3) scLHanded.nd rfl (.inl rfl))) (fun _ _ _ _ _ => pts_nil)
      (fun _ _ _ _ _ => pe_tup (pa_cons (pe_cal cg hr (by rfl) pass0 (pa_cons (pv 0) (pa_cons (pv 2) pa_nil))) (pa_cons (pe_cal cg hr (by rfl) pass0 (pa_cons (pv 0) (pa_cons (pv 3) pa_nil))) pa_nil)))))), ?_⟩
    refine lcE ?_
    refine ⟨_, rfl, a, rfl, ⟨_, SqL.of ha⟩, ?_⟩
    refine lcP (K := K) (F := PairD PartQ) (G := PairD (Num C)) (d := 2) pen (by omega) ha aP hz (upP_pair upP_partQ) (upP_pair upP_num') (offL_pair offL_num') id ?_ ?_
    · rintro x ⟨p, q⟩ H1 j hm o1 hj pen1 ⟨b, u, v, rfl, hb, hu, hv⟩ kT hk
      obtain ⟨b1, b2⟩ := bd _ hm
      refine gt2R (SqT.of hb) ⟨wipe2 _ _ _ _ _ (by decide), ?_⟩
      refine ⟨_, rfl, _, rfl, P, c, j, u, p, rfl, pen1, by omega, hu, b1, fun H2 v2 o2 pen2 h2 => ?_⟩
      refine ⟨_, rfl, _, rfl, P, c, j + 1, v, q, rfl, pen2, by omega, upP_partQ _ _ _ _ _ hv pen1 o2, b2, fun H3 v3 o3 pen3 h3 => ⟨(show (2 : Nat) ≤ sizeLine by decide), fun T4 n4 => ?_⟩⟩
      have s4 := same_upd (o := .tup [v2, v3]) n4
      exact hk _ _ ((o2.trans o3).trans (Off.of s4)) (pen3.up s4) ⟨T4, v2, v3, rfl, upd_same, mon_num' _ _ _ _ s4 (upP_num' _ _ _ _ _ h2 pen2 o3), mon_num' _ _ _ _ s4 h3⟩
    · intro H1 D ys o1 n1 h1 pen1 hp
      rw [List.map_id] at hp
      exact kk H1 D ys o1 n1 h1 (pen1.mono (by omega)) hp
end
end BF
set_option maxHeartbeats 4000000
/-! Drawn pairs, drawn indexes. -/
namespace BF
open PySem PySem.Spec PyProof.Rows L2
abbrev sLPairs : Stmt := top 23
abbrev sLSome : Stmt := top 24
section
variable {P : Program} {w : World} {K : PySem.W.Frag} {mg : Str → Option Value} {base : Heap} {CX : CXT} {f : Addr} {fd : FuncData} {C CI CQ : Addr}
theorem off_put {P D : Addr} {H H' : Hp} {o : HO} (s : Off P H H') (n : H D = none) : Off P H (upd H' D o) := fun a u na e => by
  rw [upd_ne (ne_of_none e n)]
  exact s a u na e
theorem off_none {P L : Addr} {H H' : Hp} (o : Off P H H') (n : H' L = none) (h : L ≠ P) : H L = none := by
  cases e : H L with
  | none => rfl
  | some u => rw [o _ _ h e] at n; cases n
def spLPairs : Sp := fun vs H Q _ => ∃ (P c : Addr) (k m : Nat), vs = [.ref P, .int (m : Int)] ∧ Pen H P c k ∧ k ≤ 800000 ∧ m ≤ 20 ∧
  ∀ H' l ys ps, Off P H H' → H l = none → H' l = some (.lst ys) → Pen H' P c (k + 200) → Paired (PairD PartB H') ys ps → ps.length = m → Q (.ref l) H'
abbrev nLPairs : List Str := ["_law_pen_here", "_law_many", "_law_style", "_law_pool", "_law_found", "_law_k", "_law_pair"]
theorem scLPairs : FnScope nLPairs ["_law_pen_here", "_law_many"] (defScope sLPairs) := ⟨rfl, rfl, rfl, by decide +kernel, rfl, by decide +kernel, by decide +kernel⟩
theorem ok_lpairs (B : Bl mg) (cd : DrawC P w K mg base) (cn : Cal P w K mg base CX0 2 "_law_number" ["_law_pen_here", "_law_style"] spLNumber) (F : FnP K "_law_pairs" "_law_pairs" sLPairs f fd) : FnOk P w K mg base CX0 3 f fd ["_law_pen_here", "_law_many"] spLPairs := by
  refine F.ok scLPairs (fun vs H Q E h => ?_) (fun cdv A outer s H vs Q E hr h => ?_)
  · obtain ⟨P, c, k, m, rfl, _⟩ := h
    rfl
  · obtain ⟨P, c, k, m, rfl, pen, hk, hm, kk⟩ := h
    have r1 := hr.mono (show 1 ≤ 2 by decide)
    refine ⟨_, PSs.nox (pss_cons (ps_set (i := 2) scLPairs.nd rfl (.inr rfl) (pe_cal cd r1 (by rfl) pass0 (pa_cons (pv 0) (pa_cons pe_int pa_nil))))
      (pss_cons (ps_setLc (i := 3) (own := [("_law_k", 5)]) (g := gName 5) (tt := tYes) rfl scLPairs.nd rfl rfl (sw_true rfl rfl rfl (by decide +kernel)) (pi_range1 rfl B.range (pa_cons (pe_op op_add pe_int (pe_cal cd r1 (by rfl) pass0 (pa_cons (pv 0) (pa_cons pe_int pa_nil)))) pa_nil))
        (blkOk_by (N := nLPairs) (sc := defScope sLPairs) (by decide +kernel)) (fun _ _ _ _ _ => pg_name (i := 5) scLPairs.nd rfl (.inl rfl)) (fun _ _ _ _ _ => pts_nil) (fun _ _ _ _ _ => pe_cal cn hr (by rfl) pass0 (pa_cons (pv 0) (pa_cons (pv 2) pa_nil))))
      (pss_cons (ps_set (i := 4) scLPairs.nd rfl (.inl rfl) (pe_lst pa_nil))
      (pss_cons (ps_for PassesOwn.never rfl (pi_range1 rfl B.range (pa_cons (pv 1) pa_nil)) (pg_name (i := 5) scLPairs.nd rfl (.inl rfl))
        (pss_cons (ps_set (i := 6) scLPairs.nd rfl (.inl rfl) (pe_lst (pa_cons (pe_ix ix_list (pv 3) (pe_cal cd r1 (by rfl) pass0 (pa_cons (pv 0) (pa_cons (pe_callB call_len_seq (by rfl) B.len PySem.boot_len (pa_cons (pv 3) pa_nil)) pa_nil))) (fun _ _ => rfl))
            (pa_cons (pe_ix ix_list (pv 3) (pe_cal cd r1 (by rfl) pass0 (pa_cons (pv 0) (pa_cons (pe_callB call_len_seq (by rfl) B.len PySem.boot_len (pa_cons (pv 3) pa_nil)) pa_nil))) (fun _ _ => rfl)) pa_nil))))
        (C8.pss_cut (ps_if (pt_cmpR op_eq (pe_cal cd r1 (by rfl) pass0 (pa_cons (pv 0) (pa_cons pe_int pa_nil))) pe_int (nomark _))
          (pss_one (ps_asg (pe_cal cn hr (by rfl) pass0 (pa_cons (pv 0) (pa_cons (pv 2) pa_nil))) (pg_sub (pv 6) (pe_cal cd r1 (by rfl) pass0 (pa_cons (pv 0) (pa_cons pe_int pa_nil))) set_list))) pss_nil)
        (pss_one (ps_expr (pe_bm PySem.F.plainAttrs_list PySem.F.slot_list_append PySem.F.type_list_append mt_append (pv 4) (pa_cons (pe_tup (pa_cons (pe_ix ix_list (pv 6) pe_int (fun _ _ => rfl)) (pa_cons (pe_ix ix_list (pv 6) pe_int (fun _ _ => rfl)) pa_nil))) pa_nil)))))))
      (pss_one (ps_ret (pv 4))))))), ?_⟩
    refine ⟨_, rfl, P, c, k, 4, rfl, pen, by omega, by decide, by decide, fun H1 d1 o1 p1 h1 => ?_⟩
    refine gnm ?_
    dsimp only
    refine asgLc ?_
    refine lcE ?_
    refine ⟨_, rfl, P, c, k + 1, 4, rfl, p1, by omega, by decide, by decide, fun H2 d2 o2 p2 h2 => ?_⟩
    refine ⟨_, _, rfl, rfl, 1 + (d2 : Int), rfl, by omega, by omega, ?_⟩
    have en : (1 + (d2 : Int)).toNat = 1 + d2 := by omega
    rw [en]
    refine lc_rngP (s := 5) (n := 1 + d2) (d := 2) (G := PartB) p2 (by omega) (fun _ _ _ _ _ g p o => upP_partB _ _ _ _ _ g p o) (fun D H acc o v z hd g => offL_partB _ _ _ _ _ _ hd g) ?_ ?_
    · intro i' H3 j hi' o3 hj pen3 kk hk
      exact ⟨_, rfl, _, rfl, P, c, j, _, rfl, pen3, by omega, fun H7 v z o7 pen7 hz => hk H7 v z o7 pen7 hz⟩
    intro H3 D3 ys3 zs3 o3 n3 h3 p3 pr3 zl3
    have dP3 : D3 ≠ P := p2.fresh n3
    have l3 : ys3.length = 1 + d2 := (Pd.len pr3).trans zl3
    refine ⟨Nat.zero_le _, fun L n4 => ?_⟩
    have s4 := same_upd (o := .lst []) n4
    have h4 := upd_same (H := H3) (a := L) (o := .lst [])
    have LP : L ≠ P := p3.fresh n4
    have L3 : D3 ≠ L := fun z => by rw [z, n4] at h3; cases h3
    generalize upd H3 L (.lst []) = H4 at s4 h4 ⊢
    have oH3 : Off P H H3 := (o1.trans o2).trans o3
    have nL : H L = none := by
      cases e : H L with
      | none => rfl
      | some o => rw [oH3 _ _ LP e] at n4; cases n4
    have dP3' : D3 ≠ P := dP3
    refine ⟨_, rfl, (m : Int), rfl, by omega, by omega, ?_⟩
    have em : ((m : Int)).toNat = m := by omega
    rw [em]
    refine for_range (n := m) (fun i σ' H' => ∃ u5 u6 fs ps, σ' = [some (.ref P), some (.int (m : Int)), some (.int (d1 : Int)), some (.ref D3), some (.ref L), u5, u6] ∧ Off P H H' ∧ Pen H' P c (k + 10 + 6 * i) ∧ H' L = some (.lst fs) ∧ H' D3 = some (.lst ys3) ∧ Paired (PartB H') ys3 zs3 ∧ Paired (PairD PartB H') fs ps ∧ ps.length = i)
      ⟨_, _, [], [], rfl, oH3.trans (Off.of s4), (p3.up s4).mono (by omega), h4, s4 _ _ h3, Pd.imp pr3 fun _ _ z => mon_partB _ _ _ _ s4 z, .nil, rfl⟩ ?_ ?_
    · rintro i σ' H5 hi ⟨u5, u6, fs, ps, rfl, o5, p5, hL, hD, prD, prF, pl⟩
      refine gnm ?_
      have ys0 : (0 : Int) < (ys3.length : Int) := by omega
      have ysb : (ys3.length : Int) < 1073741824 := by omega
      refine ⟨_, rfl, _, rfl, _, rfl, D3, ys3, rfl, .inl (SqL.of hD), P, c, k + 10 + 6 * i, _, rfl, p5, by omega, ys0, ysb, fun H6 d6 o6 p6 h6 => ?_⟩
      have hD6 := o6 _ _ dP3 hD
      have l6 : d6 < ys3.length := by omega
      refine ⟨D3, ys3, d6, ys3[d6], rfl, rfl, SqL.of hD6, atI_nat (List.getElem?_eq_getElem l6), ?_⟩
      refine ⟨_, rfl, _, rfl, _, rfl, D3, ys3, rfl, .inl (SqL.of hD6), P, c, k + 10 + 6 * i + 1, _, rfl, p6, by omega, ys0, ysb, fun H7 d7 o7 p7 h7 => ?_⟩
      have hD7 := o7 _ _ dP3 hD6
      have l7 : d7 < ys3.length := by omega
      refine ⟨D3, ys3, d7, ys3[d7], rfl, rfl, SqL.of hD7, atI_nat (List.getElem?_eq_getElem l7), (show (2 : Nat) ≤ sizeLine by decide), fun T n8 => ?_⟩
      have pr7 : Paired (PartB H7) ys3 zs3 := Pd.imp prD fun _ _ z => upP_partB _ _ _ _ _ (upP_partB _ _ _ _ _ z p5 o6) p6 o7
      have prF7 : Paired (PairD PartB H7) fs ps := Pd.imp prF fun _ _ z => upP_pair upP_partB _ _ _ _ _ (upP_pair upP_partB _ _ _ _ _ z p5 o6) p6 o7
      obtain ⟨q6, _, f6⟩ := Pd.get pr7 (List.getElem?_eq_getElem l6)
      obtain ⟨q7, _, f7⟩ := Pd.get pr7 (List.getElem?_eq_getElem l7)
      generalize ys3[d6] = v6 at f6 ⊢
      generalize ys3[d7] = v7 at f7 ⊢
      have s8 := same_upd (o := .lst [v6, v7]) n8
      have h8 := upd_same (H := H7) (a := T) (o := .lst [v6, v7])
      have TP : T ≠ P := p7.fresh n8
      have TC : T ≠ c := p7.freshC n8
      have nT : H T = none := off_none ((o5.trans o6).trans o7) n8 TP
      have TL : T ≠ L := fun z => by have := o7 _ _ LP (o6 _ _ LP hL); rw [← z, n8] at this; cases this
      have TD : T ≠ D3 := fun z => by rw [← z, n8] at hD7; cases hD7
      have p8' := p7.up s8
      have hL8 := s8 _ _ (o7 _ _ LP (o6 _ _ LP hL))
      have hD8 := s8 _ _ hD7
      have o8 : Off P H5 (upd H7 T (.lst [v6, v7])) := (o6.trans o7).trans (Off.of s8)
      have pr8 : Paired (PartB (upd H7 T (.lst [v6, v7]))) ys3 zs3 := Pd.imp pr7 fun _ _ z => mon_partB _ _ _ _ s8 z
      have prF8 : Paired (PairD PartB (upd H7 T (.lst [v6, v7]))) fs ps := Pd.imp prF7 fun _ _ z => mon_pairD mon_partB _ _ _ _ s8 z
      have f6' := mon_partB _ _ _ _ s8 f6
      have f7' := mon_partB _ _ _ _ s8 f7
      have o58 := o5.trans o8
      generalize upd H7 T (.lst [v6, v7]) = H8 at o58 h8 p8' hL8 hD8 o8 pr8 prF8 f6' f7' ⊢
      refine ⟨fun σ2 H2 => ∃ x y qx qy, σ2 = [some (.ref P), some (.int (m : Int)), some (.int (d1 : Int)), some (.ref D3), some (.ref L), some (.int (0 + (i : Int))), some (.ref T)] ∧ Off P H H2 ∧ Pen H2 P c (k + 10 + 6 * i + 6) ∧ H2 L = some (.lst fs) ∧ H2 D3 = some (.lst ys3) ∧ H2 T = some (.lst [x, y]) ∧ Paired (PartB H2) ys3 zs3 ∧ Paired (PairD PartB H2) fs ps ∧ PartB H2 x qx ∧ PartB H2 y qy, ?_, ?_⟩
      · refine ⟨_, rfl, P, c, k + 10 + 6 * i + 2, 3, rfl, p8', by omega, by decide, by decide, fun H9 d9 o9 p9 h9 => ⟨rfl, _, rfl, ite2 (fun _ => ?_) (fun _ => ?_)⟩⟩
        · refine ⟨_, rfl, _, rfl, P, c, k + 10 + 6 * i + 3, _, rfl, p9, by omega, fun HA vA qA oA pA hA => ?_⟩
          refine ⟨_, rfl, _, rfl, P, c, k + 10 + 6 * i + 5, 2, rfl, pA, by omega, by decide, by decide, fun HB dB oB pB hB => ?_⟩
          have oAB := (o9.trans oA).trans oB
          have hTB := oAB _ _ TP h8
          have hLB := oAB _ _ LP hL8
          have hDB := oAB _ _ dP3 hD8
          have up : ∀ {γ : Type} {G : Den γ} {v : V} {z : γ}, UpP P c G → G H8 v z → G HB v z := fun u g => u _ _ _ _ _ (u _ _ _ _ _ (u _ _ _ _ _ g p8' o9) p9 oA) pA oB
          have hA' := upP_partB _ _ _ _ _ hA pA oB
          have cB : dB = 0 ∨ dB = 1 := by omega
          rcases cB with rfl | rfl
          · refine ⟨T, _, 0, 0, rfl, rfl, hTB, rfl, ?_⟩
            exact ⟨vA, v7, qA, q7, rfl, off_put (o58.trans oAB) nT, pB.put TP TC, by rw [upd_ne TL.symm]; exact hLB, by rw [upd_ne TD.symm]; exact hDB, upd_same, Pd.imp pr8 fun _ _ z => offL_partB _ _ _ _ _ _ hTB (up upP_partB z), Pd.imp prF8 fun _ _ z => offL_pair offL_partB _ _ _ _ _ _ hTB (up (upP_pair upP_partB) z), offL_partB _ _ _ _ _ _ hTB hA', offL_partB _ _ _ _ _ _ hTB (up upP_partB f7')⟩
          · refine ⟨T, _, 1, 1, rfl, rfl, hTB, rfl, ?_⟩
            exact ⟨v6, vA, q6, qA, rfl, off_put (o58.trans oAB) nT, pB.put TP TC, by rw [upd_ne TL.symm]; exact hLB, by rw [upd_ne TD.symm]; exact hDB, upd_same, Pd.imp pr8 fun _ _ z => offL_partB _ _ _ _ _ _ hTB (up upP_partB z), Pd.imp prF8 fun _ _ z => offL_pair offL_partB _ _ _ _ _ _ hTB (up (upP_pair upP_partB) z), offL_partB _ _ _ _ _ _ hTB (up upP_partB f6'), offL_partB _ _ _ _ _ _ hTB hA'⟩
        · exact ⟨v6, v7, q6, q7, rfl, o58.trans o9, p9.mono (by omega), o9 _ _ LP hL8, o9 _ _ dP3 hD8, o9 _ _ TP h8, Pd.imp pr8 fun _ _ z => upP_partB _ _ _ _ _ z p8' o9, Pd.imp prF8 fun _ _ z => upP_pair upP_partB _ _ _ _ _ z p8' o9, upP_partB _ _ _ _ _ f6' p8' o9, upP_partB _ _ _ _ _ f7' p8' o9⟩
      · rintro σ2 H9 ⟨x, y, qx, qy, rfl, o9, p9, hL9, hD9, hT9, pr9, prF9, fx, fy⟩
        have fl : fs.length ≤ 20 := by rw [Pd.len prF]; omega
        refine ⟨_, rfl, .inl ⟨rfl, fs, SqL.of hL9⟩, ?_⟩
        refine ⟨_, rfl, T, _, 0, x, rfl, rfl, SqL.of hT9, rfl, _, rfl, T, _, 1, y, rfl, rfl, SqL.of hT9, rfl, (show (2 : Nat) ≤ sizeLine by decide), fun U nU => ?_⟩
        have sU := same_upd (o := .tup [x, y]) nU
        have hU := upd_same (H := H9) (a := U) (o := .tup [x, y])
        have pU := p9.up sU
        have oU : Off P H (upd H9 U (.tup [x, y])) := o9.trans (Off.of sU)
        generalize upd H9 U (.tup [x, y]) = HU at sU hU pU oU ⊢
        have hLU := sU _ _ hL9
        refine ⟨L, fs, .ref U, rfl, rfl, hLU, Nat.lt_of_le_of_lt fl (by decide), ?_⟩
        have LC : L ≠ c := p3.freshC n4
        refine ⟨_, _, fs ++ [.ref U], ps ++ [(qx, qy)], rfl, off_put oU nL, (pU.put LP LC).mono (by omega), upd_same, by rw [upd_ne L3]; exact sU _ _ hD9, Pd.imp pr9 fun _ _ z => offL_partB _ _ _ _ _ _ hLU (mon_partB _ _ _ _ sU z), ?_, by simp [pl]⟩
        have up : ∀ (v : V) (z : Rat × Rat), PairD PartB HU v z → PairD PartB (upd HU L (.lst (fs ++ [.ref U]))) v z := fun v z h => offL_pair offL_partB _ _ _ _ _ _ hLU h
        exact Pd.append (Pd.imp prF9 fun _ _ z => up _ _ (mon_pairD mon_partB _ _ _ _ sU z)) (.cons (up _ _ ⟨U, x, y, rfl, hU, mon_partB _ _ _ _ sU fx, mon_partB _ _ _ _ sU fy⟩) .nil)
    · rintro σ' H5 ⟨u5, u6, fs, ps, rfl, o5, p5, hL, hD, prD, prF, pl⟩
      exact ⟨_, rfl, kk H5 L fs ps o5 nL hL (p5.mono (by omega)) prF pl⟩
/-- ascending indexes below m -/
def AscB (m : Nat) (ks : List Nat) : Prop := ks.Pairwise (· < ·) ∧ ∀ x ∈ ks, x < m
theorem ascB_snoc {i : Nat} {ks : List Nat} (h : AscB i ks) : AscB (i + 1) (ks ++ [i]) := by
  refine ⟨List.pairwise_append.mpr ⟨h.1, List.pairwise_singleton _ _, fun a ha b hb => ?_⟩, fun x hx => ?_⟩
  · rw [List.mem_singleton.mp hb]
    exact h.2 a ha
  · rcases List.mem_append.mp hx with hx | hx
    · have := h.2 x hx
      omega
    · rw [List.mem_singleton.mp hx]
      omega
theorem AscB.more {i j : Nat} {ks : List Nat} (h : AscB i ks) (l : i ≤ j) : AscB j ks := ⟨h.1, fun x hx => by have := h.2 x hx; omega⟩
def spLSome : Sp := fun vs H Q _ => ∃ (P c : Addr) (k m : Nat), vs = [.ref P, .int (m : Int)] ∧ Pen H P c k ∧ k ≤ 800000 ∧ 0 < m ∧ m ≤ 20 ∧
  ∀ H' l ks, Off P H H' → H l = none → H' l = some (.lst (ks.map fun n : Nat => V.int (n : Int))) → Pen H' P c (k + 30) → AscB m ks → Q (.ref l) H'
abbrev nLSome : List Str := ["_law_pen_here", "_law_many", "_law_way", "_law_k"]
theorem scLSome : FnScope nLSome ["_law_pen_here", "_law_many"] (defScope sLSome) := ⟨rfl, rfl, rfl, by decide +kernel, rfl, by decide +kernel, by decide +kernel⟩
theorem ok_lsome (B : Bl mg) (cd : DrawC P w K mg base) (F : FnP K "_law_some" "_law_some" sLSome f fd) : FnOk P w K mg base CX0 2 f fd ["_law_pen_here", "_law_many"] spLSome := by
  refine F.ok scLSome (fun vs H Q E h => ?_) (fun cdv A outer s H vs Q E hr h => ?_)
  · obtain ⟨P, c, k, m, rfl, _⟩ := h
    rfl
  · obtain ⟨P, c, k, m, rfl, pen, hk, hm0, hm, kk⟩ := h
    refine ⟨_, PSs.nox (pss_cons (ps_set (i := 2) scLSome.nd rfl (.inr rfl) (pe_cal cd hr (by rfl) pass0 (pa_cons (pv 0) (pa_cons pe_int pa_nil))))
      (pss_cons (ps_if (pt_cmpR op_lt (pv 2) pe_int (nomark _)) (pss_one (ps_ret (pe_ix ix_list (pe_lst (pa_cons (pe_lst pa_nil) (pa_cons (pe_lst (pa_cons (pe_cal cd hr (by rfl) pass0 (pa_cons (pv 0) (pa_cons (pv 1) pa_nil))) pa_nil)) pa_nil))) (pv 2) (fun _ _ => rfl)))) pss_nil)
      (pss_one (ps_ret (pe_lc (own := [("_law_k", 3)]) (g := gName 3) (te := tVar 3) rfl scLSome.nd (pi_range1 rfl B.range (pa_cons (pv 1) pa_nil)) (blkOk_by (N := nLSome) (sc := defScope sLSome) (by decide +kernel)) (fun _ _ _ _ _ => pg_name (i := 3) scLSome.nd rfl (.inl rfl))
        (fun _ _ _ _ _ => pts_one (PW.pt (pw_or (pt_cmpR op_eq (pv 2) pe_int (nomark _)) (pw_or1 (pt_cmpR op_eq (pe_cal cd hr (by rfl) pass0 (pa_cons (pv 0) (pa_cons pe_int pa_nil))) pe_int (nomark _)))))) (fun _ _ _ _ _ => pv 3)))))), ?_⟩
    refine ⟨_, rfl, P, c, k, 6, rfl, pen, by omega, by decide, by decide, fun H1 d1 o1 p1 h1 => ?_⟩
    refine gnm ?_
    dsimp only
    refine ⟨_, rfl, _, _, rfl, rfl, _, rfl, ite2 (fun e => ?_) (fun e => ?_)⟩
    · have e1 : (d1 : Int) < 2 := of_decide_eq_true e
      refine ⟨Nat.zero_le _, fun L2 n2 => ?_⟩
      have s2 := same_upd (o := .lst []) n2
      have h2 := upd_same (H := H1) (a := L2) (o := .lst [])
      have p2 := p1.up s2
      have LP : L2 ≠ P := p1.fresh n2
      generalize upd H1 L2 (.lst []) = H2 at s2 h2 p2 ⊢
      refine ⟨_, rfl, _, rfl, P, c, k + 1, m, rfl, p2, by omega, by omega, by omega, fun H3 d3 o3 p3 h3 => ⟨(show (1 : Nat) ≤ sizeLine by decide), fun L4 n4 => ?_⟩⟩
      have s4 := same_upd (o := .lst [.int (d3 : Int)]) n4
      have h4 := upd_same (H := H3) (a := L4) (o := .lst [.int (d3 : Int)])
      have p4 := p3.up s4
      have LP4 : L4 ≠ P := p3.fresh n4
      generalize upd H3 L4 (.lst [.int (d3 : Int)]) = H4 at s4 h4 p4 ⊢
      refine ⟨(show (2 : Nat) ≤ sizeLine by decide), fun L5 n5 => ?_⟩
      have s5 := same_upd (o := .lst [.ref L2, .ref L4]) n5
      have h5 := upd_same (H := H4) (a := L5) (o := .lst [.ref L2, .ref L4])
      have p5 := p4.up s5
      generalize upd H4 L5 (.lst [.ref L2, .ref L4]) = H5 at s5 h5 p5 ⊢
      have o13 : Off P H H3 := (o1.trans (Off.of s2)).trans o3
      have o15 : Off P H H5 := (o13.trans (Off.of s4)).trans (Off.of s5)
      have cc : d1 = 0 ∨ d1 = 1 := by omega
      rcases cc with rfl | rfl
      · refine ⟨_, rfl, L5, _, 0, .ref L2, rfl, rfl, SqL.of h5, rfl, ?_⟩
        exact kk H5 L2 [] o15 (off_none o1 n2 LP) (s5 _ _ (s4 _ _ (o3 _ _ LP h2))) (p5.mono (by omega)) ⟨.nil, fun x hx => by cases hx⟩
      · refine ⟨_, rfl, L5, _, 1, .ref L4, rfl, rfl, SqL.of h5, rfl, ?_⟩
        exact kk H5 L4 [d3] o15 (off_none o13 n4 LP4) (s5 _ _ h4) (p5.mono (by omega)) ⟨List.pairwise_singleton _ _, fun x hx => by rw [List.mem_singleton.mp hx]; omega⟩
    · refine nextE ?_
      dsimp only
      refine retE ?_
      refine lcE ?_
      refine ⟨_, rfl, (m : Int), rfl, by omega, by omega, ?_⟩
      have em : ((m : Int)).toNat = m := by omega
      rw [em]
      refine lcRP (n := m) (d := 1) (G := NatD) p1 (by omega) upP_nat offL_nat AscB ⟨.nil, fun x hx => by cases hx⟩ ?_ ?_
      · intro i zs H2 j hi hI o2 hj p2 kT kF h1 h2
        refine gnm ⟨wipe1 _ _ _, ?_⟩
        have z0 : (0 : Int) + (i : Int) = (i : Int) := Int.zero_add _
        refine ⟨_, rfl, rfl, _, rfl, ite2 (fun _ => ?_) (fun _ => ?_)⟩
        · exact iteT ⟨_, rfl, h1 H2 _ i (Off.refl _ _) (p2.mono (by omega)) (by show V.int _ = V.int _; rw [z0]) (ascB_snoc hI)⟩
        · refine ⟨_, rfl, P, c, j, 2, rfl, p2, by omega, by decide, by decide, fun H3 d3 o3 p3 h3 => ⟨rfl, _, rfl, ite2 (fun _ => ?_) (fun _ => ?_)⟩⟩
          · exact ⟨_, rfl, h1 H3 _ i o3 p3 (by show V.int _ = V.int _; rw [z0]) (ascB_snoc hI)⟩
          · exact h2 H3 o3 p3 (hI.more (by omega))
      · intro H2 D ys zs o2 n2 h2 p2 pr hI
        have e := pd_nat pr
        subst e
        exact kk H2 D zs (o1.trans o2) (off_none o1 n2 (p1.fresh n2)) h2 (p2.mono (by omega)) hI
end
end BF
set_option maxHeartbeats 4000000
/-! Plain laws of what infer tells. -/
namespace BF
theorem betw_lt {p : Rat} {a b : Rat × Rat} (h : a.1 < b.1) : betw p a b = betwO p a b := by rw [betw_eq (by grind), if_pos h]
theorem betw_gt {p : Rat} {a b : Rat × Rat} (h : b.1 < a.1) : betw p a b = betwO p b a := by rw [betw_eq (by grind), if_neg (by grind)]
theorem betw_same {p : Rat} {a b : Rat × Rat} (h : a.1 = b.1) : betw p a b = if a.2 = b.2 then a.2 else 0 := by unfold betw; rw [if_pos h]
theorem betw_swap (p : Rat) (a b : Rat × Rat) : betw p a b = betw p b a := by
  by_cases h : a.1 = b.1
  · rw [betw_same h, betw_same h.symm]
    by_cases e : a.2 = b.2
    · rw [if_pos e, if_pos e.symm, e]
    · rw [if_neg e, if_neg fun z => e z.symm]
  · by_cases l : a.1 < b.1
    · rw [betw_lt l, betw_gt l]
    · have l : b.1 < a.1 := by grind
      rw [betw_gt l, betw_lt l]
theorem mul_lt_pos {a b t : Rat} (ht : 0 < t) : a * t < b * t ↔ a < b := Rat.mul_lt_mul_right ht
theorem aff_lt {a b t : Rat} (u : Rat) (ht : 0 < t) : a * t + u < b * t + u ↔ a < b := by
  have := mul_lt_pos (a := a) (b := b) ht
  grind
theorem aff_gt {a b t : Rat} (u : Rat) (ht : t < 0) : a * t + u < b * t + u ↔ b < a := by
  have := mul_lt_pos (a := b) (b := a) (t := -t) (by grind)
  grind
theorem share_aff {p a b t u : Rat} (ht : t ≠ 0) (h : b - a ≠ 0) : (p * t + u - (a * t + u)) / (b * t + u - (a * t + u)) = (p - a) / (b - a) := by
  have e1 : p * t + u - (a * t + u) = (p - a) * t := by grind
  have e2 : b * t + u - (a * t + u) = (b - a) * t := by grind
  rw [e1, e2]
  have : (b - a) * t ≠ 0 := by grind
  grind
theorem betwO_aff {p t u : Rat} {a b : Rat × Rat} (ht : 0 < t) (h : a.1 < b.1) : betwO (p * t + u) (a.1 * t + u, a.2) (b.1 * t + u, b.2) = betwO p a b := by
  unfold betwO
  simp only [aff_lt u ht]
  rw [share_aff (by grind) (by grind)]
theorem betwO_neg {p t u : Rat} {a b : Rat × Rat} (ht : t < 0) (h : a.1 < b.1) : betwO (p * t + u) (b.1 * t + u, b.2) (a.1 * t + u, a.2) = betwO p a b := by
  unfold betwO
  simp only [aff_gt u ht]
  rw [share_aff (by grind) (by grind)]
  by_cases c1 : p < b.1
  · by_cases c2 : a.1 < p
    · rw [if_pos c1, if_pos c2, if_pos c2, if_pos c1]
      have : b.1 - a.1 ≠ 0 := by grind
      have : a.1 - b.1 ≠ 0 := by grind
      grind
    · rw [if_pos c1, if_neg c2, if_neg c2]
  · have c2 : a.1 < p := by grind
    rw [if_neg c1, if_pos c2, if_neg c1]
theorem betw_aff {p t u : Rat} {a b : Rat × Rat} (ht : t ≠ 0) : betw (p * t + u) (a.1 * t + u, a.2) (b.1 * t + u, b.2) = betw p a b := by
  by_cases h : a.1 = b.1
  · rw [betw_same h, betw_same (by simp only [h])]
  · by_cases l : a.1 < b.1
    · rw [betw_lt l]
      by_cases t0 : 0 < t
      · rw [betw_lt (by simp only [aff_lt u t0]; exact l), betwO_aff t0 l]
      · have t1 : t < 0 := by grind
        rw [betw_gt (by simp only [aff_gt u t1]; exact l), betwO_neg t1 l]
    · have l : b.1 < a.1 := by grind
      rw [betw_gt l]
      by_cases t0 : 0 < t
      · rw [betw_gt (by simp only [aff_lt u t0]; exact l), betwO_aff t0 l]
      · have t1 : t < 0 := by grind
        rw [betw_lt (by simp only [aff_gt u t1]; exact l), betwO_neg t1 l]
theorem betwO_mul {p t : Rat} {a b : Rat × Rat} : betwO p (a.1, a.2 * t) (b.1, b.2 * t) = betwO p a b * t := by
  unfold betwO
  by_cases c1 : a.1 < p
  · by_cases c2 : p < b.1
    · simp only [if_pos c1, if_pos c2]
      grind
    · simp only [if_pos c1, if_neg c2]
  · simp only [if_neg c1]
theorem betw_mul {p t : Rat} {a b : Rat × Rat} : betw p (a.1, a.2 * t) (b.1, b.2 * t) = betw p a b * t := by
  by_cases h : a.1 = b.1
  · rw [betw_same h, betw_same (by simp only [h])]
    by_cases e : a.2 = b.2
    · rw [if_pos e, if_pos (by simp only [e])]
    · rw [if_neg e]
      simp only
      split
      · have : (a.2 - b.2) * t = 0 := by grind
        have : t = 0 := by grind
        grind
      · grind
  · by_cases l : a.1 < b.1
    · rw [betw_lt l, betw_lt (by exact l), betwO_mul]
    · have l : b.1 < a.1 := by grind
      rw [betw_gt l, betw_gt (by exact l), betwO_mul]
theorem cdist_inj {n i f g : Nat} (hf : f < n) (hg : g < n) (hi : i < n) (h : cdist n i f = cdist n i g) : f = g := by
  unfold cdist at h
  split at h <;> split at h <;> omega
theorem cdist_inj2 {n i f g : Nat} (hf : f < n) (hg : g < n) (hi : i < n) (h : cdist n f i = cdist n g i) : f = g := by
  unfold cdist at h
  split at h <;> split at h <;> omega
theorem prev_one {α : Type} {n i f g : Nat} {ms : List (Nat × α)} (hk : ∀ k, IsKey ms k → k < n) (hi : i < n) (a : IsPrev n ms i f) (b : IsPrev n ms i g) : f = g :=
  cdist_inj (hk f a.1) (hk g b.1) hi (Nat.le_antisymm (a.2 g b.1) (b.2 f a.1))
theorem next_one {α : Type} {n i f g : Nat} {ms : List (Nat × α)} (hk : ∀ k, IsKey ms k → k < n) (hi : i < n) (a : IsNext n ms i f) (b : IsNext n ms i g) : f = g :=
  cdist_inj2 (hk f a.1) (hk g b.1) hi (Nat.le_antisymm (a.2 g b.1) (b.2 f a.1))
theorem infAt_one {ps : List (Rat × Rat)} {ms : List (Nat × (Rat × Rat))} {i : Nat} {p r r' : Rat × Rat} (hk : ∀ k, IsKey ms k → k < ps.length) (hi : i < ps.length) (a : InfAt ps ms i p r) (b : InfAt ps ms i p r') : r = r' := by
  rcases a with ⟨e, rfl⟩ | e | ⟨e, f, l, a1, m1, a2, m2, h1, h2, h3, h4, h5, h6, rfl⟩
  · rcases b with ⟨_, rfl⟩ | e2 | ⟨_, f', l', b1, n1, b2, n2, g1, _⟩
    · rfl
    · rw [e] at e2; cases e2
    · obtain ⟨m, hm⟩ := g1.1
      rw [e] at hm; cases hm
  · rcases b with ⟨e2, rfl⟩ | e2 | ⟨e2, _⟩
    · rw [e2] at e; cases e
    · rw [e] at e2; cases e2; rfl
    · rw [e] at e2; cases e2
  · rcases b with ⟨e2, rfl⟩ | e2 | ⟨_, f', l', b1, n1, b2, n2, g1, g2, g3, g4, g5, g6, rfl⟩
    · obtain ⟨m, hm⟩ := h1.1
      rw [e2] at hm; cases hm
    · rw [e] at e2; cases e2
    · obtain rfl := prev_one hk hi h1 g1
      obtain rfl := next_one hk hi h2 g2
      rw [h3] at g3; cases g3
      rw [h4] at g4; cases g4
      rw [h5] at g5; cases g5
      rw [h6] at g6; cases g6
      rfl
/-- the answer, entry by entry -/
theorem inf_eq {ps : List (Rat × Rat)} {ms : List (Nat × (Rat × Rat))} {out out' : List (Rat × Rat)} (hk : ∀ k, IsKey ms k → k < ps.length) (a : IsInf ps ms out) (hl : out'.length = ps.length)
    (b : ∀ i p r, ps[i]? = some p → out'[i]? = some r → InfAt ps ms i p r) : out = out' := by
  refine List.ext_getElem? fun i => ?_
  by_cases hi : i < ps.length
  · have gp : ps[i]? = some ps[i] := List.getElem?_eq_getElem hi
    have g1 : out[i]? = some (out[i]'(by rw [a.len]; exact hi)) := List.getElem?_eq_getElem _
    have g2 : out'[i]? = some (out'[i]'(by rw [hl]; exact hi)) := List.getElem?_eq_getElem _
    rw [g1, g2, infAt_one hk hi (a.all i _ _ gp g1) (b i _ _ gp g2)]
  · rw [List.getElem?_eq_none (by rw [a.len]; omega), List.getElem?_eq_none (by omega)]
/-- each coordinate moved along, enlarged, turned round -/
def aff (t1 u1 t2 u2 : Rat) (p : Rat × Rat) : Rat × Rat := (p.1 * t1 + u1, p.2 * t2 + u2)
theorem infMove_aff {t1 u1 t2 u2 : Rat} {p a ma b mb : Rat × Rat} (h1 : t1 ≠ 0) (h2 : t2 ≠ 0) : infMove (aff t1 u1 t2 u2 p) (aff t1 u1 t2 u2 a) ma (aff t1 u1 t2 u2 b) mb = infMove p a ma b mb := by
  unfold infMove aff
  have e1 := betw_aff (p := p.1) (u := u1) (a := (a.1, ma.1)) (b := (b.1, mb.1)) h1
  have e2 := betw_aff (p := p.2) (u := u2) (a := (a.2, ma.2)) (b := (b.2, mb.2)) h2
  simp only at e1 e2 ⊢
  rw [e1, e2]
theorem inf_aff {ps : List (Rat × Rat)} {ms : List (Nat × (Rat × Rat))} {out out' : List (Rat × Rat)} {t1 u1 t2 u2 : Rat} (h1 : t1 ≠ 0) (h2 : t2 ≠ 0) (hk : ∀ k, IsKey ms k → k < ps.length) (a : IsInf ps ms out) (b : IsInf (ps.map (aff t1 u1 t2 u2)) ms out') : out' = out := by
  refine inf_eq (by rw [List.length_map]; exact hk) b (by rw [a.len, List.length_map]) fun i p r gp gr => ?_
  rw [List.getElem?_map] at gp
  cases e : ps[i]? with
  | none => rw [e] at gp; cases gp
  | some q =>
    rw [e] at gp
    cases gp
    rcases a.all i q r e gr with h | h | ⟨h0, f, l, a1, m1, a2, m2, g1, g2, g3, g4, g5, g6, rfl⟩
    · exact .inl h
    · exact .inr (.inl h)
    · refine .inr (.inr ⟨h0, f, l, _, m1, _, m2, by rw [List.length_map]; exact g1, by rw [List.length_map]; exact g2, by rw [List.getElem?_map, g3]; rfl, g4, by rw [List.getElem?_map, g5]; rfl, g6, ?_⟩)
      exact (infMove_aff h1 h2).symm
end BF
set_option maxHeartbeats 4000000
namespace BF
theorem mv_map {α β : Type} (g : α → β) (i : Nat) : ∀ ms : List (Nat × α), mvAt (ms.map fun m => (m.1, g m.2)) i = (mvAt ms i).map g
  | [] => rfl
  | m :: ms => by
    unfold mvAt
    rw [List.map_cons]
    by_cases e : m.1 = i
    · rw [List.find?_cons_of_pos (by simpa using e), List.find?_cons_of_pos (by simpa using e)]
      rfl
    · rw [List.find?_cons_of_neg (by simpa using e), List.find?_cons_of_neg (by simpa using e)]
      exact mv_map g i ms
theorem key_map {α β : Type} (g : α → β) (i : Nat) (ms : List (Nat × α)) : IsKey (ms.map fun m => (m.1, g m.2)) i ↔ IsKey ms i := by
  unfold IsKey
  rw [mv_map]
  cases mvAt ms i with
  | none => simp
  | some m => simp
theorem prev_map {α β : Type} (g : α → β) {n i f : Nat} {ms : List (Nat × α)} (h : IsPrev n ms i f) : IsPrev n (ms.map fun m => (m.1, g m.2)) i f := ⟨(key_map g f ms).mpr h.1, fun k hk => h.2 k ((key_map g k ms).mp hk)⟩
theorem next_map {α β : Type} (g : α → β) {n i f : Nat} {ms : List (Nat × α)} (h : IsNext n ms i f) : IsNext n (ms.map fun m => (m.1, g m.2)) i f := ⟨(key_map g f ms).mpr h.1, fun k hk => h.2 k ((key_map g k ms).mp hk)⟩
/-- points and moves written otherwise -/
theorem inf_map {ps : List (Rat × Rat)} {ms : List (Nat × (Rat × Rat))} {out out' : List (Rat × Rat)} (fp g : Rat × Rat → Rat × Rat) (g0 : g (0, 0) = (0, 0)) (hg : ∀ p a ma b mb, infMove (fp p) (fp a) (g ma) (fp b) (g mb) = g (infMove p a ma b mb))
    (hk : ∀ k, IsKey ms k → k < ps.length) (a : IsInf ps ms out) (b : IsInf (ps.map fp) (ms.map fun m => (m.1, g m.2)) out') : out' = out.map g := by
  refine inf_eq (fun k h => by rw [List.length_map]; exact hk k ((key_map g k ms).mp h)) b (by rw [List.length_map, a.len, List.length_map]) fun i p r gp gr => ?_
  rw [List.getElem?_map] at gp gr
  cases e : ps[i]? with
  | none => rw [e] at gp; cases gp
  | some q =>
    cases e2 : out[i]? with
    | none => rw [e2] at gr; cases gr
    | some r0 =>
      rw [e] at gp
      rw [e2] at gr
      cases gp
      cases gr
      rcases a.all i q r0 e e2 with ⟨h, h0⟩ | h | ⟨h0, f, l, a1, m1, a2, m2, g1, g2, g3, g4, g5, g6, rfl⟩
      · exact .inl ⟨by rw [h]; rfl, by rw [h0, g0]⟩
      · exact .inr (.inl (by rw [mv_map, h]; rfl))
      · refine .inr (.inr ⟨by rw [mv_map, h0]; rfl, f, l, _, _, _, _, ?_, ?_, by rw [List.getElem?_map, g3]; rfl, by rw [mv_map, g4]; rfl, by rw [List.getElem?_map, g5]; rfl, by rw [mv_map, g6]; rfl, ?_⟩)
        · rw [List.length_map]; exact prev_map g g1
        · rw [List.length_map]; exact next_map g g2
        · exact (hg _ _ _ _ _).symm
def scl (t : Rat) (p : Rat × Rat) : Rat × Rat := (p.1 * t + 0, p.2 * t + 0)
def swp (p : Rat × Rat) : Rat × Rat := (p.2, p.1)
theorem infMove_scl {t : Rat} {p a ma b mb : Rat × Rat} : infMove p a (scl t ma) b (scl t mb) = scl t (infMove p a ma b mb) := by
  unfold infMove scl
  have e1 := betw_mul (p := p.1) (t := t) (a := (a.1, ma.1)) (b := (b.1, mb.1))
  have e2 := betw_mul (p := p.2) (t := t) (a := (a.2, ma.2)) (b := (b.2, mb.2))
  simp only [Rat.add_zero] at e1 e2 ⊢
  rw [e1, e2]
theorem inf_scl {ps : List (Rat × Rat)} {ms : List (Nat × (Rat × Rat))} {out out' : List (Rat × Rat)} {t : Rat} (hk : ∀ k, IsKey ms k → k < ps.length) (a : IsInf ps ms out) (b : IsInf ps (ms.map fun m => (m.1, scl t m.2)) out') : out' = out.map (scl t) :=
  inf_map id (scl t) (by unfold scl; simp only; grind) (fun _ _ _ _ _ => infMove_scl) hk a (by rw [List.map_id]; exact b)
theorem inf_swp {ps : List (Rat × Rat)} {ms : List (Nat × (Rat × Rat))} {out out' : List (Rat × Rat)} (hk : ∀ k, IsKey ms k → k < ps.length) (a : IsInf ps ms out) (b : IsInf (ps.map swp) (ms.map fun m => (m.1, swp m.2)) out') : out' = out.map swp :=
  inf_map swp swp rfl (fun _ _ _ _ _ => rfl) hk a b
theorem inf_all {ps : List (Rat × Rat)} {ms : List (Nat × (Rat × Rat))} {out out' : List (Rat × Rat)} (hl : out.length = ps.length) (hm : ∀ i r, out[i]? = some r → mvAt ms i = some r) (hk : ∀ k, IsKey ms k → k < ps.length) (b : IsInf ps ms out') : out' = out :=
  inf_eq hk b hl fun i p r gp gr => .inr (.inl (hm i r gr))
/-! ### begun elsewhere, told backwards -/
def rot (n s k : Nat) : Nat := if k + s < n then k + s else k + s - n
def ord (n s : Nat) (back : Bool) (k : Nat) : Nat := if back = true then rot n s (n - 1 - k) else rot n s k
theorem ord_lt {n s k : Nat} {back : Bool} (hs : s < n) (hk : k < n) : ord n s back k < n := by
  unfold ord rot
  split <;> split <;> omega
theorem ord_onto {n s f : Nat} {back : Bool} (hs : s < n) (hf : f < n) : ∃ k, k < n ∧ ord n s back k = f := by
  cases back with
  | false =>
    refine ⟨if s ≤ f then f - s else f + n - s, ?_, ?_⟩
    · split <;> omega
    · unfold ord rot
      simp only [Bool.false_eq_true, if_false]
      split <;> split <;> omega
  | true =>
    refine ⟨n - 1 - (if s ≤ f then f - s else f + n - s), ?_, ?_⟩
    · split <;> omega
    · unfold ord rot
      simp only [if_true]
      split <;> split <;> omega
theorem ord_fwd {n s i f : Nat} (hs : s < n) (hi : i < n) (hf : f < n) : cdist n (ord n s false i) (ord n s false f) = cdist n i f := by
  unfold ord rot cdist
  simp only [Bool.false_eq_true, if_false]
  split <;> split <;> split <;> split <;> omega
theorem ord_back {n s i f : Nat} (hs : s < n) (hi : i < n) (hf : f < n) : cdist n (ord n s true i) (ord n s true f) = cdist n f i := by
  unfold ord rot cdist
  simp only [if_true]
  split <;> split <;> split <;> split <;> omega
theorem infMove_swap (p a ma b mb : Rat × Rat) : infMove p a ma b mb = infMove p b mb a ma := by
  unfold infMove
  rw [betw_swap, betw_swap p.2]
theorem inf_ord {ps ps' : List (Rat × Rat)} {ms ms' : List (Nat × (Rat × Rat))} {out out' out2 : List (Rat × Rat)} {s : Nat} {back : Bool} (hs : s < ps.length) (hk : ∀ k, IsKey ms k → k < ps.length)
    (pl : ps'.length = ps.length) (pa : ∀ k, k < ps.length → ps'[k]? = ps[ord ps.length s back k]?) (ma : ∀ k, k < ps.length → mvAt ms' k = mvAt ms (ord ps.length s back k)) (mk : ∀ k, IsKey ms' k → k < ps.length) (mn : ms = [] → ms' = [])
    (ol : out2.length = ps.length) (oa : ∀ k, k < ps.length → out2[k]? = out[ord ps.length s back k]?) (a : IsInf ps ms out) (b : IsInf ps' ms' out') : out' = out2 := by
  refine inf_eq (by rw [pl]; exact mk) b (by rw [ol, pl]) fun i p r gp gr => ?_
  have hi : i < ps.length := by
    have := (List.getElem?_eq_some_iff.mp gp).1
    omega
  rw [pa i hi] at gp
  rw [oa i hi] at gr
  have oi := ord_lt (back := back) hs hi
  rcases a.all _ p r gp gr with ⟨h, h0⟩ | h | ⟨h0, f, l, a1, m1, a2, m2, g1, g2, g3, g4, g5, g6, rfl⟩
  · exact .inl ⟨mn h, h0⟩
  · exact .inr (.inl (by rw [ma i hi]; exact h))
  · have fl := hk f g1.1
    have ll := hk l g2.1
    obtain ⟨f', f1, rfl⟩ := ord_onto (back := back) hs fl
    obtain ⟨l', l1, rfl⟩ := ord_onto (back := back) hs ll
    have kf : IsKey ms' f' := ⟨m1, by rw [ma f' f1]; exact g4⟩
    have kl : IsKey ms' l' := ⟨m2, by rw [ma l' l1]; exact g6⟩
    have old : ∀ g, IsKey ms' g → IsKey ms (ord ps.length s back g) := fun g ⟨m, hm⟩ => ⟨m, by rw [← ma g (mk g ⟨m, hm⟩)]; exact hm⟩
    refine .inr (.inr ⟨by rw [ma i hi]; exact h0, ?_⟩)
    rw [pl]
    cases back with
    | false =>
      refine ⟨f', l', a1, m1, a2, m2, ⟨kf, fun g hg => ?_⟩, ⟨kl, fun g hg => ?_⟩, by rw [pa f' f1]; exact g3, by rw [ma f' f1]; exact g4, by rw [pa l' l1]; exact g5, by rw [ma l' l1]; exact g6, rfl⟩
      · have := g1.2 _ (old g hg)
        rw [ord_fwd hs hi f1, ord_fwd hs hi (mk g hg)] at this
        exact this
      · have := g2.2 _ (old g hg)
        rw [ord_fwd hs l1 hi, ord_fwd hs (mk g hg) hi] at this
        exact this
    | true =>
      refine ⟨l', f', a2, m2, a1, m1, ⟨kl, fun g hg => ?_⟩, ⟨kf, fun g hg => ?_⟩, by rw [pa l' l1]; exact g5, by rw [ma l' l1]; exact g6, by rw [pa f' f1]; exact g3, by rw [ma f' f1]; exact g4, infMove_swap _ _ _ _ _⟩
      · have := g2.2 _ (old g hg)
        rw [ord_back hs l1 hi, ord_back hs (mk g hg) hi] at this
        exact this
      · have := g1.2 _ (old g hg)
        rw [ord_back hs hi f1, ord_back hs hi (mk g hg)] at this
        exact this
end BF
set_option maxHeartbeats 4000000
/-! dict of a list of pairs. -/
namespace BF
open PySem PySem.Spec PyProof.Rows L2
/-- a tuple of a whole number and a thing -/
def KvD {α : Type} (F : Den α) : Den (Nat × α) := fun H x m => ∃ b v, x = .ref b ∧ H b = some (.tup [.int (m.1 : Int), v]) ∧ F H v m.2
section
variable {α : Type} {F : Den α}
theorem mon_kvD (m : MonD F) : MonD (KvD F) := fun H H' x z e ⟨b, v, h, h1, h2⟩ => ⟨b, v, h, e _ _ h1, m _ _ _ _ e h2⟩
theorem offL_kvD (m : OffL F) : OffL (KvD F) := fun D H acc o x z hd ⟨b, v, h, h1, h2⟩ => ⟨b, v, h, by rw [upd_ne (ne_of h1 hd (by intro z; cases z))]; exact h1, m _ _ _ _ _ _ hd h2⟩
theorem offM_kvD (m : OffM F) : OffM (KvD F) := fun D H u o x z hd n ⟨b, v, h, h1, h2⟩ => ⟨b, v, h, by rw [upd_ne (ne_of h1 hd (fun z => n.1 _ z.symm))]; exact h1, m _ _ _ _ _ _ hd n h2⟩
theorem upP_kvD {P c : Addr} (m : UpP P c F) : UpP P c (KvD F) := fun H H' x z k ⟨b, v, h, h1, h2⟩ p o => ⟨b, v, h, o _ _ (p.apartT h1) h1, m _ _ _ _ _ h2 p o⟩
theorem kv_dict {K : PySem.W.Frag} {H : Hp} : ∀ {xs : List V} {ms : List (Nat × α)}, Paired (KvD F H) xs ms → ∃ (ps : List Addr) (kvs : List (Key × V)), xs = ps.map V.ref ∧ Paired (fun p (kv : Key × V) => SqT K H p [kV kv.1, kv.2]) ps kvs ∧ Paired (MvD F H) kvs ms
  | _, _, .nil => ⟨[], [], rfl, .nil, .nil⟩
  | _, _, .cons (b := m) ⟨b, v, h, h1, h2⟩ r => by
    obtain ⟨ps, kvs, e, p1, p2⟩ := kv_dict r
    exact ⟨b :: ps, (Sum.inl (m.1 : Int), v) :: kvs, by rw [h, e]; rfl, .cons (SqT.of h1) p1, .cons ⟨rfl, h2⟩ p2⟩
theorem merge_new {H : Hp} : ∀ {more acc : List (Key × V)} {m2 m1 : List (Nat × α)}, Paired (MvD F H) more m2 → Paired (MvD F H) acc m1 → ((m1 ++ m2).map (·.1)).Nodup → mergeK acc more = acc ++ more
  | _, acc, _, _, .nil, _, _ => by rw [List.append_nil]; rfl
  | _, acc, _, m1, .cons (a := kv) (b := m) (l₁ := more) (l₂ := m2) h r, pa, nd => by
    have nk : valV acc kv.1 = none := by
      rw [h.1]
      rcases mv_get m.1 pa with ⟨z, _⟩ | ⟨_, x, _, z, _⟩
      · exact z
      · exfalso
        rw [List.map_append, List.nodup_append] at nd
        have k1 : m.1 ∈ m1.map (·.1) := key_mem.mp ⟨x, z⟩
        exact nd.2.2 _ k1 _ (by simp) rfl
    show mergeK (putK acc kv.1 kv.2) more = _
    rw [putK_new _ nk]
    have ih := merge_new (acc := acc ++ [(kv.1, kv.2)]) (m1 := m1 ++ [m]) r (Pd.append pa (.cons h .nil)) (by rw [List.append_assoc]; exact nd)
    rw [ih, List.append_assoc]
    rfl
theorem merge_nil {H : Hp} {kvs : List (Key × V)} {ms : List (Nat × α)} (p : Paired (MvD F H) kvs ms) (nd : (ms.map (·.1)).Nodup) : mergeK [] kvs = kvs := by
  have := merge_new (acc := []) (m1 := []) p .nil (by simpa using nd)
  simpa using this
end
section
variable {α : Type} {F : Den α} {K : PySem.W.Frag}
/-- dict(l): what is left to say -/
theorem rdDict {H : Hp} {l : Addr} {xs : List V} {ms : List (Nat × α)} {Q : VK} (hl : H l = some (.lst xs)) (p : Paired (KvD F H) xs ms) (nd : (ms.map (·.1)).Nodup) (mF : MonD F) (k : ∀ H' d kvs, Same H H' → H d = none → H' d = some (.dK kvs) → Paired (MvD F H') kvs ms → Q (.ref d) H') :
    ∃ (a : Addr) (ps : List Addr) (kvs : List (Key × V)), [V.ref l] = [.ref a] ∧ SqL K H a (ps.map V.ref) ∧ Paired (fun p kv => SqT K H p [kV kv.1, kv.2]) ps kvs ∧ ∀ p, H p = none → Q (.ref p) (upd H p (.dK (mergeK [] kvs))) := by
  obtain ⟨ps, kvs, e, p1, p2⟩ := kv_dict (K := K) p
  subst e
  refine ⟨l, ps, kvs, rfl, SqL.of hl, p1, fun d nd' => ?_⟩
  rw [merge_nil p2 nd]
  have s := same_upd (o := .dK kvs) nd'
  exact k _ d kvs s nd' upd_same (Pd.imp p2 fun _ _ z => mon_mvD mF s z)
end
section
variable {α γ : Type} {F : Den α} {G : Den γ} {g : TG} {tt : TT} {te : TE} {vs : List Nat} {σ : L2.St} {L : Hp} {Q : VK} {d : Addr} {od : Obj} {kvs : List (Key × V)} {ms : List (Nat × α)}
/-- [e for k in d if c], d locked -/
theorem lcKF (c : Nat × α → Bool) (f : Nat × α → γ) (hd : L d = some (.frz od (.dK kvs))) (pm : Paired (MvD F L) kvs ms) (upG : MonD G) (upD : OffL G) (hl : ms.length ≤ 100000)
    (he : ∀ m H', m ∈ ms → Same L H' → ∀ (kT : VK) (kF : Hp → Prop), (c m = true → ∀ H2 v, Same H' H2 → G H2 v (f m) → kT v H2) → (c m = false → ∀ H2, Same H' H2 → kF H2) →
      g (.int (m.1 : Int)) (wipe σ vs) H' fun σ2 H2 => wipe σ2 vs = wipe σ vs ∧ tt σ2 H2 fun b H3 => if b = true then te σ2 H3 kT else kF H3)
    (k : ∀ H' D ys, Same L H' → L D = none → H' D = some (.lst ys) → Paired (G H') ys ((ms.filter c).map f) → Q (.ref D) H') : LcBody (Itk d od kvs) g tt te vs σ Q L := by
  intro D hD
  have ml : kvs.length = ms.length := Pd.len pm
  refine lc_keys (d := d) (o := od) (kvs := kvs) (fun i H' => ∃ ys, Same L H' ∧ H' D = some (.lst ys) ∧ Paired (G H') ys (((ms.take i).filter c).map f)) ⟨[], same_upd hD, upd_same, .nil⟩ (fun i H' _ ⟨_, sm, _⟩ => sm _ _ hd) ?_ ?_
  · rintro i kk vv H' hx ⟨ys, sm, hd', hys⟩
    obtain ⟨m, gm, ek, fv⟩ := Pd.get pm hx
    simp only at ek
    subst ek
    have tk : ms.take (i + 1) = ms.take i ++ [m] := by rw [List.take_add_one, gm]; rfl
    have hyl : ys.length ≤ 100000 := by
      have h1 := List.length_filter_le c (ms.take i)
      have h2 : (ms.take i).length ≤ ms.length := by rw [List.length_take]; omega
      have h4 := Pd.len hys
      rw [List.length_map] at h4
      omega
    refine he m H' (List.mem_of_getElem? gm) sm _ _ (fun hc H2 v s2 gv => ?_) fun hc H2 s2 => ?_
    · refine ⟨ys, s2 _ _ hd', by show ys.length < 16777216; omega, _, same_put (sm.trans s2) hD, upd_same, ?_⟩
      rw [tk, List.filter_append, List.map_append, List.filter_cons, hc]
      exact Pd.append (Pd.imp hys fun _ _ q => upD _ _ _ _ _ _ (s2 _ _ hd') (upG _ _ _ _ s2 q)) (.cons (upD _ _ _ _ _ _ (s2 _ _ hd') gv) .nil)
    · refine ⟨ys, sm.trans s2, s2 _ _ hd', ?_⟩
      rw [tk, List.filter_append, List.map_append, List.filter_cons, hc]
      show Paired (G H2) ys (_ ++ [])
      rw [List.append_nil]
      exact Pd.imp hys fun _ _ q => upG _ _ _ _ s2 q
  · rintro H' ⟨ys, sm, hd', hys⟩
    rw [ml, List.take_length] at hys
    exact k H' D ys sm hD hd' hys
/-- [e for k in d], d locked -/
theorem lcK (f : Nat × α → γ) (hd : L d = some (.frz od (.dK kvs))) (pm : Paired (MvD F L) kvs ms) (upG : MonD G) (upD : OffL G) (hl : ms.length ≤ 100000)
    (he : ∀ m H', m ∈ ms → Same L H' → ∀ (kT : VK), (∀ H2 v, Same H' H2 → G H2 v (f m) → kT v H2) → g (.int (m.1 : Int)) (wipe σ vs) H' fun σ2 H2 => wipe σ2 vs = wipe σ vs ∧ te σ2 H2 kT)
    (k : ∀ H' D ys, Same L H' → L D = none → H' D = some (.lst ys) → Paired (G H') ys (ms.map f) → Q (.ref D) H') : LcBody (Itk d od kvs) g tYes te vs σ Q L := by
  intro D hD
  have ml : kvs.length = ms.length := Pd.len pm
  refine lc_keys (d := d) (o := od) (kvs := kvs) (fun i H' => ∃ ys, Same L H' ∧ H' D = some (.lst ys) ∧ Paired (G H') ys ((ms.take i).map f)) ⟨[], same_upd hD, upd_same, .nil⟩ (fun i H' _ ⟨_, sm, _⟩ => sm _ _ hd) ?_ ?_
  · rintro i kk vv H' hx ⟨ys, sm, hd', hys⟩
    obtain ⟨m, gm, ek, fv⟩ := Pd.get pm hx
    simp only at ek
    subst ek
    have tk : ms.take (i + 1) = ms.take i ++ [m] := by rw [List.take_add_one, gm]; rfl
    have hyl : ys.length ≤ 100000 := by
      have h2 : (ms.take i).length ≤ ms.length := by rw [List.length_take]; omega
      have h4 := Pd.len hys
      rw [List.length_map] at h4
      omega
    refine he m H' (List.mem_of_getElem? gm) sm _ (fun H2 v s2 gv => ?_)
    refine ⟨ys, s2 _ _ hd', by show ys.length < 16777216; omega, _, same_put (sm.trans s2) hD, upd_same, ?_⟩
    rw [tk, List.map_append]
    exact Pd.append (Pd.imp hys fun _ _ q => upD _ _ _ _ _ _ (s2 _ _ hd') (upG _ _ _ _ s2 q)) (.cons (upD _ _ _ _ _ _ (s2 _ _ hd') gv) .nil)
  · rintro H' ⟨ys, sm, hd', hys⟩
    rw [ml, List.take_length] at hys
    exact k H' D ys sm hD hd' hys
end
theorem nodup_asc {ks : List Nat} (h : ks.Pairwise (· < ·)) : ks.Nodup := h.imp fun h => Nat.ne_of_lt h
end BF
set_option maxHeartbeats 4000000
namespace BF
open PySem PySem.Spec PyProof.Rows L2
abbrev sScaled : Stmt := top 27
abbrev sLAround : Stmt := top 28
section
variable {P : Program} {w : World} {K : PySem.W.Frag} {mg : Str → Option Value} {base : Heap} {CX : CXT} {f : Addr} {fd : FuncData} {C CI CQ : Addr}
def spScaled (C : Addr) : Sp := fun vs H Q _ => ∃ (a : Addr) (xs : List V) (ps : List (Rat × Rat)) (x y : V) (t u : Rat) (n m : Nat), vs = [.ref a, x, y] ∧ H a = some (.lst xs) ∧ Paired (PrR C H) xs ps ∧ xs.length ≤ 1000 ∧ RatV C H x t ∧ RatV C H y u ∧ (∀ p ∈ ps, BdP n p) ∧ Bd m t ∧ Bd m u ∧ n + m + m + 2 ≤ 8000 ∧
  ∀ H' l ys, Same H H' → H l = none → H' l = some (.lst ys) → Paired (PrR C H') ys (ps.map (aff t u t u)) → Q (.ref l) H'
abbrev nScaled : List Str := ["_law_pairs_here", "_law_often", "_law_more", "_law_x", "_law_y"]
theorem scScaled : FnScope nScaled ["_law_pairs_here", "_law_often", "_law_more"] (defScope sScaled) := ⟨rfl, rfl, rfl, by decide +kernel, rfl, by decide +kernel, by decide +kernel⟩
theorem ok_scaled (R : RK P w K mg base C CI CQ) (F : FnP K "_law_scaled" "_law_scaled" sScaled f fd) : FnOk P w K mg base CX0 5 f fd ["_law_pairs_here", "_law_often", "_law_more"] (spScaled C) := by
  refine F.ok scScaled (fun vs H Q E h => ?_) (fun cdv A outer s H vs Q E hr h => ?_)
  · obtain ⟨a, xs, ps, x, y, t, u, n, m, rfl, _⟩ := h
    rfl
  · obtain ⟨a, xs, ps, x, y, t, u, n, m, rfl, ha, hz, hl, hx, hy, bp, bt, bu, hn, k⟩ := h
    refine ⟨_, PSs.nox (pss_one (ps_ret (pe_lc (own := [("_law_x", 3), ("_law_y", 4)]) (g := gt2 K 3 4) (tt := tYes) rfl scScaled.nd (pi_list (pv 0)) (blkOk_by (N := nScaled) (sc := defScope sScaled) (by decide +kernel))
      (fun _ _ _ _ _ => pg_t2 K (by rfl) (pg_name (i := 3) scScaled.nd rfl (.inl rfl)) (pg_name (i := 4) scScaled.nd rfl (.inl rfl))) (fun _ _ _ _ _ => pts_nil)
      (fun _ _ _ _ _ => pe_tup (pa_cons (pe_op (op_radd R hr) (pe_op (op_rmul R hr) (pv 3) (pv 1)) (pv 2)) (pa_cons (pe_op (op_radd R hr) (pe_op (op_rmul R hr) (pv 4) (pv 1)) (pv 2)) pa_nil)))))), ?_⟩
    refine lcE ?_
    refine ⟨_, rfl, a, rfl, ⟨_, SqL.of ha⟩, ?_⟩
    refine lcM (K := K) (F := PrR C) (G := PrR C) (aff t u t u) (SqL.of ha) hz (mon_pairD mon_rat) (mon_pairD mon_rat) (offL_pair offL_rat) (by omega) ?_ ?_
    · rintro z ⟨p, q⟩ H1 hm s1 ⟨b, z0, z1, rfl, hb, h0, h1⟩ kT hk
      obtain ⟨b0, b1⟩ := bp _ hm
      refine gt2R (SqT.of hb) ⟨wipe2 _ _ _ _ _ (by decide), ?_⟩
      refine ⟨_, rfl, _, rfl, p, t, n, m, h0, hx.up s1, b0, bt, by omega, fun H2 v2 s2 r2 => ?_⟩
      refine ⟨_, rfl, p * t, u, n + m, m, r2, (hy.up s1).up s2, b0.mul bt, bu, by omega, fun H3 v3 s3 r3 => ?_⟩
      have s23 := s2.trans s3
      refine ⟨_, rfl, _, rfl, q, t, n, m, h1.up s23, (hx.up s1).up s23, b1, bt, by omega, fun H4 v4 s4 r4 => ?_⟩
      refine ⟨_, rfl, q * t, u, n + m, m, r4, ((hy.up s1).up s23).up s4, b1.mul bt, bu, by omega, fun H5 v5 s5 r5 => ⟨(show (2 : Nat) ≤ sizeLine by decide), fun T n6 => ?_⟩⟩
      have s6 := same_upd (o := .tup [v3, v5]) n6
      exact hk _ _ ((s23.trans (s4.trans s5)).trans s6) ⟨T, v3, v5, rfl, upd_same, ((r3.up s4).up s5).up s6, r5.up s6⟩
    · intro H1 D ys s1 n1 h1 hp
      exact k H1 D ys s1 n1 h1 hp
theorem cut_takeN (ys : List V) (d : Nat) : cutV ys none (some (d : Int)) = ys.take d := by
  unfold cutV
  rw [HT.sIx_none, HT.sIx_nat]
  simp only [List.drop_zero, Nat.sub_zero]
  rw [List.take_eq_take_iff]
  omega
theorem cut_dropN (ys : List V) (d : Nat) (h : d ≤ ys.length) : cutV ys (some (d : Int)) none = ys.drop d := by
  unfold cutV
  rw [HT.sIx_none, HT.sIx_nat]
  rw [show min d ys.length = d by omega]
  rw [List.take_of_length_le (by rw [List.length_drop]; omega)]
def turned (s : Nat) (back : Bool) (xs : List V) : List V := if back = true then (xs.drop s ++ xs.take s).reverse else xs.drop s ++ xs.take s
def spLAround : Sp := fun vs H Q _ => ∃ (a : Addr) (xs : List V) (s : Nat) (back : Bool), vs = [.ref a, .int (s : Int), .bl back] ∧ H a = some (.lst xs) ∧ s ≤ xs.length ∧ xs.length ≤ 1000 ∧
  ∀ H' l, Same H H' → H' l = some (.lst (turned s back xs)) → Q (.ref l) H'
abbrev nLAround : List Str := ["_law_things", "_law_start", "_law_is_back", "_law_found"]
theorem scLAround : FnScope nLAround ["_law_things", "_law_start", "_law_is_back"] (defScope sLAround) := ⟨rfl, rfl, rfl, by decide +kernel, rfl, by decide +kernel, by decide +kernel⟩
theorem ok_laround (F : FnP K "_law_around" "_law_around" sLAround f fd) : FnOk P w K mg base CX0 1 f fd ["_law_things", "_law_start", "_law_is_back"] spLAround := by
  refine F.ok scLAround (fun vs H Q E h => ?_) (fun cdv A outer s H vs Q E hr h => ?_)
  · obtain ⟨a, xs, s, back, rfl, _⟩ := h
    rfl
  · obtain ⟨a, xs, st, back, rfl, ha, hs, hl, k⟩ := h
    refine ⟨_, PSs.nox (pss_cons (ps_set (i := 3) scLAround.nd rfl (.inl rfl) (pe_op op_cat (pe_slice sl_list (pv 0) (po_some (pv 1)) po_none) (pe_slice sl_list (pv 0) po_none (po_some (pv 1)))))
      (pss_one (ps_ret (pe_ifExp (pt_val (pv 2)) (pe_revL (pv 3)) (pv 3))))), ?_⟩
    refine ⟨_, rfl, _, rfl, _, rfl, a, _, rfl, SqL.of ha, fun p1 n1 => ?_⟩
    rw [cut_dropN _ _ hs]
    have s1 := same_upd (o := .lst (xs.drop st)) n1
    have h1 := upd_same (H := H) (a := p1) (o := .lst (xs.drop st))
    generalize upd H p1 (.lst (xs.drop st)) = H1 at s1 h1 ⊢
    refine ⟨_, rfl, _, rfl, _, rfl, a, _, rfl, SqL.of (s1 _ _ ha), fun p2 n2 => ?_⟩
    rw [cut_takeN]
    have s2 := same_upd (o := .lst (xs.take st)) n2
    have h2 := upd_same (H := H1) (a := p2) (o := .lst (xs.take st))
    generalize upd H1 p2 (.lst (xs.take st)) = H2 at s2 h2 ⊢
    refine ⟨p1, p2, _, _, rfl, rfl, s2 _ _ h1, h2, by rw [List.length_drop, List.length_take]; show _ ≤ 16777216; omega, fun p3 n3 => ?_⟩
    have s3 := same_upd (o := .lst (xs.drop st ++ xs.take st)) n3
    have h3 := upd_same (H := H2) (a := p3) (o := .lst (xs.drop st ++ xs.take st))
    generalize upd H2 p3 (.lst (xs.drop st ++ xs.take st)) = H3 at s3 h3 ⊢
    have s13 := (s1.trans s2).trans s3
    refine ⟨_, rfl, back, rfl, ?_⟩
    cases back with
    | true =>
      refine iteT ?_
      refine ⟨_, rfl, p3, _, rfl, SqL.of h3, fun p4 n4 => k _ _ (s13.trans (same_upd n4)) upd_same⟩
    | false =>
      refine iteF ?_
      exact ⟨_, rfl, k _ _ s13 h3⟩
end
end BF
set_option maxHeartbeats 4000000
namespace BF
open PySem PySem.Spec PyProof.Rows L2
abbrev sHomes : Stmt := top 29
section
variable {P : Program} {w : World} {K : PySem.W.Frag} {mg : Str → Option Value} {base : Heap} {CX : CXT} {f : Addr} {fd : FuncData} {C CI CQ : Addr}
theorem small8 {i : Int} (h : i.natAbs < 2 ^ 30) : i.natAbs < 2 ^ 8000 := Nat.lt_of_lt_of_le h (pow_mono (by decide))
theorem divInt_ne {a b : Int} (ha : a ≠ 0) (hb : b ≠ 0) : Rat.divInt a b ≠ 0 := by
  rw [Rat.divInt_eq_div]
  have h1 : (a : Rat) ≠ 0 := by exact_mod_cast ha
  have h2 : (b : Rat) ≠ 0 := by exact_mod_cast hb
  grind
theorem pr_num {H : Hp} {v : V} {p : Rat × Rat} (h : PrR C H v p) : PairD (Num C) H v p := by
  obtain ⟨a, x, y, e, h1, h2, h3⟩ := h
  exact ⟨a, x, y, e, h1, .inl h2, .inl h3⟩
theorem rdInfer {H : Hp} {a d : Addr} {xs : List V} {kvs : List (Key × V)} {ps : List (Rat × Rat)} {ms : List (Nat × (Rat × Rat))} {n : Nat} {Q : VK} {E : XK} (ha : H a = some (.lst xs)) (hp : Paired (PrR C H) xs ps) (hl : xs.length ≤ 60) (hd : H d = some (.dK kvs)) (hm : Paired (MvD (PrR C) H) kvs ms) (ml : ms.length ≤ 60) (nod : (ms.map (·.1)).Nodup)
    (keys : ∀ m ∈ ms, m.1 < ps.length) (bp : ∀ p ∈ ps, BdP n p) (bm : ∀ m ∈ ms, BdP n m.2) (hn : n ≤ 800) (k : ∀ H' l ys out, Same H H' → H l = none → H' l = some (.lst ys) → Paired (PrR C H') ys out → IsInf ps ms out → Q (.ref l) H') : spInfer K C [.ref a, .ref d] H Q E :=
  ⟨a, d, xs, kvs, ps, ms, n, rfl, SqL.of ha, Pd.imp hp fun _ _ z => pr_num z, hl, hd, Pd.imp hm fun _ _ z => ⟨z.1, pr_num z.2⟩, ml, nod, keys, bp, bm, hn, k⟩
/-- points, moves, and what infer told of them -/
structure Sit (C P : Addr) (H : Hp) (a d e : Addr) (xs zs : List V) (kvs : List (Key × V)) (ps : List (Rat × Rat)) (ms : List (Nat × (Rat × Rat))) (out : List (Rat × Rat)) : Prop where
  ha : H a = some (.lst xs)
  hp : Paired (PrR C H) xs ps
  hd : H d = some (.dK kvs)
  hm : Paired (MvD (PrR C) H) kvs ms
  he : H e = some (.lst zs)
  ho : Paired (PrR C H) zs out
  aP : a ≠ P
  eP : e ≠ P
  nod : (ms.map (·.1)).Nodup
  keys : ∀ m ∈ ms, m.1 < ps.length
  pl0 : 0 < ps.length
  pl : ps.length ≤ 9
  ml : ms.length ≤ 9
  bp : ∀ p ∈ ps, BdP 20 p
  bm : ∀ m ∈ ms, BdP 20 m.2
  bo : ∀ p ∈ out, BdP 144 p
  inf : IsInf ps ms out
theorem Sit.up {Pn : Addr} {H H' : Hp} {a d e : Addr} {xs zs : List V} {kvs : List (Key × V)} {ps : List (Rat × Rat)} {ms : List (Nat × (Rat × Rat))} {out : List (Rat × Rat)} (S : Sit C Pn H a d e xs zs kvs ps ms out) (s : Same H H') : Sit C Pn H' a d e xs zs kvs ps ms out :=
  { S with ha := s _ _ S.ha, hp := Pd.imp S.hp fun _ _ z => mon_pairD mon_rat _ _ _ _ s z, hd := s _ _ S.hd, hm := Pd.imp S.hm fun _ _ z => mon_mvD (mon_pairD mon_rat) s z, he := s _ _ S.he, ho := Pd.imp S.ho fun _ _ z => mon_pairD mon_rat _ _ _ _ s z }
theorem Sit.off {Pn c : Addr} {H H' : Hp} {k : Nat} {a d e : Addr} {xs zs : List V} {kvs : List (Key × V)} {ps : List (Rat × Rat)} {ms : List (Nat × (Rat × Rat))} {out : List (Rat × Rat)} (S : Sit C Pn H a d e xs zs kvs ps ms out) (p : Pen H Pn c k) (o : Off Pn H H') : Sit C Pn H' a d e xs zs kvs ps ms out := by
  have dP : d ≠ Pn := fun z => by
    obtain ⟨xs, h⟩ := p.some_
    have := S.hd
    rw [z, h] at this
    cases this
  exact { S with ha := o _ _ S.aP S.ha, hp := Pd.imp S.hp fun _ _ z => upP_pair upP_rat _ _ _ _ _ z p o, hd := o _ _ dP S.hd, hm := Pd.imp S.hm fun _ _ z => ⟨z.1, upP_pair upP_rat _ _ _ _ _ z.2 p o⟩, he := o _ _ S.eP S.he, ho := Pd.imp S.ho fun _ _ z => upP_pair upP_rat _ _ _ _ _ z p o }
theorem Sit.isKey {Pn : Addr} {H : Hp} {a d e : Addr} {xs zs : List V} {kvs : List (Key × V)} {ps : List (Rat × Rat)} {ms : List (Nat × (Rat × Rat))} {out : List (Rat × Rat)} (S : Sit C Pn H a d e xs zs kvs ps ms out) (k : Nat) (h : IsKey ms k) : k < ps.length := by
  obtain ⟨m, hm, rfl⟩ := List.mem_map.mp (key_mem.mp h)
  exact S.keys m hm
theorem Sit.hmN {Pn : Addr} {H : Hp} {a d e : Addr} {xs zs : List V} {kvs : List (Key × V)} {ps : List (Rat × Rat)} {ms : List (Nat × (Rat × Rat))} {out : List (Rat × Rat)} (S : Sit C Pn H a d e xs zs kvs ps ms out) : Paired (MvD (PairD (Num C)) H) kvs ms := Pd.imp S.hm fun _ _ z => ⟨z.1, pr_num z.2⟩
theorem Sit.bmN {Pn : Addr} {H : Hp} {a d e : Addr} {xs zs : List V} {kvs : List (Key × V)} {ps : List (Rat × Rat)} {ms : List (Nat × (Rat × Rat))} {out : List (Rat × Rat)} (S : Sit C Pn H a d e xs zs kvs ps ms out) {n : Nat} (h : 20 ≤ n) (m : Nat × (Rat × Rat)) (hm : m ∈ ms) : BdP n m.2 := ⟨(S.bm m hm).1.mono h, (S.bm m hm).2.mono h⟩
theorem callE {sp : Sp} {dvs : List V} {E : XK} {t : TA} {σ : L2.St} {H : Hp} {Q : VK} (h : t σ H fun vs H1 => sp (vs ++ dvs) H1 Q E) : tCall sp dvs E t σ H Q := h
structure C23 (P : Program) (w : World) (K : PySem.W.Frag) (mg : Str → Option Value) (base : Heap) (C : Addr) : Prop where
  draw : DrawC P w K mg base
  infer : Cal P w K mg base CX0 7 "infer" ["points", "moves"] (spInfer K C)
  scaled : Cal P w K mg base CX0 5 "_law_scaled" ["_law_pairs_here", "_law_often", "_law_more"] (spScaled C)
  around : Cal P w K mg base CX0 1 "_law_around" ["_law_things", "_law_start", "_law_is_back"] spLAround
def spRight (C : Addr) : Sp := fun vs H Q _ => ∃ (P c a d e : Addr) (k : Nat) (xs zs : List V) (kvs : List (Key × V)) (ps : List (Rat × Rat)) (ms : List (Nat × (Rat × Rat))) (out : List (Rat × Rat)), vs = [.ref P, .ref a, .ref d, .ref e] ∧ Pen H P c k ∧ k ≤ 800000 ∧ Sit C P H a d e xs zs kvs ps ms out ∧
  ∀ H', Off P H H' → Pen H' P c (k + 10) → Q (.bl true) H'
abbrev nHomes : List Str := ["_law_pen_here", "_law_points", "_law_moves", "_law_due", "_law_often", "_law_more", "_law_some_here", "_law_x", "_law_y"]
theorem scHomes : FnScope nHomes ["_law_pen_here", "_law_points", "_law_moves", "_law_due"] (defScope sHomes) := ⟨rfl, rfl, rfl, by decide +kernel, rfl, by decide +kernel, by decide +kernel⟩
theorem bd_aff {n m : Nat} {t u : Rat} {p : Rat × Rat} (h : BdP n p) (bt : Bd m t) (bu : Bd m u) : BdP (n + m + m + 1) (aff t u t u p) := ⟨(h.1.mul bt).add bu, (h.2.mul bt).add bu⟩
theorem bd_lit {t b : Int} (hb : b ≠ 0) (h1 : t.natAbs < 2 ^ 7) (h2 : b.natAbs < 2 ^ 7) : Bd 7 (Rat.divInt t b) := bd_divInt hb h1 h2
theorem ok_homes (R : RK P w K mg base C CI CQ) (c : C23 P w K mg base C) (F : FnP K "_law_homes_right" "_law_homes_right" sHomes f fd) : FnOk P w K mg base CX0 8 f fd ["_law_pen_here", "_law_points", "_law_moves", "_law_due"] (spRight C) := by
  refine F.ok scHomes (fun vs H Q E h => ?_) (fun cdv A outer s H vs Q E hr h => ?_)
  · obtain ⟨P, c, a, d, e, k, xs, zs, kvs, ps, ms, out, rfl, _⟩ := h
    rfl
  · obtain ⟨P, cc, a, d, e, k, xs, zs, kvs, ps, ms, out, rfl, pen, hk, S, kk⟩ := h
    have r1 := hr.mono (show 1 ≤ 7 by decide)
    have r3 := hr.mono (show 3 ≤ 7 by decide)
    have r4 := hr.mono (show 4 ≤ 7 by decide)
    have r5 := hr.mono (show 5 ≤ 7 by decide)
    refine ⟨_, PSs.nox (pss_cons (ps_set (i := 4) scHomes.nd rfl (.inl rfl) (pe_rt2 R r3 (by rfl) R.mgC (pa_cons (pe_op op_add pe_int (pe_cal c.draw r1 (by rfl) pass0 (pa_cons (pv 0) (pa_cons pe_int pa_nil)))) (pa_cons (pe_op op_add pe_int (pe_cal c.draw r1 (by rfl) pass0 (pa_cons (pv 0) (pa_cons pe_int pa_nil)))) pa_nil))))
      (pss_cons (ps_set (i := 5) scHomes.nd rfl (.inl rfl) (pe_rt2 R r3 (by rfl) R.mgC (pa_cons (pe_op op_sub (pe_cal c.draw r1 (by rfl) pass0 (pa_cons (pv 0) (pa_cons pe_int pa_nil))) pe_int) (pa_cons (pe_op op_add pe_int (pe_cal c.draw r1 (by rfl) pass0 (pa_cons (pv 0) (pa_cons pe_int pa_nil)))) pa_nil))))
      (pss_cons (ps_for PassesOwn.never rfl (pi_tup (pe_tup (pa_cons (pv 4) (pa_cons (pe_op (op_rsub R r4) (pe_rt1 R r3 (by rfl) R.mgC (pa_cons pe_int pa_nil)) (pv 4)) (pa_cons (pe_rt1 R r3 (by rfl) R.mgC (pa_cons (pe_un un_neg pe_int) pa_nil)) pa_nil))))) (pg_name (i := 6) scHomes.nd rfl (.inl rfl))
        (pss_one (ps_if (pt_cmpR (op_nePs R r3) (pe_cal c.infer hr (by rfl) pass0 (pa_cons (pe_cal c.scaled r5 (by rfl) pass0 (pa_cons (pv 1) (pa_cons (pv 6) (pa_cons (pv 5) pa_nil)))) (pa_cons (pv 2) pa_nil))) (pv 3) (nomark _)) (pss_one (ps_ret pe_bl)) pss_nil)))
      (pss_one (ps_ret (pe_cmpR (op_eqPs R r3) (pe_cal c.infer hr (by rfl) pass0 (pa_cons (pe_lc (own := [("_law_x", 7), ("_law_y", 8)]) (g := gt2 K 7 8) (tt := tYes) (te := tTup (tCons (tVar 7) (tCons (tOp (rRat (· - ·) C) (tCB (rMk1 C) (tCons (tC (.int 0)) tNil)) (tVar 8)) tNil))) rfl scHomes.nd (pi_list (pv 1)) (blkOk_by (N := nHomes) (sc := defScope sHomes) (by decide +kernel))
          (fun _ _ _ _ _ => pg_t2 K (by rfl) (pg_name (i := 7) scHomes.nd rfl (.inl rfl)) (pg_name (i := 8) scHomes.nd rfl (.inl rfl))) (fun _ _ _ _ _ => pts_nil) (fun _ _ _ _ _ => pe_tup (pa_cons (pv 7) (pa_cons (pe_op (op_rsub R r4) (pe_rt1 R r3 (by rfl) R.mgC (pa_cons pe_int pa_nil)) (pv 8)) pa_nil)))) (pa_cons (pv 2) pa_nil))) (pv 3) (nomark _))))))), ?_⟩
    refine ⟨_, rfl, P, cc, k, 9, rfl, pen, by omega, by decide, by decide, fun H1 d1 o1 p1 h1 => ⟨_, _, rfl, rfl, ?_⟩⟩
    refine ⟨_, rfl, P, cc, k + 1, 5, rfl, p1, by omega, by decide, by decide, fun H2 d2 o2 p2 h2 => ⟨_, _, rfl, rfl, ?_⟩⟩
    refine ⟨_, _, rfl, (by omega), small8 (by omega), small8 (by omega), fun H3 v3 s3 r3 => ?_⟩
    have p3 := p2.up s3
    refine ⟨_, rfl, P, cc, k + 2, 99, rfl, p3, by omega, by decide, by decide, fun H4 d4 o4 p4 h4 => ⟨_, _, rfl, rfl, ?_⟩⟩
    refine ⟨_, rfl, P, cc, k + 3, 9, rfl, p4, by omega, by decide, by decide, fun H5 d5 o5 p5 h5 => ⟨_, _, rfl, rfl, ?_⟩⟩
    refine ⟨_, _, rfl, (by omega), small8 (by omega), small8 (by omega), fun H6 v6 s6 r6 => ?_⟩
    have p6 := p5.up s6
    have oH6 : Off P H H6 := ((((o1.trans o2).trans (Off.of s3)).trans o4).trans o5).trans (Off.of s6)
    have S6 := S.off pen oH6
    have r36 : RatV C H6 v3 (Rat.divInt (1 + d1) (1 + d2)) := (upP_rat _ _ _ _ _ (upP_rat _ _ _ _ _ r3 p3 o4) p4 o5).up s6
    have bt : Bd 7 (Rat.divInt (1 + d1) (1 + d2)) := bd_lit (by omega) (by omega) (by omega)
    have bu : Bd 7 (Rat.divInt ((d4 : Int) - 49) (1 + d5)) := bd_lit (by omega) (by omega) (by omega)
    have tne : Rat.divInt (1 + d1) (1 + d2) ≠ 0 := by
      exact divInt_ne (by omega) (by omega)
    generalize Rat.divInt (1 + d1) (1 + d2) = t at r36 bt tne
    generalize Rat.divInt ((d4 : Int) - 49) (1 + d5) = u at r6 bu
    refine ⟨_, rfl, 0, rfl, by decide, fun H7 v7 s7 r7 => ?_⟩
    refine ⟨_, rfl, ((0 : Int) : Rat), t, 1, 7, r7, r36.up s7, bd_zero 1 (by decide), bt, by decide, fun H8 v8 s8 r8 => ?_⟩
    refine ⟨1, rfl, _, rfl, by decide, fun H9 v9 s9 r9 => ⟨(show (3 : Nat) ≤ sizeLine by decide), fun T nT => ?_⟩⟩
    have sT := same_upd (o := .tup [v3, v8, v9]) nT
    have hT := upd_same (H := H9) (a := T) (o := .tup [v3, v8, v9])
    have sAll := ((s7.trans s8).trans s9).trans sT
    have f1 := r36.up sAll
    have f2 := (r8.up s9).up sT
    have f3 := r9.up sT
    have f0 := r6.up sAll
    have ST := S6.up sAll
    have pT := p6.up sAll
    have oT : Off P H (upd H9 T (.tup [v3, v8, v9])) := oH6.trans (Off.of sAll)
    generalize upd H9 T (.tup [v3, v8, v9]) = HT at hT f1 f2 f3 f0 ST pT oT ⊢
    clear sAll sT
    have e0 : ((0 : Int) : Rat) = 0 := rfl
    have em1 : ((-1 : Int) : Rat) = -1 := rfl
    rw [e0] at f2
    rw [em1] at f3
    have fac : ∀ (j : Nat) (x : V), [v3, v8, v9][j]? = some x → ∃ q, RatV C HT x q ∧ q ≠ 0 ∧ Bd 10 q := fun j x hx => by
      match j, hx with
      | 0, hx => cases hx; exact ⟨t, f1, tne, bt.mono (by decide)⟩
      | 1, hx => cases hx; exact ⟨0 - t, f2, by grind, ((bd_zero 1 (by decide)).sub bt).mono (by decide)⟩
      | 2, hx => cases hx; exact ⟨-1, f3, by decide, by decide, by decide⟩
      | n + 3, hx => simp at hx
    have bu10 : Bd 10 u := bu.mono (by decide)
    refine ⟨T, rfl, ⟨_, SqT.of hT⟩, for_tup (K := K) (a := T) (xs := [v3, v8, v9]) (fun j σ' H' => ∃ u6, σ' = [some (.ref P), some (.ref a), some (.ref d), some (.ref e), some v3, some v6, u6, none, none] ∧ Same HT H') ⟨_, rfl, Same.refl _⟩ (fun j σ' H' _ ⟨_, _, sm⟩ => SqT.of (sm _ _ hT)) ?_ ?_⟩
    · rintro j x σ' H1 hx ⟨u6, rfl, sm⟩
      obtain ⟨q, hq, qne, bq⟩ := fac j x hx
      refine gnm ?_
      have S1 := ST.up sm
      have xl : xs.length ≤ 9 := by rw [Pd.len S1.hp]; exact S1.pl
      refine ⟨_, rfl, _, rfl, _, rfl, a, xs, ps, x, v6, q, u, 20, 10, rfl, S1.ha, S1.hp, by omega, hq.up sm, f0.up sm, S1.bp, bq, bu10, by decide, fun H2 l2 ys2 s2 n2 h2 p2 => ?_⟩
      have S2 := S1.up s2
      have y2 : ys2.length ≤ 60 := by rw [Pd.len p2, List.length_map]; have := S2.pl; omega
      refine ⟨_, rfl, l2, d, ys2, kvs, _, ms, 60, rfl, SqL.of h2, Pd.imp p2 fun _ _ z => pr_num z, y2, S2.hd, S2.hmN, (by have := S2.ml; omega), S2.nod, (by rw [List.length_map]; exact S2.keys), (fun p hp => ?_), S2.bmN (by decide), by decide, fun H3 l3 ys3 out3 s3 n3 h3 p3 i3 => ?_⟩
      · obtain ⟨p0, hp0, rfl⟩ := List.mem_map.mp hp
        have := bd_aff (S2.bp p0 hp0) bq bu10
        exact ⟨this.1.mono (by decide), this.2.mono (by decide)⟩
      have S3 := S2.up s3
      have eo : out3 = out := inf_aff qne qne S2.isKey S2.inf i3
      refine ⟨_, rfl, out3, out, ⟨l3, ys3, rfl, h3, p3⟩, ⟨e, zs, rfl, S3.he, S3.ho⟩, fun H4 s4 => ⟨_, rfl, ?_⟩⟩
      rw [decide_eq_true eo]
      refine iteF ?_
      exact ⟨_, rfl, ((sm.trans s2).trans s3).trans s4⟩
    · rintro σ' H1 ⟨u6, rfl, sm⟩
      have S1 := ST.up sm
      have xl : xs.length ≤ 9 := by rw [Pd.len S1.hp]; exact S1.pl
      dsimp only
      refine retE ?_
      refine opE ?_
      refine callE (consE ?_)
      refine lcE ?_
      refine ⟨_, rfl, a, rfl, ⟨_, SqL.of S1.ha⟩, ?_⟩
      refine lcM (K := K) (F := PrR C) (G := PrR C) (aff 1 0 (-1) 0) (SqL.of S1.ha) S1.hp (mon_pairD mon_rat) (mon_pairD mon_rat) (offL_pair offL_rat) (by omega) ?_ ?_
      · rintro z ⟨p, q⟩ H2 hm s2 ⟨b, z0, z1, rfl, hb, h0, h1⟩ kT hk
        obtain ⟨b0, b1⟩ := S1.bp _ hm
        refine gt2R (SqT.of hb) ⟨wipe2 _ _ _ _ _ (by decide), ?_⟩
        refine ⟨_, rfl, 0, rfl, by decide, fun H3 v3 s3 r3 => ?_⟩
        refine ⟨_, rfl, ((0 : Int) : Rat), q, 1, 20, r3, h1.up s3, bd_zero 1 (by decide), b1, by decide, fun H4 v4 s4 r4 => ⟨(show (2 : Nat) ≤ sizeLine by decide), fun T5 n5 => ?_⟩⟩
        have s5 := same_upd (o := .tup [z0, v4]) n5
        have s35 := (s3.trans s4).trans s5
        refine hk _ _ s35 ⟨T5, z0, v4, rfl, upd_same, ?_, ?_⟩
        · have e : (aff 1 0 (-1) 0 (p, q)).1 = p := by unfold aff; grind
          rw [e]
          exact h0.up s35
        · have e : (aff 1 0 (-1) 0 (p, q)).2 = ((0 : Int) : Rat) - q := by unfold aff; rw [e0]; grind
          rw [e]
          exact r4.up s5
      · intro H2 D ys2 s2 n2 h2 p2
        have S2 := S1.up s2
        have y2 : ys2.length ≤ 60 := by rw [Pd.len p2, List.length_map]; have := S2.pl; omega
        refine ⟨_, rfl, D, d, ys2, kvs, _, ms, 60, rfl, SqL.of h2, Pd.imp p2 fun _ _ z => pr_num z, y2, S2.hd, S2.hmN, (by have := S2.ml; omega), S2.nod, (by rw [List.length_map]; exact S2.keys), (fun p hp => ?_), S2.bmN (by decide), by decide, fun H3 l3 ys3 out3 s3 n3 h3 p3 i3 => ?_⟩
        · obtain ⟨p0, hp0, rfl⟩ := List.mem_map.mp hp
          have h := S2.bp p0 hp0
          have e1 : (aff 1 0 (-1) 0 p0).1 = p0.1 := by unfold aff; grind
          have e2 : (aff 1 0 (-1) 0 p0).2 = 0 - p0.2 := by unfold aff; grind
          refine ⟨?_, ?_⟩
          · rw [e1]; exact h.1.mono (by decide)
          · rw [e2]; exact ((bd_zero 1 (by decide)).sub h.2).mono (by decide)
        have S3 := S2.up s3
        have eo : out3 = out := inf_aff (by decide) (by decide) S2.isKey S2.inf i3
        refine ⟨_, rfl, out3, out, ⟨l3, ys3, rfl, h3, p3⟩, ⟨e, zs, rfl, S3.he, S3.ho⟩, fun H4 s4 => ?_⟩
        rw [decide_eq_true eo]
        have sF := ((sm.trans s2).trans s3).trans s4
        exact kk H4 (oT.trans (Off.of sF)) ((pT.up sF).mono (by omega))
end
end BF
set_option maxHeartbeats 4000000
namespace BF
open PySem PySem.Spec PyProof.Rows L2
abbrev sOrder : Stmt := top 30
theorem rg0 (n : Nat) : rgV 0 (n : Int) = (List.range n).map fun k : Nat => V.int (k : Int) := by
  unfold rgV
  rw [show ((n : Int) - 0).toNat = n by omega]
  exact List.map_congr_left fun k _ => by rw [Int.zero_add]
theorem rot_list {β : Type} {n s : Nat} (f : Nat → β) (hs : s < n) : ((List.range n).map f).drop s ++ ((List.range n).map f).take s = (List.range n).map fun k => f (rot n s k) := by
  refine List.ext_getElem (by simp; omega) fun k h1 h2 => ?_
  have hk : k < n := by simpa using h2
  rw [List.getElem_map, List.getElem_range]
  by_cases c : k < n - s
  · rw [List.getElem_append_left (by simp; exact c), List.getElem_drop, List.getElem_map, List.getElem_range]
    congr 1
    unfold rot
    rw [if_pos (by omega)]
    omega
  · rw [List.getElem_append_right (by simp; omega), List.getElem_take, List.getElem_map, List.getElem_range]
    congr 1
    unfold rot
    rw [if_neg (by omega)]
    simp
    omega
theorem turned_ord {n s : Nat} {back : Bool} (f : Nat → V) (hs : s < n) : turned s back ((List.range n).map f) = (List.range n).map fun k => f (ord n s back k) := by
  unfold turned
  rw [rot_list f hs]
  cases back with
  | false => rfl
  | true =>
    show (List.map _ _).reverse = _
    refine List.ext_getElem (by simp) fun k h1 h2 => ?_
    have hk : k < n := by simpa using h2
    rw [List.getElem_reverse, List.getElem_map, List.getElem_range, List.getElem_map, List.getElem_range]
    congr 1
    unfold ord
    simp
section
variable {P : Program} {w : World} {K : PySem.W.Frag} {mg : Str → Option Value} {base : Heap} {CX : CXT} {f : Addr} {fd : FuncData} {C CI CQ : Addr}
abbrev nOrder : List Str := ["_law_pen_here", "_law_points", "_law_moves", "_law_due", "_law_start", "_law_is_back", "_law_order", "_law_table", "_law_k"]
theorem scOrder : FnScope nOrder ["_law_pen_here", "_law_points", "_law_moves", "_law_due"] (defScope sOrder) := ⟨rfl, rfl, rfl, by decide +kernel, rfl, by decide +kernel, by decide +kernel⟩
theorem offM_prR : OffM (PrR C) := offM_pair offM_rat
theorem offL_prR : OffL (PrR C) := offL_pair offL_rat
theorem mon_prR : MonD (PrR C) := mon_pairD mon_rat
theorem filt_key {ms : List (Nat × (Rat × Rat))} {o : Nat → Nat} : ∀ (l : List Nat) (k : Nat), mvAt ((l.filter fun k => (mvAt ms (o k)).isSome).map fun k => (k, (mvAt ms (o k)).getD (0, 0))) k = if k ∈ l then mvAt ms (o k) else none
  | [], k => rfl
  | a :: l, k => by
    have ih := filt_key (ms := ms) (o := o) l k
    cases e : mvAt ms (o a) with
    | none =>
      rw [List.filter_cons_of_neg (by rw [e]; simp), ih]
      by_cases c : k = a
      · subst c
        rw [e]
        simp
      · simp [c]
    | some m =>
      rw [List.filter_cons_of_pos (by rw [e]; rfl), List.map_cons]
      by_cases c : a = k
      · subst c
        unfold mvAt
        rw [List.find?_cons_of_pos (by simp)]
        unfold mvAt at e
        simp [e]
      · have e2 : ∀ L : List (Nat × (Rat × Rat)), mvAt ((a, (mvAt ms (o a)).getD (0, 0)) :: L) k = mvAt L k := fun L => by
          conv => lhs; unfold mvAt
          rw [List.find?_cons_of_neg (by simpa using c)]
          rfl
        rw [e2, ih]
        have c' : ¬ k = a := fun z => c z.symm
        simp [c']
theorem cbE {r : List V → Hp → VK → Prop} {t : TA} {σ : L2.St} {H : Hp} {Q : VK} (h : t σ H fun vs H1 => r vs H1 Q) : tCB r t σ H Q := h
theorem ok_order (R : RK P w K mg base C CI CQ) (c : C23 P w K mg base C) (F : FnP K "_law_order_right" "_law_order_right" sOrder f fd) : FnOk P w K mg base CX0 8 f fd ["_law_pen_here", "_law_points", "_law_moves", "_law_due"] (spRight C) := by
  refine F.ok scOrder (fun vs H Q E h => ?_) (fun cdv A outer s H vs Q E hr h => ?_)
  · obtain ⟨P, c, a, d, e, k, xs, zs, kvs, ps, ms, out, rfl, _⟩ := h
    rfl
  · obtain ⟨P, cc, a, d, e, k, xs, zs, kvs, ps, ms, out, rfl, pen, hk, S, kk⟩ := h
    have r1 := hr.mono (show 1 ≤ 7 by decide)
    have r3 := hr.mono (show 3 ≤ 7 by decide)
    refine ⟨_, PSs.nox (pss_cons (ps_par (i := 4) (j := 5) (by rfl) scOrder.nd rfl rfl (by decide) rfl rfl (pa_cons (pe_cal c.draw r1 (by rfl) pass0 (pa_cons (pv 0) (pa_cons (pe_callB call_len_seq (by rfl) R.B.len PySem.boot_len (pa_cons (pv 1) pa_nil)) pa_nil))) (pa_cons (pe_cmpR op_eq (pe_cal c.draw r1 (by rfl) pass0 (pa_cons (pv 0) (pa_cons pe_int pa_nil))) pe_int (nomark _)) pa_nil)) (by rfl))
      (pss_cons (ps_set (i := 6) scOrder.nd rfl (.inr rfl) (pe_cal c.around r1 (by rfl) pass0 (pa_cons (pe_listRg rfl (by rfl) R.B.list (prg_1 (by rfl) R.B.range (pe_callB call_len_seq (by rfl) R.B.len PySem.boot_len (pa_cons (pv 1) pa_nil)))) (pa_cons (pv 4) (pa_cons (pv 5) pa_nil)))))
      (pss_cons (ps_set (i := 7) scOrder.nd rfl (.inl rfl) (pe_callTy (call_dictP rfl) (by rfl) R.B.dict (by decide +kernel) (pa_cons (pe_lc (own := [("_law_k", 8)]) (g := gName 8) (tt := tB (tDIn (tOp (rIxL K) (tVar 6) (tVar 8)) (tVar 2))) (te := tTup (tCons (tVar 8) (tCons (tDGet (tVar 2) (tOp (rIxL K) (tVar 6) (tVar 8))) tNil))) rfl scOrder.nd (pi_range1 rfl R.B.range (pa_cons (pe_callB call_len_seq (by rfl) R.B.len PySem.boot_len (pa_cons (pv 6) pa_nil)) pa_nil))
          (blkOk_by (N := nOrder) (sc := defScope sOrder) (by decide +kernel)) (fun _ _ _ _ _ => pg_name (i := 8) scOrder.nd rfl (.inl rfl)) (fun _ _ _ _ _ => pts_one (pt_cmp (pc_din (ru1 hr) (pe_ix (ixL K) (pv 6) (pv 8) (fun _ _ => rfl)) (pv 2)))) (fun _ _ _ _ _ => pe_tup (pa_cons (pv 8) (pa_cons (pe_dget (ru1 hr) (pv 2) (pe_ix (ixL K) (pv 6) (pv 8) (fun _ _ => rfl)) (fun _ _ => rfl)) pa_nil)))) pa_nil)))
      (pss_one (ps_ret (pe_cmpR (op_eqPs R r3) (pe_cal c.infer hr (by rfl) pass0 (pa_cons (pe_lc (own := [("_law_k", 8)]) (g := gName 8) (tt := tYes) (te := tOp (rIxL K) (tVar 1) (tVar 8)) rfl scOrder.nd (pi_list (pv 6)) (blkOk_by (N := nOrder) (sc := defScope sOrder) (by decide +kernel)) (fun _ _ _ _ _ => pg_name (i := 8) scOrder.nd rfl (.inl rfl)) (fun _ _ _ _ _ => pts_nil) (fun _ _ _ _ _ => pe_ix (ixL K) (pv 1) (pv 8) (fun _ _ => rfl))) (pa_cons (pv 7) pa_nil)))
        (pe_lc (own := [("_law_k", 8)]) (g := gName 8) (tt := tYes) (te := tOp (rIxL K) (tVar 3) (tVar 8)) rfl scOrder.nd (pi_list (pv 6)) (blkOk_by (N := nOrder) (sc := defScope sOrder) (by decide +kernel)) (fun _ _ _ _ _ => pg_name (i := 8) scOrder.nd rfl (.inl rfl)) (fun _ _ _ _ _ => pts_nil) (fun _ _ _ _ _ => pe_ix (ixL K) (pv 3) (pv 8) (fun _ _ => rfl))) (nomark _))))))), ?_⟩
    have pl0 := S.pl0
    have pl9 := S.pl
    have xl : xs.length = ps.length := Pd.len S.hp
    refine ⟨_, rfl, _, rfl, a, xs, rfl, .inl (SqL.of S.ha), P, cc, k, _, rfl, pen, by omega, by omega, by omega, fun H1 d1 o1 p1 h1 => ?_⟩
    refine ⟨_, rfl, P, cc, k + 1, 2, rfl, p1, by omega, by decide, by decide, fun H2 d2 o2 p2 h2 => ⟨rfl, _, _, rfl, ?_⟩⟩
    generalize decide (V.int (d2 : Int) = V.int 0) = back
    have o12 := o1.trans o2
    have S2 := S.off pen o12
    have hs : d1 < ps.length := by omega
    refine ⟨_, rfl, a, xs, rfl, .inl (SqL.of S2.ha), _, rfl, RgOk.of_le (by decide) (by omega) (by decide) (by omega), fun L3 n3 => ?_⟩
    rw [xl, rg0]
    have s3 := same_upd (o := .lst ((List.range ps.length).map fun k : Nat => V.int (k : Int))) n3
    have h3 := upd_same (H := H2) (a := L3) (o := .lst ((List.range ps.length).map fun k : Nat => V.int (k : Int)))
    generalize upd H2 L3 (.lst ((List.range ps.length).map fun k : Nat => V.int (k : Int))) = H3 at s3 h3 ⊢
    refine ⟨_, rfl, _, rfl, L3, _, d1, back, rfl, h3, by simp; omega, by simp; omega, fun H4 L4 s4 h4 => ?_⟩
    rw [turned_ord _ hs] at h4
    have s34 := s3.trans s4
    have S4 := S2.up s34
    have p4 := p2.up s34
    have hord : ∀ k, k < ps.length → ord ps.length d1 back k < ps.length := fun k hk => ord_lt hs hk
    generalize ho : ord ps.length d1 back = o at h4 hord
    have z4 : ∀ i, i < ps.length → ((List.range ps.length).map fun k => V.int (o k : Int))[i]? = some (V.int (o i : Int)) := fun i hi => by
      rw [List.getElem?_map, List.getElem?_range hi]
      rfl
    have l4 : ((List.range ps.length).map fun k => V.int (o k : Int)).length = ps.length := by simp
    refine gnm ?_
    dsimp only
    refine asgE ?_
    refine cbE (consE ?_)
    refine lcE ?_
    refine ⟨_, rfl, L4, _, rfl, .inl (SqL.of h4), _, rfl, by rw [l4]; omega, by rw [l4]; omega, ?_⟩
    rw [l4, Int.toNat_natCast]
    refine lcRF (n := ps.length) (G := KvD (PrR C)) (fun k => (mvAt ms (o k)).isSome) (fun k => (k, (mvAt ms (o k)).getD (0, 0))) (mon_kvD mon_prR) (offL_kvD offL_prR) (by omega) ?_ ?_
    · intro i H5 hi s5 kT kF hT hF
      have z0 : (0 : Int) + (i : Int) = (i : Int) := Int.zero_add _
      rw [z0]
      refine gnm ⟨wipe1 _ _ _, ?_⟩
      have S5 := S4.up s5
      have dic : DicD (PrR C) H5 d ms := ⟨kvs, .inl S5.hd, S5.hm⟩
      obtain ⟨ov, go, hov⟩ := dic.get (o i)
      refine ⟨_, rfl, _, rfl, L4, _, i, _, rfl, rfl, SqL.of (s5 _ _ h4), atI_nat (z4 i hi), _, rfl, d, ov, rfl, go, _, rfl, ?_⟩
      rcases hov with ⟨rfl, mvn⟩ | ⟨v, m, rfl, mvs, hv⟩
      · exact iteF (hF (by rw [mvn]; rfl) H5 (Same.refl _))
      · refine iteT ?_
        refine ⟨_, rfl, _, rfl, _, rfl, _, rfl, L4, _, i, _, rfl, rfl, SqL.of (s5 _ _ h4), atI_nat (z4 i hi), d, v, rfl, go, (show (2 : Nat) ≤ sizeLine by decide), fun T6 n6 => ?_⟩
        have s6 := same_upd (o := .tup [V.int (i : Int), v]) n6
        refine hT (by rw [mvs]; rfl) _ _ s6 ⟨T6, v, rfl, upd_same, ?_⟩
        rw [mvs]
        exact mon_prR _ _ _ _ s6 hv
    intro H5 L5 ys5 s5 n5 h5 p5
    have S5 := S4.up s5
    have nd5 : ((((List.range ps.length).filter fun k => (mvAt ms (o k)).isSome).map fun k => (k, (mvAt ms (o k)).getD (0, 0))).map (·.1)).Nodup := by
      rw [List.map_map]
      have e : ((fun x : Nat × (Rat × Rat) => x.1) ∘ fun k => (k, (mvAt ms (o k)).getD (0, 0))) = id := rfl
      rw [e, List.map_id]
      exact List.nodup_range.filter _
    obtain ⟨pa6, kv6, e6, pA6, pB6⟩ := kv_dict (K := K) p5
    subst e6
    refine ⟨L5, pa6, kv6, rfl, SqL.of h5, pA6, fun d6 n6 => ?_⟩
    rw [merge_nil pB6 nd5]
    have s6 := same_upd (o := .dK kv6) n6
    have h6 := upd_same (H := H5) (a := d6) (o := .dK kv6)
    generalize upd H5 d6 (.dK kv6) = H6 at s6 h6 ⊢
    have p6 := Pd.imp pB6 fun _ _ z => mon_mvD mon_prR s6 z
    have S6 := S5.up s6
    have h46 := s6 _ _ (s5 _ _ h4)
    generalize hms : (((List.range ps.length).filter fun k => (mvAt ms (o k)).isSome).map fun k => (k, (mvAt ms (o k)).getD (0, 0))) = ms6 at p6 nd5
    have mv6 : ∀ k, mvAt ms6 k = if k ∈ List.range ps.length then mvAt ms (o k) else none := fun k => by rw [← hms]; exact filt_key _ k
    have np : ((List.range ps.length).map fun k => V.int (o k : Int)) = (((List.range ps.length).map o).map fun n : Nat => V.int (n : Int)) := by rw [List.map_map]; rfl
    rw [np] at h46
    have lp : (((List.range ps.length).map o).map fun n : Nat => V.int (n : Int)).length ≤ 100000 := by simp; omega
    have mo : ∀ z ∈ (List.range ps.length).map o, z < ps.length := fun z hz => by
      obtain ⟨k, hk, rfl⟩ := List.mem_map.mp hz
      exact hord k (List.mem_range.mp hk)
    dsimp only
    refine retE ?_
    refine opE ?_
    refine callE (consE ?_)
    refine lcE ?_
    refine ⟨_, rfl, L4, rfl, ⟨_, SqL.of h46⟩, ?_⟩
    refine lcM (K := K) (F := NatD) (G := PrR C) (fun j => ps[j]?.getD (0, 0)) (SqL.of h46) (nat_pd _) mon_nat mon_prR offL_prR lp ?_ ?_
    · rintro x z H7 hm s7 hx kT hkT
      obtain rfl : x = V.int (z : Int) := hx
      refine gnm ⟨wipe1 _ _ _, ?_⟩
      have S7 := S6.up s7
      have gz : ps[z]? = some (ps[z]?.getD (0, 0)) := by rw [List.getElem?_eq_getElem (mo z hm)]; rfl
      obtain ⟨v, ev, fv⟩ := Pd.getR S7.hp gz
      exact ⟨_, rfl, _, rfl, a, xs, z, v, rfl, rfl, SqL.of S7.ha, atI_nat ev, hkT H7 v (Same.refl _) fv⟩
    intro H7 L7 ys7 s7 n7 h7 p7
    have S7 := S6.up s7
    have y7 : ys7.length ≤ 60 := by
      have := Pd.len p7
      simp at this
      omega
    have k6 : ∀ m ∈ ms6, m.1 < ps.length := fun m hm => by
      rw [← hms] at hm
      obtain ⟨k, hk, rfl⟩ := List.mem_map.mp hm
      exact List.mem_range.mp (List.mem_filter.mp hk).1
    have l6 : ms6.length ≤ 60 := by
      rw [← hms, List.length_map]
      have := List.length_filter_le (fun k => (mvAt ms (o k)).isSome) (List.range ps.length)
      rw [List.length_range] at this
      omega
    have b6 : ∀ m ∈ ms6, BdP 20 m.2 := fun m hm => by
      rw [← hms] at hm
      obtain ⟨k, hk, rfl⟩ := List.mem_map.mp hm
      have hk2 := (List.mem_filter.mp hk).2
      cases e : mvAt ms (o k) with
      | none => rw [e] at hk2; cases hk2
      | some m => exact (S.bm (o k, m) (mv_mem e) : BdP 20 m)
    refine ⟨_, rfl, L7, d6, ys7, kv6, _, ms6, 20, rfl, SqL.of h7, Pd.imp p7 fun _ _ z => pr_num z, y7, s7 _ _ h6, Pd.imp p6 fun _ _ z => ⟨z.1, pr_num (mon_prR _ _ _ _ s7 z.2)⟩, l6, nd5, (by rw [List.length_map, List.length_map, List.length_range]; exact k6), (fun p hp => ?_), b6, by decide, fun H8 L8 ys8 out8 s8 n8 h8 p8' i8 => ?_⟩
    · obtain ⟨z, hz, rfl⟩ := List.mem_map.mp hp
      have gz : ps[z]? = some (ps[z]?.getD (0, 0)) := by rw [List.getElem?_eq_getElem (mo z hz)]; rfl
      exact S.bp _ (List.mem_of_getElem? gz)
    have S8 := S7.up s8
    have h48 := s8 _ _ (s7 _ _ h46)
    dsimp only
    refine lcE ?_
    refine ⟨_, rfl, L4, rfl, ⟨_, SqL.of h48⟩, ?_⟩
    refine lcM (K := K) (F := NatD) (G := PrR C) (fun j => out[j]?.getD (0, 0)) (SqL.of h48) (nat_pd _) mon_nat mon_prR offL_prR lp ?_ ?_
    · rintro x z H9 hm s9 hx kT hkT
      obtain rfl : x = V.int (z : Int) := hx
      refine gnm ⟨wipe1 _ _ _, ?_⟩
      have S9 := S8.up s9
      have gz : out[z]? = some (out[z]?.getD (0, 0)) := by rw [List.getElem?_eq_getElem (by rw [S.inf.len]; exact mo z hm)]; rfl
      obtain ⟨v, ev, fv⟩ := Pd.getR S9.ho gz
      exact ⟨_, rfl, _, rfl, e, zs, z, v, rfl, rfl, SqL.of S9.he, atI_nat ev, hkT H9 v (Same.refl _) fv⟩
    intro H9 L9 ys9 s9 n9 h9 p9
    refine ⟨out8, _, ⟨L8, ys8, rfl, s9 _ _ h8, Pd.imp p8' fun _ _ z => mon_prR _ _ _ _ s9 z⟩, ⟨L9, ys9, rfl, h9, p9⟩, fun HF sF => ?_⟩
    have ol := S.inf.len
    have eo : out8 = ((List.range ps.length).map o).map fun j => out[j]?.getD (0, 0) := by
      refine inf_ord (s := d1) (back := back) hs S.isKey (by simp) (fun k hk => ?_) (fun k hk => ?_) (fun k h => ?_) (fun h => ?_) (by simp) (fun k hk => ?_) S.inf i8
      · rw [ho, List.getElem?_map, List.getElem?_map, List.getElem?_range hk]
        have gz : ps[o k]? = some (ps[o k]?.getD (0, 0)) := by rw [List.getElem?_eq_getElem (hord k hk)]; rfl
        exact gz.symm
      · rw [ho, mv6, if_pos (List.mem_range.mpr hk)]
      · obtain ⟨m, hm⟩ := h
        rw [mv6] at hm
        split at hm
        · rename_i h; exact List.mem_range.mp h
        · cases hm
      · rw [← hms, h]
        have : ∀ l : List Nat, (l.filter fun k => (mvAt ([] : List (Nat × (Rat × Rat))) (o k)).isSome) = [] := fun l => List.filter_eq_nil_iff.mpr fun a _ z => by cases z
        rw [this]
        rfl
      · rw [ho, List.getElem?_map, List.getElem?_map, List.getElem?_range hk]
        have gz : out[o k]? = some (out[o k]?.getD (0, 0)) := by rw [List.getElem?_eq_getElem (by rw [ol]; exact hord k hk)]; rfl
        exact gz.symm
    rw [decide_eq_true eo]
    have sA := ((((((s34.trans s5).trans s6).trans s7).trans s8).trans s9).trans sF)
    exact kk HF (o12.trans (Off.of sA)) ((p2.up sA).mono (by omega))
end
end BF
set_option maxHeartbeats 4000000
namespace BF
open PySem PySem.Spec PyProof.Rows L2
abbrev sMoves : Stmt := top 31
section
variable {P : Program} {w : World} {K : PySem.W.Frag} {mg : Str → Option Value} {base : Heap} {CX : CXT} {f : Addr} {fd : FuncData} {C CI CQ : Addr}
abbrev nMoves : List Str := ["_law_pen_here", "_law_points", "_law_moves", "_law_due", "_law_often", "_law_table", "_law_k", "_law_x", "_law_y"]
theorem scMoves : FnScope nMoves ["_law_pen_here", "_law_points", "_law_moves", "_law_due"] (defScope sMoves) := ⟨rfl, rfl, rfl, by decide +kernel, rfl, by decide +kernel, by decide +kernel⟩
theorem lock_ms {α : Type} {F : Den α} {H : Hp} {d : Addr} {od : Obj} {kvs : List (Key × V)} {ms : List (Nat × α)} (o : OffM F) (hd : H d = some (.dK kvs)) (h : Paired (MvD F H) kvs ms) : Paired (MvD F (upd H d (.frz od (.dK kvs)))) kvs ms := Pd.imp h fun _ _ z => ⟨z.1, o _ _ _ _ _ _ hd nit_dk z.2⟩
theorem pd_off {α : Type} {F : Den α} {H : Hp} {d : Addr} {u o : HO} {xs : List V} {zs : List α} (h : OffM F) (hd : H d = some u) (n : NotIT u) (p : Paired (F H) xs zs) : Paired (F (upd H d o)) xs zs := Pd.imp p fun _ _ z => h _ _ _ _ _ _ hd n z
theorem keys_map {ms : List (Nat × (Rat × Rat))} (g : Rat × Rat → Rat × Rat) : (ms.map fun m => (m.1, g m.2)).map (·.1) = ms.map (·.1) := by rw [List.map_map]; rfl
theorem sclAff (t : Rat) : aff t ((0 : Int) : Rat) t ((0 : Int) : Rat) = scl t := rfl
theorem ok_moves (R : RK P w K mg base C CI CQ) (c : C23 P w K mg base C) (F : FnP K "_law_moves_right" "_law_moves_right" sMoves f fd) : FnOk P w K mg base CX0 8 f fd ["_law_pen_here", "_law_points", "_law_moves", "_law_due"] (spRight C) := by
  refine F.ok scMoves (fun vs H Q E h => ?_) (fun cdv A outer s H vs Q E hr h => ?_)
  · obtain ⟨P, c, a, d, e, k, xs, zs, kvs, ps, ms, out, rfl, _⟩ := h
    rfl
  · obtain ⟨P, cc, a, d, e, k, xs, zs, kvs, ps, ms, out, rfl, pen, hk, S, kk⟩ := h
    have r1 := hr.mono (show 1 ≤ 7 by decide)
    have r3 := hr.mono (show 3 ≤ 7 by decide)
    have r5 := hr.mono (show 5 ≤ 7 by decide)
    refine ⟨_, PSs.nox (pss_cons (ps_set (i := 4) scMoves.nd rfl (.inr rfl) (pe_rt2 R r3 (by rfl) R.mgC (pa_cons (pe_op op_sub (pe_cal c.draw r1 (by rfl) pass0 (pa_cons (pv 0) (pa_cons pe_int pa_nil))) pe_int) (pa_cons (pe_op op_add pe_int (pe_cal c.draw r1 (by rfl) pass0 (pa_cons (pv 0) (pa_cons pe_int pa_nil)))) pa_nil))))
      (pss_cons (ps_set (i := 5) scMoves.nd rfl (.inl rfl) (pe_callTy (call_dictP rfl) (by rfl) R.B.dict (by decide +kernel) (pa_cons (pe_lock (pe_lc (own := [("_law_k", 6)]) (g := gName 6) (tt := tYes) (te := tTup (tCons (tVar 6) (tCons (tOp (rIxL K) (tCall (spScaled C) [] E0 (tCons (tLst (tCons (tDGet (tVar 2) (tVar 6)) tNil)) (tCons (tVar 4) (tCons (tCB (rMk1 C) (tCons (tC (.int 0)) tNil)) tNil)))) (tC (.int 0))) tNil))) rfl scMoves.nd (pi_keys (pv 2))
          (blkOk_by (N := nMoves) (sc := defScope sMoves) (by decide +kernel)) (fun _ _ _ _ _ => pg_name (i := 6) scMoves.nd rfl (.inl rfl)) (fun _ _ _ _ _ => pts_nil) (fun _ _ _ _ _ => pe_tup (pa_cons (pv 6) (pa_cons (pe_ix (ixL K) (pe_cal c.scaled r5 (by rfl) pass0 (pa_cons (pe_lst (pa_cons (pe_dget (ru1 hr) (pv 2) (pv 6) (fun _ _ => rfl)) pa_nil)) (pa_cons (pv 4) (pa_cons (pe_rt1 R r3 (by rfl) R.mgC (pa_cons pe_int pa_nil)) pa_nil)))) pe_int (fun _ _ => rfl)) pa_nil))))) pa_nil)))
      (pss_cons (ps_if (pt_cmpR (op_nePs R r3) (pe_cal c.infer hr (by rfl) pass0 (pa_cons (pv 1) (pa_cons (pv 5) pa_nil))) (pe_cal c.scaled r5 (by rfl) pass0 (pa_cons (pv 3) (pa_cons (pv 4) (pa_cons (pe_rt1 R r3 (by rfl) R.mgC (pa_cons pe_int pa_nil)) pa_nil)))) (nomark _)) (pss_one (ps_ret pe_bl)) pss_nil)
      (pss_cons (ps_set (i := 5) scMoves.nd rfl (.inl rfl) (pe_callTy (call_dictP rfl) (by rfl) R.B.dict (by decide +kernel) (pa_cons (pe_lock (pe_lc (own := [("_law_k", 6)]) (g := gName 6) (tt := tYes) (te := tTup (tCons (tVar 6) (tCons (tTup (tCons (tOp (rIxT K) (tDGet (tVar 2) (tVar 6)) (tC (.int 1))) (tCons (tOp (rIxT K) (tDGet (tVar 2) (tVar 6)) (tC (.int 0))) tNil))) tNil))) rfl scMoves.nd (pi_keys (pv 2))
          (blkOk_by (N := nMoves) (sc := defScope sMoves) (by decide +kernel)) (fun _ _ _ _ _ => pg_name (i := 6) scMoves.nd rfl (.inl rfl)) (fun _ _ _ _ _ => pts_nil) (fun _ _ _ _ _ => pe_tup (pa_cons (pv 6) (pa_cons (pe_tup (pa_cons (pe_ix (ixT K) (pe_dget (ru1 hr) (pv 2) (pv 6) (fun _ _ => rfl)) pe_int (fun _ _ => rfl)) (pa_cons (pe_ix (ixT K) (pe_dget (ru1 hr) (pv 2) (pv 6) (fun _ _ => rfl)) pe_int (fun _ _ => rfl)) pa_nil))) pa_nil))))) pa_nil)))
      (pss_one (ps_ret (pe_cmpR (op_eqPs R r3) (pe_cal c.infer hr (by rfl) pass0 (pa_cons (pe_lc (own := [("_law_x", 7), ("_law_y", 8)]) (g := gt2 K 7 8) (tt := tYes) rfl scMoves.nd (pi_list (pv 1)) (blkOk_by (N := nMoves) (sc := defScope sMoves) (by decide +kernel)) (fun _ _ _ _ _ => pg_t2 K (by rfl) (pg_name (i := 7) scMoves.nd rfl (.inl rfl)) (pg_name (i := 8) scMoves.nd rfl (.inl rfl))) (fun _ _ _ _ _ => pts_nil) (fun _ _ _ _ _ => pe_tup (pa_cons (pv 8) (pa_cons (pv 7) pa_nil)))) (pa_cons (pv 5) pa_nil)))
        (pe_lc (own := [("_law_x", 7), ("_law_y", 8)]) (g := gt2 K 7 8) (tt := tYes) rfl scMoves.nd (pi_list (pv 3)) (blkOk_by (N := nMoves) (sc := defScope sMoves) (by decide +kernel)) (fun _ _ _ _ _ => pg_t2 K (by rfl) (pg_name (i := 7) scMoves.nd rfl (.inl rfl)) (pg_name (i := 8) scMoves.nd rfl (.inl rfl))) (fun _ _ _ _ _ => pts_nil) (fun _ _ _ _ _ => pe_tup (pa_cons (pv 8) (pa_cons (pv 7) pa_nil)))) (nomark _)))))))), ?_⟩
    have pl0 := S.pl0
    have pl9 := S.pl
    have ml9 := S.ml
    have xl : xs.length = ps.length := Pd.len S.hp
    have zl : zs.length = ps.length := (Pd.len S.ho).trans S.inf.len
    refine ⟨_, rfl, P, cc, k, 41, rfl, pen, by omega, by decide, by decide, fun H1 d1 o1 p1 h1 => ⟨_, _, rfl, rfl, ?_⟩⟩
    refine ⟨_, rfl, P, cc, k + 1, 7, rfl, p1, by omega, by decide, by decide, fun H2 d2 o2 p2 h2 => ⟨_, _, rfl, rfl, ?_⟩⟩
    refine ⟨_, _, rfl, (by omega), small8 (by omega), small8 (by omega), fun H3 v3 s3 t3 => ?_⟩
    have oH3 : Off P H H3 := (o1.trans o2).trans (Off.of s3)
    have S3 := S.off pen oH3
    have p3 := p2.up s3
    have bt : Bd 7 (Rat.divInt ((d1 : Int) - 20) (1 + d2)) := bd_lit (by omega) (by omega) (by omega)
    generalize Rat.divInt ((d1 : Int) - 20) (1 + d2) = t at t3 bt
    refine gnm ?_
    dsimp only
    refine asgE ?_
    refine cbE (consE ?_)
    refine ⟨d, _, S3.hd, trivial, fun od => ?_⟩
    have lock := upd_same (H := H3) (a := d) (o := .frz od (.dK kvs))
    have msL := lock_ms (od := od) offM_prR S3.hd S3.hm
    have t3L : RatV C (upd H3 d (.frz od (.dK kvs))) v3 t := offM_rat _ _ _ _ _ _ S3.hd nit_dk t3
    have lockS : ∀ {H'}, Same (upd H3 d (.frz od (.dK kvs))) H' → Same H3 (upd H' d (.dK kvs)) := fun s => lock_same S3.hd s
    generalize upd H3 d (.frz od (.dK kvs)) = L3 at lock msL lockS t3L ⊢
    refine lcE ?_
    refine ⟨_, rfl, d, od, rfl, .inl ⟨kvs, lock, ?_⟩⟩
    refine lcK (F := PrR C) (G := KvD (PrR C)) (fun m => (m.1, scl t m.2)) lock msL (mon_kvD mon_prR) (offL_kvD offL_prR) (by omega) ?_ ?_
    · intro m H4 hm s4 kT hkT
      refine gnm ⟨wipe1 _ _ _, ?_⟩
      have dic : DicD (PrR C) H4 d ms := ⟨kvs, .inr ⟨od, s4 _ _ lock⟩, Pd.imp msL fun _ _ z => mon_mvD mon_prR s4 z⟩
      obtain ⟨j, hj, ej⟩ := List.mem_iff_getElem.mp hm
      obtain ⟨v, gv, hv⟩ := dic.get1 (mv_of_get S.nod (show ms[j]? = some m by rw [List.getElem?_eq_getElem hj, ej]))
      refine ⟨_, rfl, _, rfl, _, rfl, d, v, rfl, gv, (show (1 : Nat) ≤ sizeLine by decide), fun L5 n5 => ?_⟩
      have s5 := same_upd (o := .lst [v]) n5
      have h5 := upd_same (H := H4) (a := L5) (o := .lst [v])
      generalize upd H4 L5 (.lst [v]) = H5 at s5 h5 ⊢
      refine ⟨_, rfl, 0, rfl, by decide, fun H6 v6 s6 t6 => ?_⟩
      have s46 := s5.trans s6
      refine ⟨L5, [v], [m.2], v3, v6, t, _, 20, 7, rfl, s6 _ _ h5, .cons (mon_prR _ _ _ _ s46 hv) .nil, (show (1 : Nat) ≤ 1000 by decide), (t3L.up s4).up s46, t6, (fun p hp => by rw [List.mem_singleton.mp hp]; exact S.bm m hm), bt, bd_zero 7 (by decide), by decide, fun H7 L7 ys7 s7 n7 h7 p7 => ?_⟩
      rw [sclAff] at p7
      match ys7, p7 with
      | [w7], .cons f7 .nil =>
        refine ⟨L7, _, 0, w7, rfl, rfl, SqL.of h7, rfl, (show (2 : Nat) ≤ sizeLine by decide), fun T8 n8 => ?_⟩
        have s8 := same_upd (o := .tup [V.int (m.1 : Int), w7]) n8
        exact hkT _ _ ((s46.trans s7).trans s8) ⟨T8, w7, rfl, upd_same, mon_prR _ _ _ _ s8 f7⟩
    intro H4 L4 ys4 s4 n4 h4 p4
    refine ⟨s4 _ _ lock, ?_⟩
    have s34 := lockS s4
    have L4d : L4 ≠ d := fun z => by rw [z, lock] at n4; cases n4
    have h4' : upd H4 d (.dK kvs) L4 = some (.lst ys4) := by rw [upd_ne L4d]; exact h4
    have p4' := pd_off (o := .dK kvs) (offM_kvD offM_prR) (s4 _ _ lock) nit_frz p4
    generalize upd H4 d (.dK kvs) = H5 at s34 h4' p4' ⊢
    have S5 := S3.up s34
    have nd5 : ((ms.map fun m => (m.1, scl t m.2)).map (·.1)).Nodup := by rw [keys_map]; exact S.nod
    obtain ⟨pa6, kv6, e6, pA6, pB6⟩ := kv_dict (K := K) p4'
    subst e6
    refine ⟨L4, pa6, kv6, rfl, SqL.of h4', pA6, fun d6 n6 => ?_⟩
    rw [merge_nil pB6 nd5]
    have s6 := same_upd (o := .dK kv6) n6
    have h6 := upd_same (H := H5) (a := d6) (o := .dK kv6)
    generalize upd H5 d6 (.dK kv6) = H6 at s6 h6 ⊢
    have p6 := Pd.imp pB6 fun _ _ z => mon_mvD mon_prR s6 z
    have S6 := S5.up s6
    have t6 := (t3.up s34).up s6
    have bsc : ∀ {n : Nat} {p : Rat × Rat}, BdP n p → BdP (n + 15) (scl t p) := fun h => ⟨((h.1.mul bt).add (bd_zero 7 (by decide))).mono (by omega), ((h.2.mul bt).add (bd_zero 7 (by decide))).mono (by omega)⟩
    refine ⟨_, rfl, _, rfl, a, d6, xs, kv6, ps, _, 40, rfl, SqL.of S6.ha, Pd.imp S6.hp fun _ _ z => pr_num z, by omega, h6, Pd.imp p6 fun _ _ z => ⟨z.1, pr_num z.2⟩, (by rw [List.length_map]; omega), nd5, (fun m hm => ?_), (fun p hp => ⟨(S.bp p hp).1.mono (by decide), (S.bp p hp).2.mono (by decide)⟩), (fun m hm => ?_), by decide, fun H7 L7 ys7 out7 s7 n7 h7 p7 i7 => ?_⟩
    · obtain ⟨m0, h0, rfl⟩ := List.mem_map.mp hm
      exact S.keys m0 h0
    · obtain ⟨m0, h0, rfl⟩ := List.mem_map.mp hm
      have := bsc (S.bm m0 h0)
      exact ⟨this.1.mono (by decide), this.2.mono (by decide)⟩
    have S7 := S6.up s7
    refine ⟨_, rfl, _, rfl, 0, rfl, by decide, fun H8 v8 s8 t8 => ?_⟩
    have S8 := S7.up s8
    refine ⟨e, zs, out, v3, v8, t, _, 144, 7, rfl, S8.he, S8.ho, by omega, (t6.up s7).up s8, t8, S.bo, bt, bd_zero 7 (by decide), by decide, fun H9 L9 ys9 s9 n9 h9 p9 => ?_⟩
    rw [sclAff] at p9
    have s89 := s8.trans s9
    have eo : out7 = out.map (scl t) := inf_scl S.isKey S.inf i7
    refine ⟨out7, _, ⟨L7, ys7, rfl, s89 _ _ h7, Pd.imp p7 fun _ _ z => mon_prR _ _ _ _ s89 z⟩, ⟨L9, ys9, rfl, h9, p9⟩, fun HA sA => ⟨_, rfl, ?_⟩⟩
    rw [decide_eq_true eo]
    refine iteF ?_
    have sR := ((((s34.trans s6).trans s7).trans s8).trans s9).trans sA
    have SA := S3.up sR
    have pA := p3.up sR
    have oA := oH3.trans (Off.of sR)
    clear p9 p7 p6 pB6 pA6 p4' p4 sR
    refine nextE ?_
    dsimp only
    refine asgE ?_
    refine cbE (consE ?_)
    refine ⟨d, _, SA.hd, trivial, fun od => ?_⟩
    have lock := upd_same (H := HA) (a := d) (o := .frz od (.dK kvs))
    have msL := lock_ms (od := od) offM_prR SA.hd SA.hm
    have lockS : ∀ {H'}, Same (upd HA d (.frz od (.dK kvs))) H' → Same HA (upd H' d (.dK kvs)) := fun s => lock_same SA.hd s
    generalize upd HA d (.frz od (.dK kvs)) = LA at lock msL lockS ⊢
    refine lcE ?_
    refine ⟨_, rfl, d, od, rfl, .inl ⟨kvs, lock, ?_⟩⟩
    refine lcK (F := PrR C) (G := KvD (PrR C)) (fun m => (m.1, swp m.2)) lock msL (mon_kvD mon_prR) (offL_kvD offL_prR) (by omega) ?_ ?_
    · intro m H4 hm s4 kT hkT
      refine gnm ⟨wipe1 _ _ _, ?_⟩
      have dic : DicD (PrR C) H4 d ms := ⟨kvs, .inr ⟨od, s4 _ _ lock⟩, Pd.imp msL fun _ _ z => mon_mvD mon_prR s4 z⟩
      obtain ⟨j, hj, ej⟩ := List.mem_iff_getElem.mp hm
      obtain ⟨v, gv, b, x, y, rfl, hb, hx, hy⟩ := dic.get1 (mv_of_get S.nod (show ms[j]? = some m by rw [List.getElem?_eq_getElem hj, ej]))
      refine ⟨_, rfl, _, rfl, _, rfl, d, _, rfl, gv, b, _, 1, y, rfl, rfl, SqT.of hb, rfl, _, rfl, _, rfl, d, _, rfl, gv, b, _, 0, x, rfl, rfl, SqT.of hb, rfl, (show (2 : Nat) ≤ sizeLine by decide), fun T5 n5 => ?_⟩
      have s5 := same_upd (o := .tup [y, x]) n5
      have h5 := upd_same (H := H4) (a := T5) (o := .tup [y, x])
      generalize upd H4 T5 (.tup [y, x]) = H5 at s5 h5 ⊢
      refine ⟨(show (2 : Nat) ≤ sizeLine by decide), fun T8 n8 => ?_⟩
      have s8 := same_upd (o := .tup [V.int (m.1 : Int), .ref T5]) n8
      exact hkT _ _ (s5.trans s8) ⟨T8, .ref T5, rfl, upd_same, T5, y, x, rfl, s8 _ _ h5, (hy.up s5).up s8, (hx.up s5).up s8⟩
    intro H4 L4 ys4 s4 n4 h4 p4
    refine ⟨s4 _ _ lock, ?_⟩
    have s34 := lockS s4
    have L4d : L4 ≠ d := fun z => by rw [z, lock] at n4; cases n4
    have h4' : upd H4 d (.dK kvs) L4 = some (.lst ys4) := by rw [upd_ne L4d]; exact h4
    have p4' := pd_off (o := .dK kvs) (offM_kvD offM_prR) (s4 _ _ lock) nit_frz p4
    generalize upd H4 d (.dK kvs) = H5 at s34 h4' p4' ⊢
    have S5 := SA.up s34
    have nd5 : ((ms.map fun m => (m.1, swp m.2)).map (·.1)).Nodup := by rw [keys_map]; exact S.nod
    obtain ⟨pa6, kv6, e6, pA6, pB6⟩ := kv_dict (K := K) p4'
    subst e6
    refine ⟨L4, pa6, kv6, rfl, SqL.of h4', pA6, fun d6 n6 => ?_⟩
    rw [merge_nil pB6 nd5]
    have s6 := same_upd (o := .dK kv6) n6
    have h6 := upd_same (H := H5) (a := d6) (o := .dK kv6)
    generalize upd H5 d6 (.dK kv6) = H6 at s6 h6 ⊢
    have p6 := Pd.imp pB6 fun _ _ z => mon_mvD mon_prR s6 z
    have S6 := S5.up s6
    dsimp only
    refine retE ?_
    refine opE ?_
    refine callE (consE ?_)
    refine lcE ?_
    refine ⟨_, rfl, a, rfl, ⟨_, SqL.of S6.ha⟩, ?_⟩
    refine lcM (K := K) (F := PrR C) (G := PrR C) swp (SqL.of S6.ha) S6.hp mon_prR mon_prR offL_prR (by omega) ?_ ?_
    · rintro x ⟨p, q⟩ H7 hm s7 ⟨b, u, v, rfl, hb, hu, hv⟩ kT hkT
      refine gt2R (SqT.of hb) ⟨wipe2 _ _ _ _ _ (by decide), ?_⟩
      refine ⟨_, rfl, _, rfl, (show (2 : Nat) ≤ sizeLine by decide), fun T8 n8 => ?_⟩
      have s8 := same_upd (o := .tup [v, u]) n8
      exact hkT _ _ s8 ⟨T8, v, u, rfl, upd_same, hv.up s8, hu.up s8⟩
    intro H7 L7 ys7 s7 n7 h7 p7
    have S7 := S6.up s7
    have y7 : ys7.length ≤ 60 := by rw [Pd.len p7, List.length_map]; omega
    refine ⟨_, rfl, L7, d6, ys7, kv6, _, _, 20, rfl, SqL.of h7, Pd.imp p7 fun _ _ z => pr_num z, y7, s7 _ _ h6, Pd.imp p6 fun _ _ z => ⟨z.1, pr_num (mon_prR _ _ _ _ s7 z.2)⟩, (by rw [List.length_map]; omega), nd5, (fun m hm => ?_), (fun p hp => ?_), (fun m hm => ?_), by decide, fun H8 L8 ys8 out8 s8 n8 h8 p8' i8 => ?_⟩
    · obtain ⟨m0, h0, rfl⟩ := List.mem_map.mp hm
      rw [List.length_map]
      exact S.keys m0 h0
    · obtain ⟨p0, h0, rfl⟩ := List.mem_map.mp hp
      exact ⟨(S.bp p0 h0).2, (S.bp p0 h0).1⟩
    · obtain ⟨m0, h0, rfl⟩ := List.mem_map.mp hm
      exact ⟨(S.bm m0 h0).2, (S.bm m0 h0).1⟩
    have S8 := S7.up s8
    dsimp only
    refine lcE ?_
    refine ⟨_, rfl, e, rfl, ⟨_, SqL.of S8.he⟩, ?_⟩
    refine lcM (K := K) (F := PrR C) (G := PrR C) swp (SqL.of S8.he) S8.ho mon_prR mon_prR offL_prR (by omega) ?_ ?_
    · rintro x ⟨p, q⟩ H9 hm s9 ⟨b, u, v, rfl, hb, hu, hv⟩ kT hkT
      refine gt2R (SqT.of hb) ⟨wipe2 _ _ _ _ _ (by decide), ?_⟩
      refine ⟨_, rfl, _, rfl, (show (2 : Nat) ≤ sizeLine by decide), fun T8 n8 => ?_⟩
      have s8 := same_upd (o := .tup [v, u]) n8
      exact hkT _ _ s8 ⟨T8, v, u, rfl, upd_same, hv.up s8, hu.up s8⟩
    intro H9 L9 ys9 s9 n9 h9 p9
    have eo : out8 = out.map swp := inf_swp S.isKey S.inf i8
    refine ⟨out8, _, ⟨L8, ys8, rfl, s9 _ _ h8, Pd.imp p8' fun _ _ z => mon_prR _ _ _ _ s9 z⟩, ⟨L9, ys9, rfl, h9, p9⟩, fun HF sF => ?_⟩
    rw [decide_eq_true eo]
    have sG := ((((s34.trans s6).trans s7).trans s8).trans s9).trans sF
    exact kk HF (oA.trans (Off.of sG)) ((pA.up sG).mono (by omega))
end
end BF
set_option maxHeartbeats 4000000
namespace BF
open PySem PySem.Spec PyProof.Rows L2
abbrev sLaw : Stmt := top 32
abbrev nLaw : List Str := ["_law_script", "_law_pen_here", "_law_turn", "_law_many", "_law_points", "_law_every", "_law_moves", "_law_due", "_law_x", "_law_y", "_law_k"]
section
variable {P : Program} {w : World} {K : PySem.W.Frag} {mg : Str → Option Value} {base : Heap} {CX : CXT} {f : Addr} {fd : FuncData} {C CI CQ : Addr}
theorem scLaw : FnScope nLaw ["_law_script"] (defScope sLaw) := ⟨rfl, rfl, rfl, by decide +kernel, rfl, by decide +kernel, by decide +kernel⟩
def spLaw (K : PySem.W.Frag) : Sp := fun vs H Q _ => ∃ (a : Addr) (ns : List Int), vs = [.ref a] ∧ SqL K H a (ns.map V.int) ∧ ∀ H', Q (.bl true) H'
structure L23 (P : Program) (w : World) (K : PySem.W.Frag) (mg : Str → Option Value) (base : Heap) (C : Addr) : Prop where
  pen : Cal P w K mg base CX0 1 "_law_pen" ["_law_script"] (spPen K)
  draw : DrawC P w K mg base
  pairs : Cal P w K mg base CX0 3 "_law_pairs" ["_law_pen_here", "_law_many"] spLPairs
  handed : Cal P w K mg base CX0 5 "_law_handed" ["_law_pen_here", "_law_pairs_here"] (spLHanded C)
  some_ : Cal P w K mg base CX0 2 "_law_some" ["_law_pen_here", "_law_many"] spLSome
  infer : Cal P w K mg base CX0 7 "infer" ["points", "moves"] (spInfer K C)
  homes : Cal P w K mg base CX0 8 "_law_homes_right" ["_law_pen_here", "_law_points", "_law_moves", "_law_due"] (spRight C)
  order : Cal P w K mg base CX0 8 "_law_order_right" ["_law_pen_here", "_law_points", "_law_moves", "_law_due"] (spRight C)
  moves : Cal P w K mg base CX0 8 "_law_moves_right" ["_law_pen_here", "_law_points", "_law_moves", "_law_due"] (spRight C)
theorem pairB_bd {H : Hp} : ∀ {xs : List V} {ps : List (Rat × Rat)}, Paired (PairD PartB H) xs ps → ∀ p ∈ ps, BdP 20 p
  | _, _, .nil, _, h => by cases h
  | _, _, .cons ⟨a, x, y, e, h1, h2, h3⟩ r, p, h => by
    rcases List.mem_cons.mp h with rfl | h
    · exact ⟨h2.2, h3.2⟩
    · exact pairB_bd r p h
theorem pairB_q {H : Hp} {v : V} {p : Rat × Rat} (h : PairD PartB H v p) : PairD PartQ H v p := by
  obtain ⟨a, x, y, e, h1, h2, h3⟩ := h
  exact ⟨a, x, y, e, h1, h2.1, h3.1⟩
theorem inf_bd {ps : List (Rat × Rat)} {ms : List (Nat × (Rat × Rat))} {out : List (Rat × Rat)} (a : IsInf ps ms out) (bp : ∀ p ∈ ps, BdP 20 p) (bm : ∀ m ∈ ms, BdP 20 m.2) : ∀ r ∈ out, BdP 144 r := fun r hr => by
  obtain ⟨i, hi, e⟩ := List.mem_iff_getElem.mp hr
  have gi : out[i]? = some r := by rw [List.getElem?_eq_getElem hi, e]
  have hi' : i < ps.length := by rw [← a.len]; exact hi
  have gp : ps[i]? = some ps[i] := List.getElem?_eq_getElem hi'
  rcases a.all i _ r gp gi with ⟨_, rfl⟩ | h | ⟨_, f, l, a1, m1, a2, m2, _, _, g3, g4, g5, g6, rfl⟩
  · exact ⟨bd_zero _ (by decide), bd_zero _ (by decide)⟩
  · have := bm _ (mv_mem h)
    exact ⟨this.1.mono (by decide), this.2.mono (by decide)⟩
  · have b0 := bp _ (List.mem_of_getElem? gp)
    have b1 := bp _ (List.mem_of_getElem? g3)
    have b2 := bp _ (List.mem_of_getElem? g5)
    have n1 := bm _ (mv_mem g4)
    have n2 := bm _ (mv_mem g6)
    exact ⟨bd_betw (n := 20) ⟨b0.1, ⟨b1.1, n1.1⟩, b2.1, n2.1⟩, bd_betw (n := 20) ⟨b0.2, ⟨b1.2, n1.2⟩, b2.2, n2.2⟩⟩
theorem asc_lenB (m : Nat) : ∀ (ks : List Nat) (b : Nat), ks.Pairwise (· < ·) → (∀ x ∈ ks, b ≤ x ∧ x < m) → ks.length ≤ m - b
  | [], b, _, _ => Nat.zero_le _
  | a :: l, b, hp, hb => by
    have h1 := (List.pairwise_cons.mp hp).1
    have ih := asc_lenB m l (a + 1) (List.pairwise_cons.mp hp).2 fun x hx => ⟨h1 x hx, (hb x (List.mem_cons_of_mem _ hx)).2⟩
    have h2 := hb a List.mem_cons_self
    rw [List.length_cons]
    omega
theorem asc_len {m : Nat} {ks : List Nat} (h : AscB m ks) : ks.length ≤ m := by
  have := asc_lenB m ks 0 h.1 fun x hx => ⟨Nat.zero_le _, h.2 x hx⟩
  omega
theorem pdOf {α β : Type} {G : α → β → Prop} : ∀ {xs : List α} {zs : List β}, xs.length = zs.length → (∀ (i : Nat) x z, xs[i]? = some x → zs[i]? = some z → G x z) → Paired G xs zs
  | [], [], _, _ => .nil
  | [], _ :: _, h, _ => by simp at h
  | _ :: _, [], h, _ => by simp at h
  | x :: xs, z :: zs, h, k => .cons (k 0 x z rfl rfl) (pdOf (by simpa using h) fun i x z h1 h2 => k (i + 1) x z (by simpa using h1) (by simpa using h2))
theorem ofPair {X : Cx} {H1 : Hp} {σ : L2.St} {i j : Nat} {x : V} {p q : Rat} {kT : VK} (hij : i ≠ j) (hi : i < σ.length) (hj : j < σ.length) (h : PairD (Num C) H1 x (p, q)) (hk : ∀ H2 v, Same H1 H2 → PrR C H2 v (p, q) → kT v H2) :
    gt2 K i j x (wipe σ [i, j]) H1 fun σ2 H2 => wipe σ2 [i, j] = wipe σ [i, j] ∧ tTup (tCons (ClX.tCMeth C (fun vs H Q E => spOf C (vs ++ []) H Q E) E0 (tC (.ref C)) (tCons (tVar i) tNil)) (tCons (ClX.tCMeth C (fun vs H Q E => spOf C (vs ++ []) H Q E) E0 (tC (.ref C)) (tCons (tVar j) tNil)) tNil)) σ2 H2 kT := by
  obtain ⟨b, u, v, rfl, hb, hu, hv⟩ := h
  have l2 : (wipe σ [i, j]).length = σ.length := wipe_length σ [i, j]
  refine gt2R (SqT.of hb) ⟨wipe2 _ _ _ _ _ hij, ?_⟩
  refine ⟨rfl, u, ?_, u, p, rfl, hu, fun H2 v2 s2 h2 => ?_⟩
  · rw [List.getElem?_set_ne (Ne.symm hij), List.getElem?_set_self (by rw [l2]; exact hi)]
  refine ⟨rfl, v, ?_, v, q, rfl, mon_num _ _ _ _ s2 hv, fun H3 v3 s3 h3 => ⟨(show (2 : Nat) ≤ sizeLine by decide), fun b4 n4 => ?_⟩⟩
  · rw [List.getElem?_set_self (by rw [List.length_set, l2]; exact hj)]
  have s4 := same_upd (o := .tup [v2, v3]) n4
  exact hk _ _ ((s2.trans s3).trans s4) ⟨b4, v2, v3, rfl, upd_same, (h2.up s3).up s4, h3.up s4⟩
theorem ok_law (R : RK P w K mg base C CI CQ) (c : L23 P w K mg base C) (F : FnP K "law" "law" sLaw f fd) : FnOk P w K mg base CX0 9 f fd ["_law_script"] (spLaw K) := by
  refine F.ok scLaw (fun vs H Q E h => ?_) (fun cdv A outer s H vs Q E hr h => ?_)
  · obtain ⟨a, ns, rfl, _⟩ := h
    rfl
  · obtain ⟨a, ns, rfl, hS, kk⟩ := h
    have r1 := hr.mono (show 1 ≤ 8 by decide)
    have r2 := hr.mono (show 2 ≤ 8 by decide)
    have r3 := hr.mono (show 3 ≤ 8 by decide)
    have r4 := hr.mono (show 4 ≤ 8 by decide)
    have r5 := hr.mono (show 5 ≤ 8 by decide)
    have r7 := hr.mono (show 7 ≤ 8 by decide)
    refine ⟨_, PSs.nox (pss_cons (ps_set (i := 1) scLaw.nd rfl (.inl rfl) (pe_cal c.pen r1 (by rfl) pass0 (pa_cons (pv 0) pa_nil)))
      (pss_cons (ps_for PassesOwn.never rfl (pi_range1 rfl R.B.range (pa_cons pe_int pa_nil)) (pg_name (i := 2) scLaw.nd rfl (.inl rfl))
        (pss_cons (ps_set (i := 3) scLaw.nd rfl (.inl rfl) (pe_op op_add pe_int (pe_cal c.draw r1 (by rfl) pass0 (pa_cons (pv 1) (pa_cons pe_int pa_nil)))))
        (pss_cons (ps_setLc (i := 4) (own := [("_law_x", 8), ("_law_y", 9)]) (g := gt2 K 8 9) (tt := tYes) rfl scLaw.nd rfl rfl (sw_true rfl rfl rfl (by decide +kernel)) (pi_list (pe_cal c.handed r5 (by rfl) pass0 (pa_cons (pv 1) (pa_cons (pe_cal c.pairs r3 (by rfl) pass0 (pa_cons (pv 1) (pa_cons (pv 3) pa_nil))) pa_nil))))
          (blkOk_by (N := nLaw) (sc := defScope sLaw) (by decide +kernel)) (fun _ _ _ _ _ => pg_t2 K (by rfl) (pg_name (i := 8) scLaw.nd rfl (.inl rfl)) (pg_name (i := 9) scLaw.nd rfl (.inl rfl))) (fun _ _ _ _ _ => pts_nil)
          (fun _ _ _ _ _ => pe_tup (pa_cons (pe_rof R r4 (pe_glob (v := .ref C) (by rfl) R.mgC rfl) (pa_cons (pv 8) pa_nil)) (pa_cons (pe_rof R r4 (pe_glob (v := .ref C) (by rfl) R.mgC rfl) (pa_cons (pv 9) pa_nil)) pa_nil))))
        (pss_cons (ps_set (i := 5) scLaw.nd rfl (.inr rfl) (pe_lc (own := [("_law_x", 8), ("_law_y", 9)]) (g := gt2 K 8 9) (tt := tYes) rfl scLaw.nd (pi_list (pe_cal c.handed r5 (by rfl) pass0 (pa_cons (pv 1) (pa_cons (pe_cal c.pairs r3 (by rfl) pass0 (pa_cons (pv 1) (pa_cons (pv 3) pa_nil))) pa_nil))))
          (blkOk_by (N := nLaw) (sc := defScope sLaw) (by decide +kernel)) (fun _ _ _ _ _ => pg_t2 K (by rfl) (pg_name (i := 8) scLaw.nd rfl (.inl rfl)) (pg_name (i := 9) scLaw.nd rfl (.inl rfl))) (fun _ _ _ _ _ => pts_nil)
          (fun _ _ _ _ _ => pe_tup (pa_cons (pe_rof R r4 (pe_glob (v := .ref C) (by rfl) R.mgC rfl) (pa_cons (pv 8) pa_nil)) (pa_cons (pe_rof R r4 (pe_glob (v := .ref C) (by rfl) R.mgC rfl) (pa_cons (pv 9) pa_nil)) pa_nil)))))
        (pss_cons (ps_set (i := 6) scLaw.nd rfl (.inr rfl) (pe_callTy (call_dictP rfl) (by rfl) R.B.dict (by decide +kernel) (pa_cons (pe_lc (own := [("_law_k", 10)]) (g := gName 10) (tt := tYes) (te := tTup (tCons (tVar 10) (tCons (tOp (rIxL K) (tVar 5) (tVar 10)) tNil))) rfl scLaw.nd (pi_list (pe_cal c.some_ r2 (by rfl) pass0 (pa_cons (pv 1) (pa_cons (pv 3) pa_nil))))
          (blkOk_by (N := nLaw) (sc := defScope sLaw) (by decide +kernel)) (fun _ _ _ _ _ => pg_name (i := 10) scLaw.nd rfl (.inl rfl)) (fun _ _ _ _ _ => pts_nil) (fun _ _ _ _ _ => pe_tup (pa_cons (pv 10) (pa_cons (pe_ix (ixL K) (pv 5) (pv 10) (fun _ _ => rfl)) pa_nil)))) pa_nil)))
        (pss_cons (ps_set (i := 7) scLaw.nd rfl (.inr rfl) (pe_cal c.infer r7 (by rfl) pass0 (pa_cons (pv 4) (pa_cons (pv 6) pa_nil))))
        (pss_cons (ps_if (PW.pt (pw_or (pt_cmpR (op_neD hr.units) (pe_lock (pe_lc (own := [("_law_k", 10)]) (g := gName 10) (tt := tTest (tOp (rEqF (PrR C) true) (tOp (rIxL K) (tVar 7) (tVar 10)) (tDGet (tVar 6) (tVar 10)))) (te := tVar 10) rfl scLaw.nd (pi_keys (pv 6)) (blkOk_by (N := nLaw) (sc := defScope sLaw) (by decide +kernel)) (fun _ _ _ _ _ => pg_name (i := 10) scLaw.nd rfl (.inl rfl))
            (fun _ _ _ _ _ => pts_one (pt_cmpR (op_neP R r2) (pe_ix (ixL K) (pv 7) (pv 10) (fun _ _ => rfl)) (pe_dget (ru1 hr) (pv 6) (pv 10) (fun _ _ => rfl)) (nomark _))) (fun _ _ _ _ _ => pv 10))) (pe_lst pa_nil) (nomark _))
            (pw_or1 (pt_cmpR op_ne (pe_callB call_len_seq (by rfl) R.B.len PySem.boot_len (pa_cons (pv 7) pa_nil)) (pv 3) (nomark _))))) (pss_one (ps_ret pe_bl)) pss_nil)
        (pss_cons (ps_if (PW.pt (pw_or (pt_not (pt_val (pe_cal c.homes hr (by rfl) pass0 (pa_cons (pv 1) (pa_cons (pv 4) (pa_cons (pv 6) (pa_cons (pv 7) pa_nil))))))) (pw_or1 (pt_not (pt_val (pe_cal c.order hr (by rfl) pass0 (pa_cons (pv 1) (pa_cons (pv 4) (pa_cons (pv 6) (pa_cons (pv 7) pa_nil)))))))))) (pss_one (ps_ret pe_bl)) pss_nil)
        (pss_one (ps_if (PW.pt (pw_or (pt_not (pt_val (pe_cal c.moves hr (by rfl) pass0 (pa_cons (pv 1) (pa_cons (pv 4) (pa_cons (pv 6) (pa_cons (pv 7) pa_nil))))))) (pw_or1 (pt_cmpR (op_nePs R r3) (pe_cal c.infer r7 (by rfl) pass0 (pa_cons (pv 4) (pa_cons (pe_callTy (call_dictP rfl) (by rfl) R.B.dict (by decide +kernel) (pa_cons (pe_listEnum rfl (by rfl) R.B.list (by rfl) R.B.enumerate (pv 7)) pa_nil)) pa_nil))) (pv 7) (nomark _))))) (pss_one (ps_ret pe_bl)) pss_nil))))))))))
      (pss_one (ps_ret pe_bl)))), ?_⟩
    refine ⟨_, rfl, a, ns, rfl, hS, fun H1 Pn c1 s1 nP pen0 => ?_⟩
    refine ⟨5, rfl, by decide, by decide, for_range (n := 5) (fun i σ H' => ∃ u2 u3 u4 u5 u6 u7 u8 u9 u10, σ = [some (.ref a), some (.ref Pn), u2, u3, u4, u5, u6, u7, u8, u9, u10] ∧ Pen H' Pn c1 (500 * i))
      ⟨none, none, none, none, none, none, none, none, none, rfl, pen0⟩ ?_ ?_⟩
    · rintro i σ H1 hi ⟨u2, u3, u4, u5, u6, u7, u8, u9, u10, rfl, p1⟩
      clear pen0
      refine gnm ?_
      refine ⟨_, rfl, Pn, c1, 500 * i, 8, rfl, p1, by omega, by decide, by decide, fun H2 d2 o2 p2 h2 => ⟨_, _, rfl, rfl, ?_⟩⟩
      have em : (1 + (d2 : Int)) = ((1 + d2 : Nat) : Int) := by omega
      refine gnm ?_
      dsimp only
      rw [em]
      have m0 : 0 < 1 + d2 := by omega
      have m8 : 1 + d2 ≤ 8 := by omega
      generalize 1 + d2 = m at m0 m8
      refine asgLc ?_
      refine lcE ?_
      refine ⟨_, rfl, _, rfl, _, rfl, Pn, c1, _, m, rfl, p2, by omega, by omega, fun H3 l3 ys3 psA o3 n3 h3 p3 pr3 pl3 => ?_⟩
      have l3P : l3 ≠ Pn := p2.fresh n3
      have y3 : ys3.length = m := (Pd.len pr3).trans pl3
      have bA := pairB_bd pr3
      refine ⟨Pn, c1, l3, _, ys3, psA, rfl, p3, by omega, h3, l3P, Pd.imp pr3 fun _ _ z => pairB_q z, by omega, fun p hp => ⟨(bA p hp).1.mono (by decide), (bA p hp).2.mono (by decide)⟩, fun H4 l4 ys4 o4 n4 h4 p4 pr4 => ?_⟩
      refine ⟨l4, rfl, ⟨_, SqL.of h4⟩, ?_⟩
      have y4 : ys4.length = m := (Pd.len pr4).trans pl3
      refine lcM (K := K) (F := PairD (Num C)) (G := PrR C) id (SqL.of h4) pr4 (mon_pairD mon_num) mon_prR offL_prR (by omega) ?_ ?_
      · rintro x ⟨p, q⟩ H5 hm s5 hx kT hk
        exact ofPair (X := (cxOf CX0 P w K mg base nLaw "law" (defScope sLaw) f cdv A outer s H E).nox) (by decide) (by show 8 < 11; decide) (by show 9 < 11; decide) hx hk
      intro H5 L5 xs5 s5 n5 h5 pA5
      rw [List.map_id] at pA5
      have p5 := p4.up s5
      have L5P : L5 ≠ Pn := p4.fresh n5
      try dsimp only
      refine asgLc ?_
      refine lcE ?_
      refine ⟨_, rfl, _, rfl, _, rfl, Pn, c1, _, m, rfl, p5, by omega, by omega, fun H6 l6 ys6 psB o6 n6 h6 p6 pr6 pl6 => ?_⟩
      have l6P : l6 ≠ Pn := p5.fresh n6
      have y6 : ys6.length = m := (Pd.len pr6).trans pl6
      have bB := pairB_bd pr6
      refine ⟨Pn, c1, l6, _, ys6, psB, rfl, p6, by omega, h6, l6P, Pd.imp pr6 fun _ _ z => pairB_q z, by omega, fun p hp => ⟨(bB p hp).1.mono (by decide), (bB p hp).2.mono (by decide)⟩, fun H7 l7 ys7 o7 n7 h7 p7 pr7 => ?_⟩
      refine ⟨l7, rfl, ⟨_, SqL.of h7⟩, ?_⟩
      have y7 : ys7.length = m := (Pd.len pr7).trans pl6
      refine lcM (K := K) (F := PairD (Num C)) (G := PrR C) id (SqL.of h7) pr7 (mon_pairD mon_num) mon_prR offL_prR (by omega) ?_ ?_
      · rintro x ⟨p, q⟩ H8 hm s8 hx kT hk
        exact ofPair (X := (cxOf CX0 P w K mg base nLaw "law" (defScope sLaw) f cdv A outer s H E).nox) (by decide) (by show 8 < 11; decide) (by show 9 < 11; decide) hx hk
      intro H8 L8 xs8 s8 n8 h8 pB8
      rw [List.map_id] at pB8
      have p8' := p7.up s8
      have L8P : L8 ≠ Pn := p7.fresh n8
      have o58 : Off Pn H5 H8 := (o6.trans o7).trans (Off.of s8)
      have hA8 := o58 _ _ L5P h5
      have pA8 : Paired (PrR C H8) xs5 psA := Pd.imp pA5 fun _ _ z => upP_pair upP_rat _ _ _ _ _ z p5 o58
      try dsimp only
      refine asgE ?_
      refine cbE (consE ?_)
      refine lcE ?_
      refine ⟨_, rfl, _, rfl, Pn, c1, _, m, rfl, p8', by omega, m0, by omega, fun H9 l9 ks o9 n9 h9 p9 hks => ?_⟩
      have hA9 := o9 _ _ L5P hA8
      have pA9 : Paired (PrR C H9) xs5 psA := Pd.imp pA8 fun _ _ z => upP_pair upP_rat _ _ _ _ _ z p8' o9
      have hB9 := o9 _ _ L8P h8
      have pB9 : Paired (PrR C H9) xs8 psB := Pd.imp pB8 fun _ _ z => upP_pair upP_rat _ _ _ _ _ z p8' o9
      have kl : ks.length ≤ m := asc_len hks
      refine ⟨l9, rfl, ⟨_, SqL.of h9⟩, ?_⟩
      refine lcM (K := K) (F := NatD) (G := KvD (PrR C)) (fun k => (k, psB[k]?.getD (0, 0))) (SqL.of h9) (nat_pd ks) mon_nat (mon_kvD mon_prR) (offL_kvD offL_prR) (by rw [List.length_map]; omega) ?_ ?_
      · rintro x z HA hm sA hx kT hk
        obtain rfl : x = V.int (z : Int) := hx
        refine gnm ⟨wipe1 _ _ _, ?_⟩
        have zl : z < psB.length := by rw [pl6]; exact hks.2 z hm
        have gz : psB[z]? = some (psB[z]?.getD (0, 0)) := by rw [List.getElem?_eq_getElem zl]; rfl
        obtain ⟨v, ev, fv⟩ := Pd.getR pB9 gz
        refine ⟨_, rfl, _, rfl, _, rfl, L8, xs8, z, v, rfl, rfl, SqL.of (sA _ _ hB9), atI_nat ev, (show (2 : Nat) ≤ sizeLine by decide), fun T n => ?_⟩
        have sT := same_upd (o := .tup [V.int (z : Int), v]) n
        exact hk _ _ sT ⟨T, v, rfl, upd_same, mon_prR _ _ _ _ (sA.trans sT) fv⟩
      intro HA LA ysA sA nA hA pKA
      have mk : ∀ (k : Nat), k ∈ ks → k < psB.length := fun k hk => by rw [pl6]; exact hks.2 k hk
      have keq : ((ks.map fun k => (k, psB[k]?.getD (0, 0))).map (·.1)) = ks := by
        rw [List.map_map]
        exact List.map_id ks
      have ndA : ((ks.map fun k => (k, psB[k]?.getD (0, 0))).map (·.1)).Nodup := by rw [keq]; exact nodup_asc hks.1
      obtain ⟨paB, kvB, eB, pAB, pBB⟩ := kv_dict (K := K) pKA
      subst eB
      refine ⟨LA, paB, kvB, rfl, SqL.of hA, pAB, fun dB nB => ?_⟩
      rw [merge_nil pBB ndA]
      have sB := same_upd (o := .dK kvB) nB
      have hdB := upd_same (H := HA) (a := dB) (o := .dK kvB)
      generalize upd HA dB (.dK kvB) = HB at sB hdB ⊢
      have pmB := Pd.imp pBB fun _ _ z => mon_mvD mon_prR sB z
      generalize hms : (ks.map fun k => (k, psB[k]?.getD (0, 0))) = ms at pmB ndA
      have msl : ms.length ≤ m := by rw [← hms, List.length_map]; exact kl
      have msk : ∀ x ∈ ms, x.1 < psA.length := fun x hx => by
        rw [← hms] at hx
        obtain ⟨k, hk, rfl⟩ := List.mem_map.mp hx
        rw [pl3]
        exact hks.2 k hk
      have msb : ∀ x ∈ ms, BdP 20 x.2 := fun x hx => by
        rw [← hms] at hx
        obtain ⟨k, hk, rfl⟩ := List.mem_map.mp hx
        have gz : psB[k]? = some (psB[k]?.getD (0, 0)) := by rw [List.getElem?_eq_getElem (mk k hk)]; rfl
        exact bB _ (List.mem_of_getElem? gz)
      have s9B := sA.trans sB
      have pB := p9.up s9B
      have hAB := s9B _ _ hA9
      have pAB' : Paired (PrR C HB) xs5 psA := Pd.imp pA9 fun _ _ z => mon_prR _ _ _ _ s9B z
      have x5 : xs5.length = m := (Pd.len pA9).trans pl3
      dsimp only
      refine ⟨_, rfl, _, rfl, L5, dB, xs5, kvB, psA, ms, 20, rfl, SqL.of hAB, Pd.imp pAB' fun _ _ z => pr_num z, by omega, hdB, Pd.imp pmB fun _ _ z => ⟨z.1, pr_num z.2⟩, by omega, ndA, msk, bA, msb, by decide, fun HC LC zsC out sC nC hC pC infC => ?_⟩
      have LCP : LC ≠ Pn := pB.fresh nC
      have pCn := pB.up sC
      have S : Sit C Pn HC L5 dB LC xs5 zsC kvB psA ms out :=
        { ha := sC _ _ hAB, hp := Pd.imp pAB' fun _ _ z => mon_prR _ _ _ _ sC z, hd := sC _ _ hdB, hm := Pd.imp pmB fun _ _ z => mon_mvD mon_prR sC z, he := hC, ho := pC, aP := L5P, eP := LCP, nod := ndA, keys := msk, pl0 := by omega, pl := by omega, ml := by omega, bp := bA, bm := msb, bo := inf_bd infC bA msb, inf := infC }
      have olen : out.length = m := infC.len.trans pl3
      have zlen : zsC.length = m := (Pd.len pC).trans olen
      try dsimp only
      refine ⟨dB, _, S.hd, trivial, fun od => ?_⟩
      have lock := upd_same (H := HC) (a := dB) (o := .frz od (.dK kvB))
      have msL := lock_ms (od := od) offM_prR S.hd S.hm
      have LCd : LC ≠ dB := fun z => by have := S.he; rw [z, S.hd] at this; cases this
      have heL : upd HC dB (.frz od (.dK kvB)) LC = some (.lst zsC) := by rw [upd_ne LCd]; exact S.he
      have hoL := pd_off (o := .frz od (.dK kvB)) offM_prR S.hd nit_dk S.ho
      have lockS : ∀ {H'}, Same (upd HC dB (.frz od (.dK kvB))) H' → Same HC (upd H' dB (.dK kvB)) := fun s => lock_same S.hd s
      generalize upd HC dB (.frz od (.dK kvB)) = L at lock msL lockS heL hoL ⊢
      refine lcE ?_
      refine ⟨_, rfl, dB, od, rfl, .inl ⟨kvB, lock, ?_⟩⟩
      refine lcKF (F := PrR C) (G := NatD) (fun _ => false) (fun x => x.1) lock msL mon_nat offL_nat (by omega) ?_ ?_
      · intro x HD hx sD kT kF hT hF
        refine gnm ⟨wipe1 _ _ _, ?_⟩
        have dic : DicD (PrR C) HD dB ms := ⟨kvB, .inr ⟨od, sD _ _ lock⟩, Pd.imp msL fun _ _ z => mon_mvD mon_prR sD z⟩
        obtain ⟨j, hj, ej⟩ := List.mem_iff_getElem.mp hx
        have hmv := mv_of_get ndA (show ms[j]? = some x by rw [List.getElem?_eq_getElem hj, ej])
        obtain ⟨v, gv, hv⟩ := dic.get1 hmv
        have xl := msk x hx
        have go : out[x.1]? = some x.2 := by
          have g1 : out[x.1]? = some (out[x.1]'(by rw [infC.len]; exact xl)) := List.getElem?_eq_getElem _
          rcases infC.all x.1 _ _ (List.getElem?_eq_getElem xl) g1 with ⟨e, _⟩ | e | ⟨e, _⟩
          · rw [e] at hx; cases hx
          · rw [g1, ← hmv, e]
          · rw [hmv] at e; cases e
        obtain ⟨u, eu, fu⟩ := Pd.getR hoL go
        refine ⟨_, rfl, _, rfl, LC, zsC, x.1, u, rfl, rfl, SqL.of (sD _ _ heL), atI_nat eu, _, rfl, _, rfl, dB, v, rfl, gv, x.2, x.2, mon_prR _ _ _ _ sD fu, hv, fun HE eE => ⟨_, rfl, ?_⟩⟩
        rw [decide_eq_true rfl]
        exact iteF (hF rfl HE eE)
      intro HD LD ysD sD nD hD pD
      have fnil : ms.filter (fun _ => false) = [] := List.filter_eq_nil_iff.mpr fun _ _ z => by cases z
      rw [fnil] at pD
      have yD : ysD = [] := by cases pD; rfl
      subst yD
      refine ⟨sD _ _ lock, ?_⟩
      have sCE := lockS sD
      have LDd : LD ≠ dB := fun z => by rw [z, lock] at nD; cases nD
      have hLD : upd HD dB (.dK kvB) LD = some (.lst []) := by rw [upd_ne LDd]; exact hD
      generalize upd HD dB (.dK kvB) = HE at sCE hLD ⊢
      refine ⟨Nat.zero_le _, fun LF nF => ?_⟩
      have sF := same_upd (o := .lst []) nF
      have hF := upd_same (H := HE) (a := LF) (o := .lst [])
      generalize upd HE LF (.lst []) = HF at sF hF ⊢
      refine neNil (ns := []) (sF _ _ hLD) hF ⟨_, rfl, ?_⟩
      have sCF := sCE.trans sF
      have SF := S.up sCF
      have pF := pCn.up sCF
      refine iteF ?_
      refine ⟨_, rfl, LC, zsC, rfl, .inl (SqL.of SF.he), _, rfl, rfl, _, rfl, ?_⟩
      rw [zlen, decide_eq_true rfl]
      refine iteF ?_
      refine ⟨_, rfl, _, rfl, _, rfl, _, rfl, Pn, c1, L5, dB, LC, _, xs5, zsC, kvB, psA, ms, out, rfl, pF, by omega, SF, fun HG oG pG => ⟨true, rfl, iteF ?_⟩⟩
      have SG := SF.off pF oG
      refine ⟨_, rfl, _, rfl, _, rfl, _, rfl, Pn, c1, L5, dB, LC, _, xs5, zsC, kvB, psA, ms, out, rfl, pG, by omega, SG, fun HI oI pI => ⟨true, rfl, iteF ?_⟩⟩
      have SI := SG.off pG oI
      refine ⟨_, rfl, _, rfl, _, rfl, _, rfl, Pn, c1, L5, dB, LC, _, xs5, zsC, kvB, psA, ms, out, rfl, pI, by omega, SI, fun HJ oJ pJ => ⟨true, rfl, iteF ?_⟩⟩
      have SJ := SI.off pI oJ
      refine ⟨_, rfl, _, rfl, LC, zsC, rfl, SqL.of SJ.he, by omega, fun HM SM Ts sM nM hM tM => ?_⟩
      have SM' := SJ.up sM
      have tlen : Ts.length = m := tM.1.trans zlen
      have pdM : Paired (KvD (PrR C) HM) (Ts.map V.ref) ((List.range m).map fun j => (j, out[j]?.getD (0, 0))) := by
        refine pdOf (by simp [tlen]) fun j x z hx hz => ?_
        have hj : j < m := by
          have := (List.getElem?_eq_some_iff.mp hz).1
          simpa using this
        rw [List.getElem?_map, List.getElem?_range hj] at hz
        cases hz
        have gz : out[j]? = some (out[j]?.getD (0, 0)) := by rw [List.getElem?_eq_getElem (by omega)]; rfl
        obtain ⟨u, eu, fu⟩ := Pd.getR SM'.ho gz
        obtain ⟨T, gT, hT⟩ := tM.2 j u (by omega) eu
        rw [List.getElem?_map, gT] at hx
        cases hx
        exact ⟨T, u, rfl, hT, fu⟩
      have ndM : (((List.range m).map fun j => (j, out[j]?.getD (0, 0))).map (·.1)).Nodup := by
        rw [List.map_map]
        have e : ((fun x : Nat × (Rat × Rat) => x.1) ∘ fun j => (j, out[j]?.getD (0, 0))) = id := rfl
        rw [e, List.map_id]
        exact List.nodup_range
      obtain ⟨paM, kvM, eM, pAM, pBM⟩ := kv_dict (K := K) pdM
      rw [eM] at hM
      refine ⟨SM, paM, kvM, rfl, SqL.of hM, pAM, fun dM nM2 => ?_⟩
      rw [merge_nil pBM ndM]
      have sN := same_upd (o := .dK kvM) nM2
      have hdN := upd_same (H := HM) (a := dM) (o := .dK kvM)
      generalize upd HM dM (.dK kvM) = HN at sN hdN ⊢
      have SN := SM'.up sN
      have pmN := Pd.imp pBM fun _ _ z => mon_mvD mon_prR sN z
      refine ⟨L5, dM, xs5, kvM, psA, _, 144, rfl, SqL.of SN.ha, Pd.imp SN.hp fun _ _ z => pr_num z, by omega, hdN, Pd.imp pmN fun _ _ z => ⟨z.1, pr_num z.2⟩, (by simp; omega), ndM, (fun x hx => ?_), (fun p hp => ⟨(bA p hp).1.mono (by decide), (bA p hp).2.mono (by decide)⟩), (fun x hx => ?_), by decide, fun HO LO ysO outO sO nO hO pO iO => ?_⟩
      · obtain ⟨j, hj, rfl⟩ := List.mem_map.mp hx
        rw [pl3]
        exact List.mem_range.mp hj
      · obtain ⟨j, hj, rfl⟩ := List.mem_map.mp hx
        have gz : out[j]? = some (out[j]?.getD (0, 0)) := by rw [List.getElem?_eq_getElem (by have := List.mem_range.mp hj; omega)]; rfl
        exact S.bo _ (List.mem_of_getElem? gz)
      have SO := SN.up sO
      have eo : outO = out := by
        refine inf_all (infC.len) (fun j r hj => ?_) (fun k hk => ?_) iO
        · have hj' : j < m := by
            have := (List.getElem?_eq_some_iff.mp hj).1
            omega
          have g : ((List.range m).map fun j => (j, out[j]?.getD (0, 0)))[j]? = some (j, r) := by
            rw [List.getElem?_map, List.getElem?_range hj']
            simp [hj]
          exact mv_of_get ndM g
        · obtain ⟨x, hx, rfl⟩ := List.mem_map.mp (key_mem.mp hk)
          obtain ⟨j, hj, rfl⟩ := List.mem_map.mp hx
          rw [pl3]
          exact List.mem_range.mp hj
      refine ⟨_, rfl, outO, out, ⟨LO, ysO, rfl, hO, pO⟩, ⟨LC, zsC, rfl, SO.he, SO.ho⟩, fun HZ sZ => ⟨_, rfl, ?_⟩⟩
      rw [decide_eq_true eo]
      refine iteF ?_
      exact ⟨_, _, _, _, _, _, _, _, _, rfl, (pJ.up (((sM.trans sN).trans sO).trans sZ)).mono (by omega)⟩
    · rintro σ H' ⟨u2, u3, u4, u5, u6, u7, u8, u9, u10, rfl, _⟩
      exact kk H'
end
end BF
set_option maxHeartbeats 0
namespace BF
open PySem PySem.Spec PyProof.Rows L2
def fn : List DefA := [⟨aG "is_integer", "is_integer", "is_integer", sIsInt, [], []⟩,
  ⟨aG "divisor", "divisor", "divisor", sDivisor, [], []⟩,
  ⟨aM "Ratio" "__init__", "__init__", "Ratio.__init__", sInit, [.int 1], []⟩,
  ⟨aC "Ratio" "of", "of", "Ratio.of", sOf, [], []⟩,
  ⟨aM "Ratio" "under", "under", "Ratio.under", sUnder, [], []⟩,
  ⟨aM "Ratio" "__eq__", "__eq__", "Ratio.__eq__", sEq, [], []⟩,
  ⟨aM "Ratio" "__add__", "__add__", "Ratio.__add__", sAdd, [], []⟩,
  ⟨aM "Ratio" "__sub__", "__sub__", "Ratio.__sub__", sSub, [], []⟩,
  ⟨aM "Ratio" "__mul__", "__mul__", "Ratio.__mul__", sMul, [], []⟩,
  ⟨aM "Ratio" "over", "over", "Ratio.over", sOver, [], []⟩,
  ⟨aG "as_pairs", "as_pairs", "as_pairs", sAsPairs, [], []⟩,
  ⟨aG "between", "between", "between", sBetween, [], []⟩,
  ⟨aG "inferred_move", "inferred_move", "inferred_move", sInfMove, [], []⟩,
  ⟨aG "touched_around", "touched_around", "touched_around", sAround, [], []⟩,
  ⟨aG "infer", "infer", "infer", sInfer, [], []⟩,
  ⟨aG "_law_pen", "_law_pen", "_law_pen", sPen, [], []⟩,
  ⟨aG "_law_draw", "_law_draw", "_law_draw", sDraw, [], []⟩,
  ⟨aG "_law_part", "_law_part", "_law_part", sLPart, [], []⟩,
  ⟨aG "_law_number", "_law_number", "_law_number", sLNumber, [], []⟩,
  ⟨aG "_law_pairs", "_law_pairs", "_law_pairs", sLPairs, [], []⟩,
  ⟨aG "_law_some", "_law_some", "_law_some", sLSome, [], []⟩,
  ⟨aG "_law_given", "_law_given", "_law_given", sLGiven, [], []⟩,
  ⟨aG "_law_handed", "_law_handed", "_law_handed", sLHanded, [], []⟩,
  ⟨aG "_law_scaled", "_law_scaled", "_law_scaled", sScaled, [], []⟩,
  ⟨aG "_law_around", "_law_around", "_law_around", sLAround, [], []⟩,
  ⟨aG "_law_homes_right", "_law_homes_right", "_law_homes_right", sHomes, [], []⟩,
  ⟨aG "_law_order_right", "_law_order_right", "_law_order_right", sOrder, [], []⟩,
  ⟨aG "_law_moves_right", "_law_moves_right", "_law_moves_right", sMoves, [], []⟩,
  ⟨aG "law", "law", "law", sLaw, [], []⟩]
def fas : List He.Fa := [.free "isinstance", .free "int", .free "bool", .free "abs", .free "len", .free "list", .free "range", .free "repr", .free "str", .free "tuple", .free "dict", .free "sorted", .free "enumerate", .free "all", .free "any", .free "sum", .free "min", .free "max", .free "zip", .free "set", .free "type", .free "ValueError", .cls "Ratio", .noat "Ratio" "top", .noat "Ratio" "bottom", .glo "Ratio", .glo "is_integer", .glo "divisor", .glo "InvalidRatio", .exc "InvalidRatio", .glo "NoQuotient", .exc "NoQuotient", .mkr "Ratio", .meth "Ratio" "under", .meth "Ratio" "__eq__", .meth "Ratio" "__add__", .meth "Ratio" "__sub__", .meth "Ratio" "__mul__", .meth "Ratio" "over", .glo "as_pairs", .glo "between", .glo "inferred_move", .glo "touched_around", .glo "infer", .glo "_law_pen", .glo "_law_draw", .glo "_law_part", .glo "_law_number", .glo "_law_pairs", .glo "_law_some", .glo "_law_given", .glo "_law_handed", .glo "_law_scaled", .glo "_law_around", .glo "_law_homes_right", .glo "_law_order_right", .glo "_law_moves_right", .glo "law"]
def ex (K : PySem.W.Frag) : Bool := (fas.all fun f => f.ok K) && (creadB K "Ratio" && (cmetB K "Ratio" "of" && (decide (PySem.W.kitOne K (.type "int") (.ref (He.ga K "Ratio")) = some false) &&
  (He.eqO (PySem.W.findIn K (.ref (He.ga K "Ratio")) "__class__") (some (some (.builtin "object.__class__"))) && (He.eqO (PySem.W.specialIn K (.builtin "object.__class__") "__get__") (some (some (.builtin "getset_descriptor.__get__"))) &&
  (decide (PySem.W.takesIn K (.builtin "object.__class__") = some true) && (decide (PySem.W.mroIn K (He.ga K "Ratio") (.type "object") = some true) && PySem.W.selfFirst K (He.ga K "Ratio"))))))))
abbrev R : PySem.W.OpenRow := PySem.W.OpenLaw.row PySem.Challenge.rw_betweenfaces_k23_whole_moves_that_go_alo
abbrev hk : PySem.W.Hook := hookB 5 fn ex
def ob (s : PySem.W.SharedT) : SeenB := seeBG 5 fn ex (HandSHeadRun.getT s)
theorem ob_eq (s : PySem.W.SharedT) : ob s = hk.obs s.abs := seeBG_eq (HandSHeadRun.getT_eq s)
def names : List PySem.Str := ["FaceError", "InvalidRatio", "NoQuotient", "FIGURES", "MOST_FIGURES", "is_integer", "divisor", "is_written", "is_ratio_text", "Ratio", "as_pairs", "between", "inferred_move", "touched_around", "infer", "_law_pen", "_law_draw", "_law_part", "_law_number", "_law_pairs", "_law_some", "_law_given", "_law_handed", "_law_scaled", "_law_around", "_law_homes_right", "_law_order_right", "_law_moves_right"]
theorem run (w : World) : HandSHeadRun.RunEq R (PySem.W.view R.prog [32]) hk ob 4000 names w := by
  intro os
  kernel_rfl
/-- what the head tells of the class Ratio -/
theorem ratio_of {P : Program} {w : World} {K : PySem.W.Frag} {h base : Heap} {mg : Str → Option Value} (X : K.In h) (G : h.Ns mainGlobals mg) (c : SaysB fn ex K) :
    RK P w K mg base (He.ga K "Ratio") (He.ga K "InvalidRatio") (He.ga K "NoQuotient") := by
  obtain ⟨m1, m2⟩ := He.ba c.more
  obtain ⟨m2, m3⟩ := He.ba m2
  obtain ⟨m3, m4⟩ := He.ba m3
  obtain ⟨m4, m5⟩ := He.ba m4
  obtain ⟨m5, m6⟩ := He.ba m5
  obtain ⟨m6, m7⟩ := He.ba m6
  obtain ⟨m7, m8⟩ := He.ba m7
  obtain ⟨m8, m9⟩ := He.ba m8
  have fact : ∀ {f : He.Fa}, f ∈ fas → f.ok K = true := fun {f} h => List.all_eq_true.mp m1 f h
  have free : ∀ {x : Str}, He.Fa.free x ∈ fas → mg x = none := fun h => He.free_ok X G (fact h)
  have glo : ∀ {x : Str}, He.Fa.glo x ∈ fas → mg x = some (.ref (He.ga K x)) := fun h => He.glo_ok X G (fact h)
  have B : Bl mg := ⟨free (by simp [fas]), free (by simp [fas]), free (by simp [fas]), free (by simp [fas]), free (by simp [fas]), free (by simp [fas]), free (by simp [fas]), free (by simp [fas]), free (by simp [fas]), free (by simp [fas]), free (by simp [fas]), free (by simp [fas]), free (by simp [fas]), free (by simp [fas]), free (by simp [fas]), free (by simp [fas]), free (by simp [fas]), free (by simp [fas]), free (by simp [fas]), free (by simp [fas]), free (by simp [fas]), free (by simp [fas])⟩
  obtain ⟨e1, e2, e3, e4⟩ := He.exc_ok (fact (f := .exc "InvalidRatio") (by simp [fas]))
  obtain ⟨q1, q2, q3, q4⟩ := He.exc_ok (fact (f := .exc "NoQuotient") (by simp [fas]))
  have T : RT K mg (He.ga K "Ratio") (He.ga K "InvalidRatio") (He.ga K "is_integer") (He.ga K "divisor") := ⟨He.cls_ok (fact (by simp [fas])), He.noat_ok (fact (by simp [fas])), He.noat_ok (fact (by simp [fas])), glo (by simp [fas]), glo (by simp [fas]), glo (by simp [fas]), glo (by simp [fas]), e1, e2, e3, e4⟩
  have Z : RQ K mg (He.ga K "NoQuotient") := ⟨glo (by simp [fas]), q1, q2, q3, q4⟩
  have Y : RTy K (He.ga K "Ratio") := ⟨He.eqO_ok m5, He.eqO_ok m6, of_decide_eq_true m7, of_decide_eq_true m8⟩
  have T2 : RT2 K (He.ga K "Ratio") (He.ma K (He.ga K "Ratio") "__init__") (He.ma K (He.ga K "Ratio") "of") (aC "Ratio" "of" K) := ⟨He.mkr_ok (fact (by simp [fas])), cread_ok m2, cmet_ok m3, of_decide_eq_true m4⟩
  obtain ⟨fdI, FI⟩ : ∃ fd, FnP K "is_integer" "is_integer" sIsInt (He.ga K "is_integer") fd := c.def_ 0
  obtain ⟨fdD, FD⟩ : ∃ fd, FnP K "divisor" "divisor" sDivisor (He.ga K "divisor") fd := c.def_ 1
  obtain ⟨fdN, FN⟩ : ∃ fd, FunD K "__init__" "Ratio.__init__" (defArgs sInit) (defBody sInit) (defScope sInit) [.int 1] [] (He.ma K (He.ga K "Ratio") "__init__") fd := c.def_ 2
  obtain ⟨fdO, FO⟩ : ∃ fd, FnP K "of" "Ratio.of" sOf (aC "Ratio" "of" K) fd := c.def_ 3
  obtain ⟨fdU, FU⟩ : ∃ fd, FnP K "under" "Ratio.under" sUnder (He.ma K (He.ga K "Ratio") "under") fd := c.def_ 4
  obtain ⟨fdE, FE⟩ : ∃ fd, FnP K "__eq__" "Ratio.__eq__" sEq (He.ma K (He.ga K "Ratio") "__eq__") fd := c.def_ 5
  obtain ⟨fdA, FA⟩ : ∃ fd, FnP K "__add__" "Ratio.__add__" sAdd (He.ma K (He.ga K "Ratio") "__add__") fd := c.def_ 6
  obtain ⟨fdS, FS⟩ : ∃ fd, FnP K "__sub__" "Ratio.__sub__" sSub (He.ma K (He.ga K "Ratio") "__sub__") fd := c.def_ 7
  obtain ⟨fdM, FM⟩ : ∃ fd, FnP K "__mul__" "Ratio.__mul__" sMul (He.ma K (He.ga K "Ratio") "__mul__") fd := c.def_ 8
  obtain ⟨fdV, FV⟩ : ∃ fd, FnP K "over" "Ratio.over" sOver (He.ma K (He.ga K "Ratio") "over") fd := c.def_ 9
  have GN : FnOk P w K mg base (L2.CX P w) 2 _ fdN ["self", "top", "bottom"] (spInit K (He.ga K "Ratio") (He.ga K "InvalidRatio")) := ok_init B T FI FD FN
  obtain ⟨d2, hd2, bN2⟩ := FN.binds1 (ps := ["self", "top", "bottom"]) 3 1 (List.cons_ne_nil _ _) rfl fun _ _ _ _ _ _ _ us its hu hi => match us, its, hu, hi with | [_, _, _], [_], _, _ => ⟨_, rfl, rfl⟩
  cases hd2
  obtain ⟨d1, hd1, bN1⟩ := FN.binds1 (ps := ["self", "top", "bottom"]) 2 0 (List.cons_ne_nil _ _) rfl fun _ _ _ _ _ _ _ us its hu hi => match us, its, hu, hi with | [_, _], [_], _, _ => ⟨_, rfl, rfl⟩
  exact { B := B, cl := T.cl, nT := T.nT, nB := T.nB, mgC := T.mgC, ty := Y, iC := T2.iC, sf := m9,
          mkr := ⟨_, fdN, T2.mkr, GN, bN2, d1, hd1, bN1⟩,
          of_ := ⟨_, _, fdO, T2.cr, T2.cm, ok_of B T Y T2 FI FD FN FO, FO.bindsN fun _ _ _ _ _ _ us hl => match us, hl with | [_, _], _ => rfl⟩,
          under := ⟨_, fdU, He.meth_ok (fact (by simp [fas])), ok_under T FU, FU.bindsN fun _ _ _ _ _ _ us hl => match us, hl with | [_, _], _ => rfl⟩,
          eq := ⟨_, fdE, He.meth_ok (fact (by simp [fas])), ok_eq B T Y FE, FE.bindsN fun _ _ _ _ _ _ us hl => match us, hl with | [_, _], _ => rfl⟩,
          add := ⟨_, fdA, He.meth_ok (fact (by simp [fas])), ok_add B T Y T2.mkr GN bN2 FA, FA.bindsN fun _ _ _ _ _ _ us hl => match us, hl with | [_, _], _ => rfl⟩,
          sub := ⟨_, fdS, He.meth_ok (fact (by simp [fas])), ok_sub B T Y T2.mkr GN bN2 FS, FS.bindsN fun _ _ _ _ _ _ us hl => match us, hl with | [_, _], _ => rfl⟩,
          mul := ⟨_, fdM, He.meth_ok (fact (by simp [fas])), ok_mul B T Y T2.mkr GN bN2 FM, FM.bindsN fun _ _ _ _ _ _ us hl => match us, hl with | [_, _], _ => rfl⟩,
          over := ⟨_, fdV, He.meth_ok (fact (by simp [fas])), ok_over T Z T2.mkr GN bN2 FV, FV.bindsN fun _ _ _ _ _ _ us hl => match us, hl with | [_, _], _ => rfl⟩ }
/-- a name of the module -/
theorem glo_of {K : PySem.W.Frag} {h : Heap} {mg : Str → Option Value} (X : K.In h) (G : h.Ns mainGlobals mg) (c : SaysB fn ex K) {x : Str} (hx : He.Fa.glo x ∈ fas) : mg x = some (.ref (He.ga K x)) := by
  obtain ⟨m1, m2⟩ := He.ba c.more
  exact He.glo_ok X G (List.all_eq_true.mp m1 _ hx)
end BF
set_option maxHeartbeats 0
namespace BF
open PySem PySem.Spec PyProof.Rows L2
theorem facts {P : Program} {w : World} {K : PySem.W.Frag} {h : Heap} {mg : Str → Option Value} {f : Addr} (X : K.In h) (G : h.Ns mainGlobals mg) (hfa : mg ("law" : Str) = some (.ref f)) (c : SaysB fn ex K) :
    ∃ fd : FuncData, (∀ (s : Shared) (v : Value), BindsTo s fd ⟨[v], []⟩ [("_law_script", v)]) ∧ ∀ base : Heap, K.In base → base.Ns mainGlobals mg → FnOk P w K mg base CX0 9 f fd ["_law_script"] (spLaw K) := by
  have glo : ∀ {x : Str}, He.Fa.glo x ∈ fas → mg x = some (.ref (He.ga K x)) := fun h => glo_of X G c h
  obtain ⟨fd1, F1⟩ : ∃ fd, FnP K "as_pairs" "as_pairs" sAsPairs (He.ga K "as_pairs") fd := c.def_ 10
  obtain ⟨fd2, F2⟩ : ∃ fd, FnP K "between" "between" sBetween (He.ga K "between") fd := c.def_ 11
  obtain ⟨fd3, F3⟩ : ∃ fd, FnP K "inferred_move" "inferred_move" sInfMove (He.ga K "inferred_move") fd := c.def_ 12
  obtain ⟨fd4, F4⟩ : ∃ fd, FnP K "touched_around" "touched_around" sAround (He.ga K "touched_around") fd := c.def_ 13
  obtain ⟨fd5, F5⟩ : ∃ fd, FnP K "infer" "infer" sInfer (He.ga K "infer") fd := c.def_ 14
  obtain ⟨fd6, F6⟩ : ∃ fd, FnP K "_law_pen" "_law_pen" sPen (He.ga K "_law_pen") fd := c.def_ 15
  obtain ⟨fd7, F7⟩ : ∃ fd, FnP K "_law_draw" "_law_draw" sDraw (He.ga K "_law_draw") fd := c.def_ 16
  obtain ⟨fd8, F8⟩ : ∃ fd, FnP K "_law_part" "_law_part" sLPart (He.ga K "_law_part") fd := c.def_ 17
  obtain ⟨fd9, F9⟩ : ∃ fd, FnP K "_law_number" "_law_number" sLNumber (He.ga K "_law_number") fd := c.def_ 18
  obtain ⟨fd10, F10⟩ : ∃ fd, FnP K "_law_pairs" "_law_pairs" sLPairs (He.ga K "_law_pairs") fd := c.def_ 19
  obtain ⟨fd11, F11⟩ : ∃ fd, FnP K "_law_some" "_law_some" sLSome (He.ga K "_law_some") fd := c.def_ 20
  obtain ⟨fd12, F12⟩ : ∃ fd, FnP K "_law_given" "_law_given" sLGiven (He.ga K "_law_given") fd := c.def_ 21
  obtain ⟨fd13, F13⟩ : ∃ fd, FnP K "_law_handed" "_law_handed" sLHanded (He.ga K "_law_handed") fd := c.def_ 22
  obtain ⟨fd14, F14⟩ : ∃ fd, FnP K "_law_scaled" "_law_scaled" sScaled (He.ga K "_law_scaled") fd := c.def_ 23
  obtain ⟨fd15, F15⟩ : ∃ fd, FnP K "_law_around" "_law_around" sLAround (He.ga K "_law_around") fd := c.def_ 24
  obtain ⟨fd16, F16⟩ : ∃ fd, FnP K "_law_homes_right" "_law_homes_right" sHomes (He.ga K "_law_homes_right") fd := c.def_ 25
  obtain ⟨fd17, F17⟩ : ∃ fd, FnP K "_law_order_right" "_law_order_right" sOrder (He.ga K "_law_order_right") fd := c.def_ 26
  obtain ⟨fd18, F18⟩ : ∃ fd, FnP K "_law_moves_right" "_law_moves_right" sMoves (He.ga K "_law_moves_right") fd := c.def_ 27
  obtain ⟨fd, F⟩ : ∃ fd, FnP K "law" "law" sLaw (He.ga K "law") fd := c.def_ 28
  have e := hfa.symm.trans (glo (x := "law") (by simp [fas]))
  cases e
  have b := FunD.bindsA (ps := ["_law_script"]) F fun _ _ _ _ _ _ us hl => match us, hl with | [_], _ => rfl
  refine ⟨fd, fun s v => b s [v] rfl, fun base _ _ => ?_⟩
  have R : RK P w K mg base (He.ga K "Ratio") (He.ga K "InvalidRatio") (He.ga K "NoQuotient") := ratio_of X G c
  have B := R.B
  have draw : DrawC P w K mg base := ⟨_, fd7, glo (by simp [fas]), F7.kp, ok_draw B F7, F7.bindsN fun _ _ _ _ _ _ us hl => match us, hl with | [_, _], _ => rfl⟩
  have betw : Cal P w K mg base CX0 5 "between" ["place", "one", "other"] (spBetween (He.ga K "Ratio")) := ⟨_, fd2, glo (by simp [fas]), F2.kp, ok_between R F2, F2.bindsN fun _ _ _ _ _ _ us hl => match us, hl with | [_, _, _], _ => rfl⟩
  have csi : CsI P w K mg base (He.ga K "Ratio") :=
    { aspairs := ⟨_, fd1, glo (by simp [fas]), F1.kp, ok_aspairs R F1, F1.bindsN fun _ _ _ _ _ _ us hl => match us, hl with | [_], _ => rfl⟩
      move := ⟨_, fd3, glo (by simp [fas]), F3.kp, ok_infmove betw F3, F3.bindsN fun _ _ _ _ _ _ us hl => match us, hl with | [_, _, _, _], _ => rfl⟩
      around := ⟨_, fd4, glo (by simp [fas]), F4.kp, ok_around F4, F4.bindsN fun _ _ _ _ _ _ us hl => match us, hl with | [_, _], _ => rfl⟩ }
  have infer : Cal P w K mg base CX0 7 "infer" ["points", "moves"] (spInfer K (He.ga K "Ratio")) := ⟨_, fd5, glo (by simp [fas]), F5.kp, ok_infer R csi F5, F5.bindsN fun _ _ _ _ _ _ us hl => match us, hl with | [_, _], _ => rfl⟩
  have part : Cal P w K mg base CX0 1 "_law_part" ["_law_top", "_law_bottom"] spLPart := ⟨_, fd8, glo (by simp [fas]), F8.kp, ok_lpart B F8, F8.bindsN fun _ _ _ _ _ _ us hl => match us, hl with | [_, _], _ => rfl⟩
  have number : Cal P w K mg base CX0 2 "_law_number" ["_law_pen_here", "_law_style"] spLNumber := ⟨_, fd9, glo (by simp [fas]), F9.kp, ok_lnumber draw part F9, F9.bindsN fun _ _ _ _ _ _ us hl => match us, hl with | [_, _], _ => rfl⟩
  have given : Cal P w K mg base CX0 4 "_law_given" ["_law_pen_here", "_law_number_here"] (spLGiven (He.ga K "Ratio")) := ⟨_, fd12, glo (by simp [fas]), F12.kp, ok_lgiven R draw F12, F12.bindsN fun _ _ _ _ _ _ us hl => match us, hl with | [_, _], _ => rfl⟩
  have c23 : C23 P w K mg base (He.ga K "Ratio") :=
    { draw := draw, infer := infer
      scaled := ⟨_, fd14, glo (by simp [fas]), F14.kp, ok_scaled R F14, F14.bindsN fun _ _ _ _ _ _ us hl => match us, hl with | [_, _, _], _ => rfl⟩
      around := ⟨_, fd15, glo (by simp [fas]), F15.kp, ok_laround F15, F15.bindsN fun _ _ _ _ _ _ us hl => match us, hl with | [_, _, _], _ => rfl⟩ }
  have cs : L23 P w K mg base (He.ga K "Ratio") :=
    { pen := ⟨_, fd6, glo (by simp [fas]), F6.kp, ok_pen B F6, F6.bindsN fun _ _ _ _ _ _ us hl => match us, hl with | [_], _ => rfl⟩
      draw := draw
      pairs := ⟨_, fd10, glo (by simp [fas]), F10.kp, ok_lpairs B draw number F10, F10.bindsN fun _ _ _ _ _ _ us hl => match us, hl with | [_, _], _ => rfl⟩
      handed := ⟨_, fd13, glo (by simp [fas]), F13.kp, ok_lhanded given F13, F13.bindsN fun _ _ _ _ _ _ us hl => match us, hl with | [_, _], _ => rfl⟩
      some_ := ⟨_, fd11, glo (by simp [fas]), F11.kp, ok_lsome B draw F11, F11.bindsN fun _ _ _ _ _ _ us hl => match us, hl with | [_, _], _ => rfl⟩
      infer := infer
      homes := ⟨_, fd16, glo (by simp [fas]), F16.kp, ok_homes R c23 F16, F16.bindsN fun _ _ _ _ _ _ us hl => match us, hl with | [_, _, _, _], _ => rfl⟩
      order := ⟨_, fd17, glo (by simp [fas]), F17.kp, ok_order R c23 F17, F17.bindsN fun _ _ _ _ _ _ us hl => match us, hl with | [_, _, _, _], _ => rfl⟩
      moves := ⟨_, fd18, glo (by simp [fas]), F18.kp, ok_moves R c23 F18, F18.bindsN fun _ _ _ _ _ _ us hl => match us, hl with | [_, _, _, _], _ => rfl⟩ }
  exact ok_law R cs F
end BF
open PySem PySem.W PySem.Calls PyProof.Rows
theorem PySem.Challenge.cw_betweenfaces_k23_whole_moves_that_go_alo_holds : PySem.Challenge.rw_betweenfaces_k23_whole_moves_that_go_alo.Holds := by
  w_on; o_law
  refine HandSHeadRun.head_any (r := OpenLaw.row PySem.Challenge.rw_betweenfaces_k23_whole_moves_that_go_alo) (q := view (OpenLaw.row PySem.Challenge.rw_betweenfaces_k23_whole_moves_that_go_alo).prog [32]) (H := BF.hk) (ob := BF.ob) (M := 4000) (loose := BF.names) (d := HandSHeadRun.topDef (OpenLaw.row PySem.Challenge.rw_betweenfaces_k23_whole_moves_that_go_alo).prog 32) (kwd := []) BF.ob_eq
    (by kernel_rfl) (fun s => by kernel_rfl) BF.run (by kernel_rfl) (by kernel_rfl) (by kernel_rfl) (by rfl) (by first | assumption | decide +kernel) (by decide +kernel) ⟨rfl, rfl, rfl, rfl, rfl, by decide +kernel⟩ ?hw ?hc
  case hw => w_witness2
  case hc =>
    refine L2.walk_ofE (l := PySem.Challenge.rw_betweenfaces_k23_whole_moves_that_go_alo) (n := 63) (k := 9) (x := "_law_script") (CX := L2.CX0) rfl (by decide) (by kernel_rfl) ⟨rfl, by decide, by decide⟩ ?F (fun _ _ _ _ z => z)
    intro w mg fa h Y G hmg0
    obtain ⟨K, KX, c⟩ := Y
    have hmg : mg ("law" : PySem.Str) = some (.ref fa) := by
      have e : (HandSHeadRun.topDef (OpenLaw.row PySem.Challenge.rw_betweenfaces_k23_whole_moves_that_go_alo).prog 32).name = ("law" : PySem.Str) := by kernel_rfl
      rw [← e]
      exact hmg0
    obtain ⟨fd, hb, hF⟩ := BF.facts (P := (PySem.Challenge.rw_betweenfaces_k23_whole_moves_that_go_alo).prog) (w := w) KX G hmg c
    exact ⟨K, fd, BF.spLaw K, KX, hb, fun H a ns hl _ hS => ⟨a, ns, rfl, hS, fun _ => rfl⟩, hF⟩
