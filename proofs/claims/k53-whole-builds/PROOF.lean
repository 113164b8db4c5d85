import PyProof.Rows.All
import Wide.All
import OpenK.AllK
import Wide.FinOn
import HandS.ForMost
import HandS.More
import HandS.Star
import HandS.DictComp
import HandS.Defaults
import HandS.MakeKwOnly
import HandS.CallLocal
import HandS.Conv
import PySem.Challenge.RW_plinth_k53_whole_builds_in_any_order
set_option Elab.async false
set_option linter.all false
set_option maxRecDepth 100000
set_option maxHeartbeats 4000000
/-! own rules beside the hand layer -/
namespace Q3
open PySem PySem.Spec PyProof.Rows L2

section
variable {X : Cx}
/-! a dict (or list) that is locked for good where it comes -/
def tLkV (te : TE) : TE := fun σ H Q =>
  te σ H fun x H1 => ∃ d u, x = .ref d ∧ H1 d = some u ∧ Mut (some u) ∧ ∀ o, Q x (upd H1 d (.frz o u))
theorem pe_lkv {e : Expr} {te : TE} (he : PE X e te) : PE X e (tLkV te) := by
  constructor
  intro pins s σ H Q I h
  refine thn (he.run pins s σ H _ I h) ?_
  rintro v s1 ⟨x, H1, I1, r, d, u, rfl, hd, mu, q⟩
  obtain ⟨o, I2⟩ := I1.lock hd mu
  exact ⟨_, _, I2, r, q o⟩

/-! text times int -/
theorem foldl_app (x : Array Nat) : ∀ (n : Nat) (acc : Array Nat), ((List.replicate n x).foldl (· ++ ·) acc).toList = acc.toList ++ (List.replicate n x.toList).flatten
  | 0, acc => by simp
  | n + 1, acc => by
    rw [List.replicate_succ, List.foldl_cons, foldl_app x n, List.replicate_succ, List.flatten_cons, Array.toList_append, List.append_assoc]
def repS (z : Str) (n : Nat) : Str := ⟨(List.replicate n z.cps.toList).flatten.toArray⟩
theorem op_mul_si : OpR X (binaryOp .Mult) (fun x y H Q => ∃ z i, x = .str z ∧ y = .int i ∧ 0 ≤ i ∧ i < 100 ∧ z.length ≤ 100 ∧ Q (.str (repS z i.toNat)) H) := by
  intro pins s σ H x y v u Q I rx ry h
  obtain ⟨z, i, rfl, rfl, h0, h1, hz, q⟩ := h
  obtain ⟨t, rfl⟩ := rx
  obtain ⟨t', rfl⟩ := ry
  have hdiv : (9223372036854775807 : Int) / 100 ≤ 9223372036854775807 / i ∨ i = 0 := by
    by_cases e : i = 0
    · exact .inr e
    · left
      have hi : (0 : Int) < i := by omega
      have : (9223372036854775807 : Int) / 100 * i ≤ 9223372036854775807 := by
        have : (9223372036854775807 : Int) / 100 * i ≤ (9223372036854775807 : Int) / 100 * 100 := Int.mul_le_mul_of_nonneg_left (by omega) (by decide)
        omega
      exact (Int.le_ediv_iff_mul_le hi).mpr this
  have hmul : z.length * i.toNat ≤ 10000 := by
    have : z.length * i.toNat ≤ 100 * 100 := Nat.mul_le_mul hz (by omega)
    omega
  refine P.mul_str ?_ ?_ ?_ ?_
  · rw [decide_eq_false (by omega), decide_eq_false (by omega)]; rfl
  · intro a b c
    rcases hdiv with e | e
    · have e2 : (9223372036854775807 : Int) / 100 = 92233720368547758 := by decide
      rw [e2] at e
      have e3 : (2 ^ 63 - 1 : Int) = 9223372036854775807 := by decide
      rw [e3] at c
      omega
    · omega
  · intro a b
    unfold Builtin.Str.tooLong
    rw [decide_eq_false_iff_not, sizeLine_eq]
    omega
  · by_cases a : i < 1
    · rw [if_pos a]
      have e : i.toNat = 0 := by omega
      rw [e] at q
      exact ⟨by decide, ⟨.str _, H, I.tok _, ⟨_, rfl⟩, q⟩⟩
    · rw [if_neg a]
      by_cases b : (i == 1 || z.length == 0) = true
      · rw [if_pos b]
        have e : repS z i.toNat = z := by
          rw [Bool.or_eq_true, beq_iff_eq, beq_iff_eq] at b
          rcases b with b | b
          · subst b
            simp [repS]
          · have b2 : z.cps.toList = [] := List.length_eq_zero_iff.mp (by rw [Array.length_toList]; exact b)
            have b3 : z = ⟨#[]⟩ := by
              cases z with
              | mk c =>
                have : c = #[] := Array.toList_inj.mp b2
                rw [this]
            rw [b3]
            simp [repS]
        rw [e] at q
        exact ⟨.str _, H, I, ⟨_, rfl⟩, q⟩
      · rw [if_neg b]
        have e : (⟨(List.replicate i.toNat z.cps).foldl (· ++ ·) #[]⟩ : Str) = repS z i.toNat := by
          unfold repS
          congr 1
          apply Array.toList_inj.mp
          rw [foldl_app]
          simp
        refine ⟨?_, ?_⟩
        · rw [e]
          have : (repS z i.toNat).length = i.toNat * z.length := by
            simp [repS, Str.length]
          rw [this, Nat.mul_comm, sizeLine_eq]
          omega
        · rw [e]
          exact ⟨.str _, H, I.tok _, ⟨_, rfl⟩, q⟩

/-! repr of None and of a list of small ints; no repr is under way -/
def IntsSmall (ns : List Int) : Prop := ns.length ≤ 1000 ∧ ∀ n ∈ ns, -4096 ≤ n ∧ n ≤ 4096
def dInts (ns : List Int) : PyData := .list (ns.map PyData.int)
theorem dpAll_ints {K : PySem.W.Frag} {H : Hp} : ∀ ns : List Int, DpAll K H (ns.map V.int) (ns.map PyData.int)
  | [] => .nil
  | n :: ns => .cons (.int n) (dpAll_ints ns)
theorem log_small {n : Int} (h : -4096 ≤ n ∧ n ≤ 4096) : n.natAbs.log2 < 1920 := by
  have h2 : n.natAbs < 2 ^ 13 := by
    have : (2 : Nat) ^ 13 = 8192 := by decide
    omega
  by_cases e : n.natAbs = 0
  · rw [e]; decide
  · have := (Nat.log2_lt e).mpr h2
    omega
theorem show_all : ∀ ns : List Int, (∀ n ∈ ns, -4096 ≤ n ∧ n ≤ 4096) → PyData.showableAll (ns.map PyData.int) = true
  | [], _ => by simp [PyData.showableAll]
  | n :: ns, h => by
    rw [List.map_cons, PyData.showableAll, show_all ns fun m hm => h m (List.mem_cons_of_mem _ hm), PyData.showable, decide_eq_true (log_small (h n (List.mem_cons_self ..)))]
    rfl
theorem nodict_all : ∀ ns : List Int, PyData.hasDictAll (ns.map PyData.int) = false
  | [] => by simp [PyData.hasDictAll]
  | n :: ns => by
    rw [List.map_cons, PyData.hasDictAll, nodict_all ns]
    simp [PyData.hasDict]
theorem depth_all : ∀ ns : List Int, PyData.depthAll (ns.map PyData.int) = 0
  | [] => by simp [PyData.depthAll]
  | n :: ns => by
    rw [List.map_cons, PyData.depthAll, depth_all ns]
    simp [PyData.depth]
theorem bulk_all : ∀ ns : List Int, PyData.bulkAll (ns.map PyData.int) = ns.length
  | [] => by simp [PyData.bulkAll]
  | n :: ns => by
    rw [List.map_cons, PyData.bulkAll, bulk_all ns, List.length_cons]
    simp [PyData.bulk]
    omega
theorem leaves_all : ∀ ns : List Int, (∀ n ∈ ns, -4096 ≤ n ∧ n ≤ 4096) → PyData.leavesShortAll 13 (ns.map PyData.int) = true
  | [], _ => by simp [PyData.leavesShortAll]
  | n :: ns, h => by
    rw [List.map_cons, PyData.leavesShortAll, leaves_all ns fun m hm => h m (List.mem_cons_of_mem _ hm), PyData.leavesShort]
    have := h n (List.mem_cons_self ..)
    rw [decide_eq_true (PyData.shown_int_le2 (by omega) (by omega))]
    rfl
theorem shown_fits {ns : List Int} (h : IntsSmall ns) : (dInts ns).shown.length ≤ sizeLine := by
  have := PyData.shown_le_bulk 13 (by decide) (dInts ns) (by
    unfold dInts
    rw [PyData.leavesShort]
    exact leaves_all ns h.2)
  have e : (dInts ns).bulk = ns.length := by
    unfold dInts
    rw [PyData.bulk]
    exact bulk_all ns
  rw [e] at this
  have := h.1
  rw [sizeLine_eq]
  omega
def tReprO : Option (List Int) → Str
  | none => "None"
  | some ns => (dInts ns).shown
def rRepr (K : PySem.W.Frag) : List V → Hp → VK → Prop := fun xs H Q =>
  (xs = [.non] ∧ Q (.str "None") H) ∨ ∃ a ns, xs = [.ref a] ∧ SqL K H a (ns.map V.int) ∧ IntsSmall ns ∧ Q (.str (dInts ns).shown) H
theorem call_repr (hg : X.A.guards = some []) (hu : X.A.units + 64 < cLine) : CallR X (.builtin "repr") (rRepr X.K) := by
  intro pins s σ H xs us Q I r h
  rcases h with ⟨rfl, q⟩ | ⟨a, ns, rfl, hs, sm, q⟩
  · obtain ⟨u, rfl, rv⟩ := vals1 r
    cases (show u = Value.none from rv)
    exact P.repr_of_none ⟨.str _, H, I.tok _, ⟨_, rfl⟩, q⟩
  · obtain ⟨u, rfl, rv⟩ := vals1 r
    cases (show u = Value.ref a from rv)
    obtain ⟨as, rd⟩ := Dp.reads I (dInts ns) (.ref a) (.ref a) (.lst hs (dpAll_ints ns)) rfl
    refine repr_of_reads' rd ?_ ?_ hg ?_ (fun _ _ e => e) (fun h' u tk hk => ?_) (shown_fits sm)
    · unfold dInts
      rw [PyData.showable]
      exact show_all ns sm.2
    · unfold dInts
      rw [PyData.hasDict, nodict_all]
      intro z
      cases z
    · unfold dInts
      rw [PyData.depth, depth_all]
      omega
    · exact ⟨.str _, H, I.kept hk, ⟨_, rfl⟩, q⟩
end

/-! a def that is only called where no repr is under way -/
structure FnG (P : Program) (w : World) (K : PySem.W.Frag) (mg : Str → Option Value) (base : Heap) (k : Nat) (f : Addr) (fd : FuncData) (ps : List Str) (sp : Sp) : Prop where
  len : ∀ vs H Q E, sp vs H Q E → vs.length = ps.length
  go : ∀ (A : Around) (outer : List Env) (s : Shared) (H : Hp) (args : Args) (us : List Value) (vs : List V) (Q : VK) (E : XK), A.guards = some [] → Room k A →
    Env0 P w K mg base A outer s H → BindsTo s fd args (ps.zip us) → Vals vs us → sp vs H Q E → codeAny (model P w) A (.call (.ref f) args) (CR CX0 outer P w H s Q E) s
section
variable {P : Program} {w : World} {K : PySem.W.Frag} {mg : Str → Option Value} {base : Heap}
theorem Fun.okG {x qual : Str} {st : Stmt} {f : Addr} {fd : FuncData} {N ps : List Str} {k : Nat} {sp : Sp} (F : Fun K x qual st f fd) (S : FnScope N ps (defScope st))
    (len : ∀ vs H Q E, sp vs H Q E → vs.length = ps.length)
    (hb : ∀ (cdv : Value) (A : Around) (outer : List Env) (s : Shared) (H : Hp) (vs : List V) (Q : VK) (E : XK), A.guards = some [] →
      Room k (A.deeper (envOfC qual (defScope st) s.heap.objs.size f cdv)) → sp vs H Q E →
      ∃ t, PSs (cxOf CX0 P w K mg base N qual (defScope st) f cdv A outer s H E).nox (defBody st) t ∧ t { nx := fun _ H' => Q .non H', rt := Q } (start N vs) H) :
    FnG P w K mg base (k + 1) f fd ps sp := by
  obtain ⟨oc, od, kV, doc, pm, an, cdv, ct, osl, rfl, lk, hcd⟩ := F.ex
  refine ⟨len, fun A outer s H args us vs Q E hg hr e0 bt r hsp => ?_⟩
  have lv := len _ _ _ _ hsp
  have old : ∀ b o, base.get? b = some o → s.heap.get? b = some o := fun b o e => (e0.bs b o e).1
  have KX : K.In s.heap := e0.mod.kin.keeps old
  refine codeAny_call_function hr.depth (KX _ _ lk) rfl S.co S.gen rfl (PySem.W.codeRec_of KX hcd) (bt _ _ _ _ ?_)
  refine wpAny_newFunctionEnv_cells S.kind ?_ ?_
  · rintro ⟨n, v⟩ hy
    rcases S.par n (List.of_mem_zip hy).1 with q | q
    · exact .inl q
    · exact .inr ⟨q, PySem.W.cellsFrom_some _ _ _ (.inl q)⟩
  · intro env he s1 x
    subst he
    refine ⟨(e0.mod.nolimit.keeps old).keeps x.toInCall.keep, codeAny_func ?_⟩
    obtain ⟨t, ht, hq⟩ := hb cdv A outer s H vs Q E hg (hr.deeper _) hsp
    have I := inv_start (CX := CX0) (E := E) (qual := qual) (f := f) (cd := cdv) S hr.hd e0 lv r x
    refine wpAny_mono (ht.nox.run [] s1 (start N vs) H _ I hq) ?_ (fun e s' hs => hs)
    intro fl s' hs
    cases fl with
    | ret u =>
      obtain ⟨v, σ', H', J, rv, q⟩ := hs
      exact ⟨v, H', J.os, J.bare, J.base, J.hok, rv, q⟩
    | next =>
      obtain ⟨σ', H', J, q⟩ := hs
      exact ⟨V.non, H', J.os, J.bare, J.base, J.hok, rfl, q⟩
    | brk =>
      obtain ⟨_, _, _, q⟩ := hs
      exact q.elim
    | cont =>
      obtain ⟨_, _, _, q⟩ := hs
      exact q.elim
end
section
variable {X : Cx} {k : Nat} {f : Addr} {fd : FuncData} {ps : List Str} {sp : Sp}
theorem run_fnG {pins : List (Addr × Obj)} {σ : L2.St} {H : Hp} {s : Shared} {Q : VK} {us : List Value} {vs : List V} (F : FnG X.prog X.w X.K X.mg X.base k f fd ps sp) (hg : X.A.guards = some []) (hr : Room k X.A)
    (hb : Binds X.K fd ps []) (I : Inv X pins σ H s) (r : Vals vs us) (h : sp vs H Q E0) : wpAny (model X.prog X.w) X.A (call (.ref f) us) (EP X pins σ Q) X.xe s := by
  have hl : (us ++ []).length = ps.length := by rw [List.append_nil, ← r.length]; exact F.len _ _ _ _ h
  have bt := hb s us I.kIn hl
  rw [List.append_nil] at bt
  refine wpAny_call (codeAny_mono (F.go X.A X.stack s H ⟨us, []⟩ us vs Q E0 hg hr I.env0 bt r h) ?_)
  intro res s' hq
  match res, hq with
  | .error _, hq => exact hq.elim
  | .ok (.ret u), hq => exact I.after hq
theorem pe_callG {x : Str} {p pos : Pos} {e : Expr} {es : List Expr} {t : TA} (F : FnG X.prog X.w X.K X.mg X.base k f fd ps sp) (hgd : X.A.guards = some []) (hr : Room k X.A) (hg : Gl X x) (hm : X.mg x = some (.ref f))
    (hk : PySem.W.keepIn X.K (.ref f) = true) (hb : Binds X.K fd ps []) (ha : PA X (e :: es) t) (hdb : (x == ("__debug__" : Str)) = false := by decide)
    (he : starEach (e :: es) X.env = (false, eval e X.env) :: starEach es X.env := by rfl) (hpl : (backTo pos (starEach es X.env)).any (·.1) = false := by rfl) :
    PE X (.Call (.Name x p) (e :: es) [] pos) (fun σ H Q => t σ H fun vs H1 => sp vs H1 Q E0) := by
  constructor
  intro pins s σ H Q I h
  refine wpAny_Call_Name_kw (ld_glob I hg hm ?_ hdb)
  refine PySem.W.callWith_K (h₀ := X.base) I.ok.mod.kin hk (thn (ha.run pos pins s σ H _ I h) ?_) he hpl
  rintro us s1 ⟨vs, H1, I1, r, q⟩
  exact ⟨I1.kIn, run_fnG F hgd hr hb I1 r q⟩
end

/-! the law's head, where the law's def is only good without a repr under way (turned from the layer's own head) -/
section
variable {P : Program} {w : World} {K : PySem.W.Frag} {mg mb : Str → Option Value} {k : Nat} {fa a : Addr} {fd : FuncData} {x : Str} {sp : Sp} {s₁ : Shared} {vs : List Value} {ns : List Int}
/-- at most the script's list is tracked, locked -/
structure Scr (s : Shared) (a : Addr) (o : Obj) (us : List V) (H : Hp) : Prop where
  only : ∀ b, H b ≠ none → b = a
  what : ∀ b u, H b = some u → u = .frz o (.lst us)
  ok : HOk P w H s.heap
theorem law_coreG (H : Hp) (S : Scr (P := P) (w := w) s₁ a { cls := .type "list", data := .seq vs.toArray } (ns.map V.int) H)
    (KX : K.In s₁.heap) (hns : s₁.heap.Ns mainGlobals mg) (hb : s₁.heap.Ns builtinsNs mb) (hbb : ∀ x : Str, x ≠ "__name__" → mb x = bootBuiltins x) (hlim : s₁.heap.NoLimit) (hg : s₁.gens = #[])
    (ha : s₁.heap.get? a = some { cls := .type "list", data := .seq vs.toArray }) (hK : H a ≠ none → K.lookup a = none) (hr : Room k callerA)
    (F : ∀ base : Heap, K.In base → base.Ns mainGlobals mg → FnG P w K mg base k fa fd [x] sp) (hbind : ∀ (s : Shared) (u : Value), BindsTo s fd ⟨[u], []⟩ [(x, u)])
    (hsp : sp [.ref a] H (fun v _ => v = .bl true) E0) :
    codeAny (model P w) callerA (.call (.ref fa) ⟨[.ref a], []⟩) (fun r s' => r = .ok (.ret (.bool true)) ∧ OldK s₁.heap s'.heap ∧ s'.os = s₁.os ∧ AllBare s'.gens) s₁ := by
  have free : ∀ {b : Addr}, b ≠ a → H b = none := fun {b} hb => by
    cases q : H b with
    | none => rfl
    | some u => exact absurd (S.only b (by rw [q]; exact Option.some_ne_none u)) hb
  have atA : ∀ {b : Addr} {o : Obj} {es : Array DictEntry} {ep : Nat}, s₁.heap.get? b = some o → o.data = .dict es ep → b ≠ a := fun {b o es ep} e d z => by
    rw [z, ha] at e
    cases e
    exact Data.noConfusion d
  have below : ∀ {b : Addr} {o : Obj}, s₁.heap.get? b = some o → H b = none → (hidT s₁.heap H).get? b = some o := fun e n => hidT_get e n
  have ns_below : ∀ {b : Addr} {m : Str → Option Value}, s₁.heap.Ns b m → (hidT s₁.heap H).Ns b m := by
    rintro b m ⟨o, es, ep, e, d, r⟩
    exact ⟨o, es, ep, below e (free (atA e d)), d, r⟩
  have kin : K.In (hidT s₁.heap H) := fun b o e => by
    by_cases hb : b = a
    · cases q : H a with
      | none => exact below (KX b o e) (by rw [hb]; exact q)
      | some u =>
        have := hK (by rw [q]; exact Option.some_ne_none u)
        rw [hb, this] at e
        cases e
    · exact below (KX b o e) (free hb)
  obtain ⟨mc, l1, l2⟩ := hlim
  have md : Mod K mg (hidT s₁.heap H) := ⟨kin, ns_below hns, ⟨mb, ns_below hb, hbb⟩, ⟨mc, ns_below l1, l2⟩⟩
  have e0 : Env0 P w K mg (hidT s₁.heap H) callerA [] s₁ H :=
    ⟨rfl, md, fun b o e => of_hidT e, Nat.le_of_eq (hidT_size _ _), trivial, fun b hb => (List.not_mem_nil hb).elim, S.ok, .of_eq hg⟩
  refine codeAny_mono ((F _ kin (ns_below hns)).go callerA [] s₁ H ⟨[.ref a], []⟩ [.ref a] [.ref a] _ E0 rfl hr e0 (hbind s₁ (.ref a)) (.cons rfl .nil) hsp) ?_
  intro r s' h
  match r, h with
  | .error _, h => exact h.elim
  | .ok (.ret u), ⟨v, H', os, bare, un, ok', r', q⟩ =>
    cases (show v = .bl true from q)
    cases (show u = Value.bool true from r')
    refine ⟨rfl, OldK.of_keep fun b o e => ?_, os, bare⟩
    cases q : H b with
    | none => exact un.keep b o e q (fun z => (List.not_mem_nil z).elim) (List.not_mem_nil)
    | some z =>
      cases S.what b z q
      have e1 := (S.ok b _ q).1
      have e2 := (ok' b _ (un.frzs b _ _ q)).1
      rw [e] at e1
      cases e1
      exact e2
theorem law_callG (KX : K.In s₁.heap) (hns : s₁.heap.Ns mainGlobals mg) (hb : s₁.heap.Ns builtinsNs mb) (hbb : ∀ x : Str, x ≠ "__name__" → mb x = bootBuiltins x) (hlim : s₁.heap.NoLimit) (hg : s₁.gens = #[])
    (ha : s₁.heap.get? a = some { cls := .type "list", data := .seq vs.toArray }) (hi : IntsAre vs ns) (hl : ns.length ≤ sizeLine) (hr : Room k callerA)
    (F : ∀ base : Heap, K.In base → base.Ns mainGlobals mg → FnG P w K mg base k fa fd [x] sp) (hbind : ∀ (s : Shared) (u : Value), BindsTo s fd ⟨[u], []⟩ [(x, u)])
    (hsp : ∀ H : Hp, SqL K H a (ns.map V.int) → sp [.ref a] H (fun v _ => v = .bl true) E0) :
    codeAny (model P w) callerA (.call (.ref fa) ⟨[.ref a], []⟩) (fun r s' => r = .ok (.ret (.bool true)) ∧ OldK s₁.heap s'.heap ∧ s'.os = s₁.os ∧ AllBare s'.gens) s₁ := by
  have rv := vals_ints hi
  have lenV := hi.length
  cases hk : K.lookup a with
  | some o =>
    have e := KX a o hk
    rw [ha] at e
    cases e
    refine law_coreG (ns := ns) (fun _ => none) ⟨fun b z => absurd rfl z, fun b u z => (by cases z), fun b u z => (by cases z)⟩ KX hns hb hbb hlim hg ha (fun z => absurd rfl z) hr F hbind (hsp _ (.inr ⟨_, vs.toArray, _, hk, rfl, rfl, rfl, ?_, ?_⟩))
    · rw [List.size_toArray, lenV]; exact hl
    · simpa using rv
  | none =>
    refine law_coreG (ns := ns) (upd (fun _ => none) a (.frz { cls := .type "list", data := .seq vs.toArray } (.lst (ns.map V.int)))) ⟨fun b z => ?_, fun b u z => ?_, fun b u z => ?_⟩ KX hns hb hbb hlim hg ha (fun _ => hk) hr F hbind
      (hsp _ (.inl (.inr ⟨_, upd_same⟩)))
    · by_cases e : b = a
      · exact e
      · rw [upd_ne e] at z; exact absurd rfl z
    · by_cases e : b = a
      · subst e; rw [upd_same] at z; exact (Option.some.inj z).symm
      · rw [upd_ne e] at z; cases z
    · by_cases e : b = a
      · subst e; rw [upd_same] at z; cases z
        exact ⟨ha, by rw [List.length_map]; exact hl, vs, _, rv, ha⟩
      · rw [upd_ne e] at z; cases z
end
theorem walk_ofG {l : PySem.W.OpenLaw} {n k : Nat} {q : Program} {loose : List Str} {XP : (Str → Option Value) → Heap → Prop} {YP : World → Heap → Prop} {d : DefRec} {K : Params → PySem.W.Frag} {sp : PySem.W.Frag → Sp} {x : Str}
    (hn : l.most = some n) (hn2 : n ≤ sizeLine) (hdf : d.params.defaults = []) (hr : Room k callerA)
    (hY : ∀ (w : World) (h : Heap), YP w h → (K w.params).In h)
    (F : ∀ (w : World) (mg : Str → Option Value) (fa : Addr) (h : Heap), (K w.params).In h → h.Ns mainGlobals mg → mg d.name = some (.ref fa) →
      ∃ fd : FuncData, (∀ (s : Shared) (u : Value), BindsTo s fd ⟨[u], []⟩ [(x, u)]) ∧
        ∀ base : Heap, (K w.params).In base → base.Ns mainGlobals mg → FnG l.prog w (K w.params) mg base k fa fd [x] (sp (K w.params)))
    (hsp : ∀ (K : PySem.W.Frag) (H : Hp) (a : Addr) (ns : List Int), ns.length ≤ n → SqL K H a (ns.map V.int) → sp K [.ref a] H (fun v _ => v = .bl true) E0) :
    PySem.W.WalkO q loose XP YP l.row.toRowW d [] (fun f vs => PySem.call f vs) := by
  refine Att.attach_call hn hdf ?_
  intro w s₀ s₁ mg mb fa o pm cd doc a vs ns G Y ho hd hcd hmg hobj hints hlen hg
  have KX := hY w _ Y
  obtain ⟨fd, hb, hF⟩ := F w mg fa _ KX G.T.g hmg
  exact law_callG KX G.T.g G.T.b G.T.builtins G.T.nolimit hg hobj hints (Nat.le_trans hlen hn2) hr hF hb fun H hS => hsp _ H a ns hlen hS

/-! keywords -/
theorem Fun.kb {K : PySem.W.Frag} {x qual : Str} {st : Stmt} {f : Addr} {fd : FuncData} {ps : List Str} (F : Fun K x qual st f fd) (n : Nat) (ks : List Str)
    (h : ∀ (kV doc pm : Value) (an : Option Addr) (cdv ct : Value) (us ws : List Value), us.length = n → ws.length = ks.length →
      bindArgs (PySem.W.fnOf x qual (defArgs st) (defBody st) (defScope st) .none kV doc pm an cdv ct) ⟨us, ks.zip ws⟩ = pure (ps.zip (us ++ ws))) :
    KBn K fd ps n ks (fun us ws => us ++ ws) (fun vs zs => vs ++ zs) := by
  obtain ⟨oc, od, kV, doc, pm, an, cdv, ct, osl, rfl, lk, hcd⟩ := F.ex
  exact ⟨fun s us ws X l1 l2 => .of_eq (h kV doc pm an cdv ct us ws l1 l2), fun r1 r2 => r1.append r2⟩
section
variable {X : Cx} {CX : CXT} {k n : Nat} {f C : Addr} {fd : FuncData} {ps ks : List Str} {sp : Sp} {E : XK} {m : Str} {apos pos : Pos} {o : Expr} {kws : List Keyword} {ta : TE} {tk : TA}
  {g : List Value → List Value → List Value} {gV : List V → List V → List V}
/-- o.m(k = v, ..) -/
def tMethK0 (C : Addr) (m : Str) (n : Nat) (sp : Sp) (gV : List V → List V → List V) (E : XK) (ta : TE) (tk : TA) : TE := fun σ H Q =>
  ta σ H fun x H1 => ∃ a dx fs, x = .ref a ∧ H1 a = some (.ins C dx fs) ∧ fs.lookup m = none ∧ tk σ H1 fun zs H2 => zs.length = n ∧ sp (gV [x] zs) H2 Q E
theorem pe_methK0 {pl : Sem Bool} (he : PE X o ta) (c : Cls X.K C) (hm : Meth X.K C m f) (F : FnOk X.prog X.w X.K X.mg X.base CX k f fd ps sp) (hr : Room k X.A) (hb : KBn X.K fd ps 1 ks g gV) (hx : Passes CX X E) (hkw : PK X kws tk)
    (hall : (backToKw pos (keywordEach kws X.env)).all (·.1.isSome) = true := by rfl) (hks : (backToKw pos (keywordEach kws X.env)).filterMap (·.1) = ks := by rfl)
    (hpl : ((backTo pos (starEach [] X.env)).any (·.1) || (backToKw pos (keywordEach kws X.env)).any (·.1.isNone)) = false := by rfl)
    (ht : eval (.Call (.Attribute o m apos) [] kws pos) X.env = (do
      let ov ← eval o X.env
      standAt apos.atName
      let (f, first) ← holding [ov] (getMethod ov m pl)
      callWith pos f first (backTo pos (starEach [] X.env)) (backToKw pos (keywordEach kws X.env))) := by rfl) :
    PE X (.Call (.Attribute o m apos) [] kws pos) (tMethK0 C m ks.length sp gV E ta tk) := by
  constructor
  intro pins s σ H Q I h
  refine PySem.W.methodCall_KW (pl := pl) (thn (he.run pins s σ H _ I h) ?_) ht
  rintro u s1 ⟨x, H1, I1, rx, a, dx, fs, rfl, ea, l, q⟩
  cases (show u = Value.ref a from rx)
  refine getmeth_ok I1 ea c hm l ?_
  refine PySem.W.callWith_KW0 (first := [.ref a]) (h₀ := X.base) I.ok.mod.kin hm.kp hall ?_ hpl
  refine thn (hkw.run pos pins s1 σ H1 _ I1 q) ?_
  rintro ws s2 ⟨zs, H2, I2, rz, l2, q2⟩
  refine ⟨I2.kIn, ?_⟩
  rw [hks]
  have r1 : Vals [V.ref a] ([Value.ref a] ++ []) := .cons rfl .nil
  exact run_fnN F hr hb hx I2 r1 rz rfl l2 q2
end

/-! a dict of the written part whose keys are ints and whose values are defs -/
structure KTab (K : PySem.W.Frag) (a : Addr) (fs : List (Int × Addr)) : Prop where
  ex : ∃ es n, K.lookup a = some ⟨.type "dict", none, .dict es n, #[]⟩ ∧ Paired (fun (q : Int × Addr) (e : DictEntry) => (∃ t, e.key = .int q.1 t) ∧ e.hash = hashInt q.1 ∧ e.val = .ref q.2) fs es.toList
  low : (a == sysModules) = false
theorem tab_find : ∀ {fs : List (Int × Addr)} {l : List DictEntry} (o : Int), Paired (fun (q : Int × Addr) (e : DictEntry) => (∃ t, e.key = .int q.1 t) ∧ e.hash = hashInt q.1 ∧ e.val = .ref q.2) fs l →
    (l.find? fun e => Value.isInt o e.key).map (·.val) = (fs.lookup o).map Value.ref
  | _, _, o, .nil => rfl
  | (k, f) :: fs, e :: l, o, .cons h t => by
    obtain ⟨⟨tk, e1⟩, _, e3⟩ := h
    rw [List.find?_cons, List.lookup_cons, e1]
    by_cases q : o = k
    · subst q
      have : Value.isInt o (.int o tk) = true := by simp [Value.isInt]
      rw [this]
      simp [e3]
    · have h1 : Value.isInt o (.int k tk) = false := by
        simp only [Value.isInt]
        first
          | exact beq_eq_false_iff_ne.mpr q
          | exact beq_eq_false_iff_ne.mpr (Ne.symm q)
          | simp [q]
          | simp [Ne.symm q]
      have h2 : (o == k) = false := beq_eq_false_iff_ne.mpr q
      rw [h1, h2]
      exact tab_find o t
theorem tab_map {K : PySem.W.Frag} {prog : Program} {w : World} {h : Heap} {a : Addr} {fs : List (Int × Addr)} (X : K.In h) (T : KTab K a fs) : h.MapOf (intKind prog w) a (fun k => (fs.lookup k).map Value.ref) := by
  obtain ⟨es, n, hl, hp⟩ := T.ex
  refine ⟨_, es, n, X _ _ hl, ⟨rfl, rfl, rfl⟩, rfl, fun e he => ?_, fun k => ?_⟩
  · have : ∀ {fs : List (Int × Addr)} {l : List DictEntry}, Paired (fun (q : Int × Addr) (e : DictEntry) => (∃ t, e.key = .int q.1 t) ∧ e.hash = hashInt q.1 ∧ e.val = .ref q.2) fs l → ∀ e ∈ l, ∃ k, Value.isInt k e.key = true ∧ e.hash = hashInt k := by
      intro fs l r
      induction r with
      | nil => intro e he; cases he
      | cons h _ ih =>
        intro e he
        rcases List.mem_cons.mp he with q | q
        · subst q
          obtain ⟨⟨t, e1⟩, e2, _⟩ := h
          exact ⟨_, by rw [e1]; simp [Value.isInt], e2⟩
        · exact ih e q
    exact this hp e (Array.mem_toList_iff.mpr he)
  · unfold findBy
    obtain ⟨l⟩ := es
    rw [List.find?_toArray]
    exact tab_find k hp
section
variable {X : Cx}
theorem op_in_kt {a : Addr} {fs : List (Int × Addr)} (T : KTab X.K a fs) : OpR X (compareOp .In) (fun x y H Q => ∃ o, x = .int o ∧ y = .ref a ∧ Q (.bl (fs.lookup o).isSome) H) := by
  intro pins s σ H x y v u Q I rx ry h
  obtain ⟨o, rfl, rfl, q⟩ := h
  obtain ⟨t, rfl⟩ := rx
  cases (show u = Value.ref a from ry)
  refine wpAny_in_of (k := o) (by show Value.isInt o (.int o t) = true; simp [Value.isInt]) T.low (tab_map (prog := X.prog) (w := X.w) I.kIn T) ?_
  refine ⟨.bl _, H, I.tok _, rfl, ?_⟩
  rw [Option.isSome_map]
  exact q
theorem ix_kt {a : Addr} {fs : List (Int × Addr)} (T : KTab X.K a fs) : IxR X (fun x y H Q => ∃ o f, x = .ref a ∧ y = .int o ∧ fs.lookup o = some f ∧ Q (.ref f) H) := by
  intro value slice pins s σ H x y v u Q I rx ry h hs
  obtain ⟨o, f, rfl, rfl, e, q⟩ := h
  cases (show v = Value.ref a from rx)
  obtain ⟨t, rfl⟩ := ry
  have hm := tab_map (prog := X.prog) (w := X.w) I.kIn T
  refine tail_any hm.typeIs slot_dict_getitem.lookup (wpAny_getItem_of (k := o) (v := .ref f) (by show Value.isInt o (.int o t) = true; simp [Value.isInt]) hm (by rw [e]; rfl) ?_) hs
  exact ⟨.ref f, H, I.tok _, rfl, q⟩
/-- a call of a name that holds some def -/
def tCallH (X : Cx) (k : Nat) (i : Nat) (t : TA) : TE := fun σ H Q => ∃ f sp, σ[i]? = some (some (.ref f)) ∧ Held X.prog X.w X.K X.mg X.base k f sp ∧ t σ H fun vs H1 => sp vs H1 Q E0
theorem pe_callH {k i : Nat} {x : Str} {p pos : Pos} {e : Expr} {es : List Expr} {t : TA} (hr : Room k X.A) (hN : X.N[i]? = some x) (hv : Vis X.env.scope x) (ha : PA X (e :: es) t)
    (hdb : (x == ("__debug__" : Str)) = false := by decide) (hcd : (x == ("__classdict__" : Str)) = false := by decide)
    (he : starEach (e :: es) X.env = (false, eval e X.env) :: starEach es X.env := by rfl) (hpl : (backTo pos (starEach es X.env)).any (·.1) = false := by rfl) : PE X (.Call (.Name x p) (e :: es) [] pos) (tCallH X k i t) := by
  constructor
  intro pins s σ H Q I h
  obtain ⟨f, sp, hs, hH, ht⟩ := h
  obtain ⟨fd, ps, F, hk, hb⟩ := hH.ex
  have := (pe_callL (i := i) (f := f) (sp := sp) (dvs := []) (E := E0) (p := p) (pos := pos) F hr hN hv hk hb .nil (fun _ _ _ _ _ _ _ z => z.elim) ha hdb hcd he hpl).run pins s σ H Q I
  refine this ⟨hs, ?_⟩
  have e0 : (fun (vs : List V) (H1 : Hp) => sp (vs ++ []) H1 Q E0) = fun vs H1 => sp vs H1 Q E0 := by
    funext vs H1
    rw [List.append_nil]
  rw [e0]
  exact ht
end
/-- a comprehension over a range with a step -/
theorem lc_rangeC {lo c : Int} {n : Nat} {g : TG} {tt : TT} {te : TE} {vs : List Nat} {σ : L2.St} {H1 : Hp} {D : Addr} {Qd : Hp → Prop} (Pv : Nat → Hp → Prop) (h0 : Pv 0 (upd H1 D (.lst [])))
    (hs : ∀ i H, i < n → Pv i H → g (.int (lo + (i : Nat) * c)) (wipe σ vs) H fun σ2 H2 => wipe σ2 vs = wipe σ vs ∧ tt σ2 H2 fun b H3 =>
      if b = true then te σ2 H3 fun y H4 => ∃ acc, H4 D = some (.lst acc) ∧ acc.length < sizeLine ∧ Pv (i + 1) (upd H4 D (.lst (acc ++ [y]))) else Pv (i + 1) H3) (hd : ∀ H, Pv n H → Qd H) :
    ∃ W : Nat → Nat → Hp → Prop, (∃ m, W 0 m (upd H1 D (.lst []))) ∧ ∀ i m H, W i m H →
      ((Itc lo c n).stop i H ∧ Qd H) ∨ ((Itc lo c n).go i H ∧ ∃ Nx : Hp → Prop, (∀ H', Nx H' → ∃ m', m' < m ∧ W (i + 1) m' H') ∧ ∀ x H', (Itc lo c n).yld i H x H' → g x (wipe σ vs) H' fun σ2 H2 =>
        wipe σ2 vs = wipe σ vs ∧ tt σ2 H2 fun b H3 =>
        if b = true then te σ2 H3 fun y H4 => ∃ acc, H4 D = some (.lst acc) ∧ acc.length < sizeLine ∧ Nx (upd H4 D (.lst (acc ++ [y]))) else Nx H3) := by
  refine ⟨fun i m H => m + i = n ∧ Pv i H, ⟨n, rfl, h0⟩, ?_⟩
  rintro i m H ⟨em, p⟩
  by_cases hlt : i < n
  · refine .inr ⟨hlt, Pv (i + 1), fun H' p' => ⟨m - 1, by omega, by omega, p'⟩, ?_⟩
    rintro x H' ⟨rfl, rfl⟩
    exact hs i _ hlt p
  · have e : i = n := by omega
    subst e
    exact .inl ⟨Nat.le_refl _, hd H p⟩

/-! rules with the written part named (in a comprehension's block) -/
def rLenK (K : PySem.W.Frag) : List V → Hp → VK → Prop := fun xs H Q => ∃ p ys, xs = [.ref p] ∧ (SqL K H p ys ∨ SqT K H p ys) ∧ Q (.int ys.length) H
def rTupK (K : PySem.W.Frag) : List V → Hp → VK → Prop := fun xs H Q => ∃ p ys, xs = [.ref p] ∧ ((SqL K H p ys ∧ ∀ l, H l = none → Q (.ref l) (upd H l (.tup ys))) ∨ (SqT K H p ys ∧ Q (.ref p) H))
def rLstK (K : PySem.W.Frag) : List V → Hp → VK → Prop := fun xs H Q => ∃ p ys, xs = [.ref p] ∧ (SqL K H p ys ∨ SqT K H p ys) ∧ ∀ l, H l = none → Q (.ref l) (upd H l (.lst ys))
section
variable {X : Cx} {K : PySem.W.Frag}
theorem call_lenK (e : X.K = K := by rfl) : CallR X (.builtin "len") (rLenK K) := by subst e; exact call_len_seq
theorem call_tupleK (e : X.K = K := by rfl) : CallR X (.type "tuple") (rTupK K) := by subst e; exact call_tuple_of
theorem call_listK (e : X.K = K := by rfl) : CallR X (.type "list") (rLstK K) := by subst e; exact call_list_of
theorem sl_listK (e : X.K = K := by rfl) : SlR X (rSlL K) := by subst e; exact sl_list
theorem ix_listK (e : X.K = K := by rfl) : IxR X (rIxL K) := by subst e; exact ix_list
theorem ix_tupK (e : X.K = K := by rfl) : IxR X (rIxT K) := by subst e; exact ix_tup
theorem op_in_seqK (e : X.K = K := by rfl) : OpR X (compareOp .In) (rIn K false) := by subst e; exact op_in_seq
theorem op_notIn_seqK (e : X.K = K := by rfl) : OpR X (compareOp .NotIn) (rIn K true) := by subst e; exact op_notIn_seq
theorem pe_fldK {o : Expr} {f : Str} {pos : Pos} {ta : TE} (he : PE X o ta) (hb : attributeBase o f X.env (eval o X.env) = eval o X.env) (e : X.K = K := by rfl) : PE X (.Attribute o f pos) (tFld K ta f) := by subst e; exact pe_fld he hb
end

/-! walks over the keys of a locked dict -/
section
variable {d : Addr} {o : Obj} {kvs : List (Key × V)}
theorem for_keys {g : TG} {tb : TS} {D : Ends} {σ : L2.St} {H : Hp} (Pv : Nat → L2.St → Hp → Prop) (h0 : Pv 0 σ H) (hl : ∀ i σ H, i ≤ kvs.length → Pv i σ H → H d = some (.frz o (.dK kvs)))
    (hs : ∀ i k v σ H, kvs[i]? = some (k, v) → Pv i σ H → g (kV k) σ H fun σ2 H2 => tb { D with nx := Pv (i + 1), ct := Pv (i + 1), bk := D.nx } σ2 H2) (hd : ∀ σ H, Pv kvs.length σ H → D.nx σ H) :
    ∃ W : Nat → Nat → L2.St → Hp → Prop, (∃ m, W 0 m σ H) ∧ ∀ i m σ H, W i m σ H →
      ((Itk d o kvs).stop i H ∧ D.nx σ H) ∨ ((Itk d o kvs).go i H ∧ ∃ N : L2.St → Hp → Prop, (∀ σ' H', N σ' H' → ∃ m', m' < m ∧ W (i + 1) m' σ' H') ∧ ∀ x H', (Itk d o kvs).yld i H x H' → g x σ H' fun σ2 H2 => tb { D with nx := N, ct := N, bk := D.nx } σ2 H2) := by
  refine ⟨fun i m σ H => m + i = kvs.length ∧ Pv i σ H, ⟨kvs.length, rfl, h0⟩, ?_⟩
  rintro i m σ H ⟨em, p⟩
  have q := hl i σ H (by omega) p
  by_cases hlt : i < kvs.length
  · refine .inr ⟨⟨q, hlt⟩, Pv (i + 1), fun σ' H' p' => ⟨m - 1, by omega, by omega, p'⟩, ?_⟩
    rintro x H' ⟨rfl, k, v, e, rfl⟩
    exact hs i k v σ _ e p
  · have e : i = kvs.length := by omega
    subst e
    exact .inl ⟨⟨q, Nat.le_refl _⟩, hd σ H p⟩
theorem lc_keys {g : TG} {tt : TT} {te : TE} {vs : List Nat} {σ : L2.St} {H1 : Hp} {D : Addr} {Qd : Hp → Prop} (Pv : Nat → Hp → Prop) (h0 : Pv 0 (upd H1 D (.lst []))) (hl : ∀ i H, i ≤ kvs.length → Pv i H → H d = some (.frz o (.dK kvs)))
    (hs : ∀ i k v H, kvs[i]? = some (k, v) → Pv i H → g (kV k) (wipe σ vs) H fun σ2 H2 => wipe σ2 vs = wipe σ vs ∧ tt σ2 H2 fun b H3 =>
      if b = true then te σ2 H3 fun y H4 => ∃ acc, H4 D = some (.lst acc) ∧ acc.length < sizeLine ∧ Pv (i + 1) (upd H4 D (.lst (acc ++ [y]))) else Pv (i + 1) H3) (hd : ∀ H, Pv kvs.length H → Qd H) :
    ∃ W : Nat → Nat → Hp → Prop, (∃ m, W 0 m (upd H1 D (.lst []))) ∧ ∀ i m H, W i m H →
      ((Itk d o kvs).stop i H ∧ Qd H) ∨ ((Itk d o kvs).go i H ∧ ∃ Nx : Hp → Prop, (∀ H', Nx H' → ∃ m', m' < m ∧ W (i + 1) m' H') ∧ ∀ x H', (Itk d o kvs).yld i H x H' → g x (wipe σ vs) H' fun σ2 H2 =>
        wipe σ2 vs = wipe σ vs ∧ tt σ2 H2 fun b H3 =>
        if b = true then te σ2 H3 fun y H4 => ∃ acc, H4 D = some (.lst acc) ∧ acc.length < sizeLine ∧ Nx (upd H4 D (.lst (acc ++ [y]))) else Nx H3) := by
  refine ⟨fun i m H => m + i = kvs.length ∧ Pv i H, ⟨kvs.length, rfl, h0⟩, ?_⟩
  rintro i m H ⟨em, p⟩
  have q := hl i H (by omega) p
  by_cases hlt : i < kvs.length
  · refine .inr ⟨⟨q, hlt⟩, Pv (i + 1), fun H' p' => ⟨m - 1, by omega, by omega, p'⟩, ?_⟩
    rintro x H' ⟨rfl, k, v, e, rfl⟩
    exact hs i k v _ e p
  · have e : i = kvs.length := by omega
    subst e
    exact .inl ⟨⟨q, Nat.le_refl _⟩, hd H p⟩
theorem dc_keys {g : TG} {tt : TT} {tk tv : TE} {vs : List Nat} {σ : L2.St} {H1 : Hp} {D : Addr} {Qd : Hp → Prop} (Pv : Nat → Hp → Prop) (h0 : Pv 0 (upd H1 D (.dK []))) (hl : ∀ i H, i ≤ kvs.length → Pv i H → H d = some (.frz o (.dK kvs)))
    (hs : ∀ i k v H, kvs[i]? = some (k, v) → Pv i H → g (kV k) (wipe σ vs) H fun σ2 H2 => wipe σ2 vs = wipe σ vs ∧ tt σ2 H2 fun b H3 =>
      if b = true then tk σ2 H3 fun y H4 => tv σ2 H4 fun z H5 => ∃ kvs k, y = kV k ∧ H5 D = some (.dK kvs) ∧ kvs.length < sizeLine ∧ Pv (i + 1) (upd H5 D (.dK (putK kvs k z))) else Pv (i + 1) H3) (hd : ∀ H, Pv kvs.length H → Qd H) :
    ∃ W : Nat → Nat → Hp → Prop, (∃ m, W 0 m (upd H1 D (.dK []))) ∧ ∀ i m H, W i m H →
      ((Itk d o kvs).stop i H ∧ Qd H) ∨ ((Itk d o kvs).go i H ∧ ∃ Nx : Hp → Prop, (∀ H', Nx H' → ∃ m', m' < m ∧ W (i + 1) m' H') ∧ ∀ x H', (Itk d o kvs).yld i H x H' → g x (wipe σ vs) H' fun σ2 H2 =>
        wipe σ2 vs = wipe σ vs ∧ tt σ2 H2 fun b H3 =>
        if b = true then tk σ2 H3 fun y H4 => tv σ2 H4 fun z H5 => ∃ kvs k, y = kV k ∧ H5 D = some (.dK kvs) ∧ kvs.length < sizeLine ∧ Nx (upd H5 D (.dK (putK kvs k z))) else Nx H3) := by
  refine ⟨fun i m H => m + i = kvs.length ∧ Pv i H, ⟨kvs.length, rfl, h0⟩, ?_⟩
  rintro i m H ⟨em, p⟩
  have q := hl i H (by omega) p
  by_cases hlt : i < kvs.length
  · refine .inr ⟨⟨q, hlt⟩, Pv (i + 1), fun H' p' => ⟨m - 1, by omega, by omega, p'⟩, ?_⟩
    rintro x H' ⟨rfl, k, v, e, rfl⟩
    exact hs i k v _ e p
  · have e : i = kvs.length := by omega
    subst e
    exact .inl ⟨⟨q, Nat.le_refl _⟩, hd H p⟩
end
end Q3

set_option Elab.async false
set_option linter.all false
set_option maxRecDepth 100000
set_option maxHeartbeats 4000000
/-! the machine, in plain Lean -/
namespace Q3
structure MS where
  pc : Int
  stk : List Int
  mem : Int → Int
  bak : List Int
  plc : Nat
  out : List Int
structure Ev where
  img : List Int
  num : List Int
  tbl : Int → Option (Int × Int × Int)
def MS.top (m : MS) : Int := m.stk.getLast?.getD 0
def MS.pop (m : MS) : MS := { m with stk := m.stk.dropLast }
def MS.push (m : MS) (v : Int) : MS := { m with stk := m.stk ++ [v] }
def dBin (f : Int → Int → Int) (_ : Ev) (_ : Int) (m : MS) : MS := m.pop.pop.push (f m.pop.top m.top)
def b01 (b : Bool) : Int := if b then 1 else 0
def dPush (_ : Ev) (g : Int) (m : MS) : MS := m.push g
def dPlus := dBin fun x y => x + y
def dMinus := dBin fun x y => x - y
def dDigit := dBin fun x y => 10 * x + y
def dLess := dBin fun x y => b01 (decide (x < y))
def dSame := dBin fun x y => b01 (decide (x = y))
def dLoad (_ : Ev) (_ : Int) (m : MS) : MS := m.pop.push (m.mem m.top)
def setM (f : Int → Int) (a v : Int) : Int → Int := fun b => if b = a then v else f b
def dKeep (_ : Ev) (_ : Int) (m : MS) : MS := { m.pop.pop with mem := setM m.mem m.top m.pop.top }
def dAssign (_ : Ev) (g : Int) (m : MS) : MS := { m.pop with mem := setM m.mem g m.top }
def dTake (E : Ev) (_ : Int) (m : MS) : MS := match E.num[m.plc]? with
  | some v => { m.push v with plc := m.plc + 1 }
  | none => m.push (-1)
def dRewind (_ : Ev) (_ : Int) (m : MS) : MS := { m with plc := 0 }
def dEmit (_ : Ev) (_ : Int) (m : MS) : MS := { m.pop with out := m.out ++ [m.top] }
def cellAt (l : List Int) (i : Int) : Int := if 0 ≤ i then l.getD i.toNat 0 else if -(l.length : Int) ≤ i then l.getD ((l.length : Int) + i).toNat 0 else 0
def dCell (E : Ev) (_ : Int) (m : MS) : MS := m.pop.push (cellAt E.img m.top)
def dDrop (_ : Ev) (_ : Int) (m : MS) : MS := m.pop
def dDouble (_ : Ev) (_ : Int) (m : MS) : MS := (m.pop.push m.top).push m.top
def dExchange (_ : Ev) (_ : Int) (m : MS) : MS := (m.pop.pop.push m.top).push m.pop.top
def dTest (_ : Ev) (g : Int) (m : MS) : MS := if m.top = 0 then { m.pop with pc := g } else m.pop
def dCall (_ : Ev) (_ : Int) (m : MS) : MS := { m.pop with bak := m.bak ++ [m.pc], pc := m.top }
def dCallLow (E : Ev) (_ : Int) (m : MS) : MS := if 1 ≤ m.top ∧ m.top ≤ 199 ∧ (E.tbl m.top).isSome = true then { m.pop with bak := m.bak ++ [m.pc], pc := m.top } else m.pop.push m.top
def dReturn (_ : Ev) (_ : Int) (m : MS) : MS := match m.bak.getLast? with
  | some a => { m with bak := m.bak.dropLast, pc := a }
  | none => m
abbrev Deed := Ev → Int → MS → MS
def deeds : List (Int × Deed) := [(35, dPush), (43, dPlus), (45, dMinus), (42, dDigit), (60, dLess), (126, dSame), (64, dLoad), (33, dKeep), (61, dAssign), (44, dTake), (94, dRewind), (46, dEmit), (38, dCell), (95, dDrop), (34, dDouble), (92, dExchange), (63, dTest), (40, dCall), (36, dCallLow), (41, dReturn)]
/-- behind at := successor -/
def doOp (E : Ev) (o g n : Int) (m : MS) : MS := match deeds.lookup o with
  | some d => d E g m
  | none => if 97 ≤ o ∧ o ≤ 122 then m.push (m.mem o) else if 65 ≤ o ∧ o ≤ 90 then { m with bak := m.bak ++ [n], pc := o } else m
def stepM (E : Ev) (m : MS) : Option MS := match E.tbl m.pc with
  | none => none
  | some (o, g, n) => some (doOp E o g n { m with pc := n })
def runM (E : Ev) : Nat → MS → MS × Nat
  | 0, m => (m, 0)
  | f + 1, m => match stepM E m with
    | none => (m, 0)
    | some m' => ((runM E f m').1, (runM E f m').2 + 1)
def startM : MS := ⟨0, [], fun _ => 0, [], 0, []⟩
/-- the nodes of an image -/
def nodesL : List Int → List (Int × Int × Int × Int)
  | a :: b :: c :: d :: r => (a, b, c, d) :: nodesL r
  | _ => []
def tblOf (ns : List (Int × Int × Int × Int)) : Int → Option (Int × Int × Int) := ns.foldl (fun f q => fun n => if n = q.1 then some q.2 else f n) fun _ => none
def evOf (img num : List Int) : Ev := ⟨img, num, tblOf (nodesL img)⟩
structure RunR where
  ended : Bool
  out : List Int
  steps : Nat
def runF (img num : List Int) (fuel : Nat) : RunR :=
  let r := runM (evOf img num) fuel startM
  ⟨(tblOf (nodesL img) r.1.pc).isNone, r.1.out, r.2⟩
/-- sizes -/
structure Small (n : Nat) (m : MS) : Prop where
  stk : m.stk.length ≤ 2 * n
  bak : m.bak.length ≤ n
  out : m.out.length ≤ n
theorem Small.mono {n k : Nat} {m : MS} (h : Small n m) (hk : n ≤ k) : Small k m := ⟨by have := h.stk; omega, by have := h.bak; omega, by have := h.out; omega⟩
theorem small_start : Small 0 startM := ⟨Nat.le_refl _, Nat.le_refl _, Nat.le_refl _⟩
theorem deeds_mem {o : Int} {d : Deed} : ∀ {l : List (Int × Deed)}, l.lookup o = some d → d ∈ l.map (·.2)
  | [], h => by simp at h
  | (k, e) :: r, h => by
    rw [List.lookup_cons] at h
    split at h
    · cases h; simp
    · have := deeds_mem h
      simp only [List.map_cons, List.mem_cons]
      exact .inr this
theorem small_deed {E : Ev} {n : Nat} {g : Int} {m : MS} (h : Small n m) : ∀ d ∈ deeds.map (·.2), Small (n + 1) (d E g m) := by
  obtain ⟨h1, h2, h3⟩ := h
  intro d hd
  simp only [deeds, List.map_cons, List.map_nil, List.mem_cons, List.not_mem_nil, or_false] at hd
  rcases hd with rfl | rfl | rfl | rfl | rfl | rfl | rfl | rfl | rfl | rfl | rfl | rfl | rfl | rfl | rfl | rfl | rfl | rfl | rfl | rfl
  all_goals
    first
      | (refine ⟨?_, ?_, ?_⟩ <;> simp [dPush, dPlus, dMinus, dDigit, dLess, dSame, dBin, dLoad, dKeep, dAssign, dRewind, dEmit, dCell, dDrop, dDouble, dExchange, dCall, MS.push, MS.pop] <;> omega)
      | (unfold dTake; split <;> refine ⟨?_, ?_, ?_⟩ <;> simp [MS.push, MS.pop] <;> omega)
      | (unfold dTest; split <;> refine ⟨?_, ?_, ?_⟩ <;> simp [MS.push, MS.pop] <;> omega)
      | (unfold dCallLow; split <;> refine ⟨?_, ?_, ?_⟩ <;> simp [MS.push, MS.pop] <;> omega)
      | (unfold dReturn; split <;> refine ⟨?_, ?_, ?_⟩ <;> (try simp) <;> omega)
theorem small_doOp {E : Ev} {n : Nat} {o g k : Int} {m : MS} (h : Small n m) : Small (n + 1) (doOp E o g k m) := by
  unfold doOp
  split
  · rename_i d hd
    exact small_deed h d (deeds_mem hd)
  · obtain ⟨h1, h2, h3⟩ := h
    split
    · refine ⟨?_, ?_, ?_⟩ <;> simp [MS.push] <;> omega
    · split
      · refine ⟨?_, ?_, ?_⟩ <;> simp <;> omega
      · exact ⟨by omega, by omega, by omega⟩
theorem small_step {E : Ev} {n : Nat} {m m' : MS} (h : Small n m) (e : stepM E m = some m') : Small (n + 1) m' := by
  unfold stepM at e
  split at e
  · cases e
  · cases e
    exact small_doOp ⟨h.stk, h.bak, h.out⟩
theorem small_run {E : Ev} : ∀ (f : Nat) {n : Nat} {m : MS}, Small n m → Small (n + f) (runM E f m).1
  | 0, n, m, h => h
  | f + 1, n, m, h => by
    unfold runM
    split
    · exact h.mono (by omega)
    · rename_i m' e
      have := small_run (E := E) f (small_step h e)
      exact this.mono (by omega)
theorem runF_len (img num : List Int) (fuel : Nat) : (runF img num fuel).out.length ≤ fuel := by
  have := (small_run (E := evOf img num) fuel small_start).out
  show (runM (evOf img num) fuel startM).1.out.length ≤ fuel
  omega
end Q3

set_option Elab.async false
set_option linter.all false
set_option maxRecDepth 100000
set_option maxHeartbeats 4000000
/-! the text by places, the names of each def -/
namespace Q3
open PySem PySem.Spec PyProof.Rows L2
def topS (i : Nat) : Stmt := PySem.Challenge.pw_plinth_k53_whole_builds_in_any_order.main.body.getD i (.Pass ⟨0, 0, 0, 0⟩)
abbrev sNodesOf : Stmt := topS 6
theorem scNodesOf : FnScope ["image", "start"] ["image"] (defScope sNodesOf) := ⟨rfl, rfl, rfl, by decide +kernel, rfl, by decide +kernel, by decide +kernel⟩
abbrev sTableOf : Stmt := topS 7
theorem scTableOf : FnScope ["image", "table", "number", "operation", "argument", "successor"] ["image"] (defScope sTableOf) := ⟨rfl, rfl, rfl, by decide +kernel, rfl, by decide +kernel, by decide +kernel⟩
abbrev sPush : Stmt := topS 14
theorem scPush : FnScope ["state", "argument"] ["state", "argument"] (defScope sPush) := ⟨rfl, rfl, rfl, by decide +kernel, rfl, by decide +kernel, by decide +kernel⟩
abbrev sPlus : Stmt := topS 15
theorem scPlus : FnScope ["state", "argument", "second"] ["state", "argument"] (defScope sPlus) := ⟨rfl, rfl, rfl, by decide +kernel, rfl, by decide +kernel, by decide +kernel⟩
abbrev sMinus : Stmt := topS 16
theorem scMinus : FnScope ["state", "argument", "second"] ["state", "argument"] (defScope sMinus) := ⟨rfl, rfl, rfl, by decide +kernel, rfl, by decide +kernel, by decide +kernel⟩
abbrev sDigit : Stmt := topS 17
theorem scDigit : FnScope ["state", "argument", "second"] ["state", "argument"] (defScope sDigit) := ⟨rfl, rfl, rfl, by decide +kernel, rfl, by decide +kernel, by decide +kernel⟩
abbrev sLess : Stmt := topS 18
theorem scLess : FnScope ["state", "argument", "second"] ["state", "argument"] (defScope sLess) := ⟨rfl, rfl, rfl, by decide +kernel, rfl, by decide +kernel, by decide +kernel⟩
abbrev sSame : Stmt := topS 19
theorem scSame : FnScope ["state", "argument", "second"] ["state", "argument"] (defScope sSame) := ⟨rfl, rfl, rfl, by decide +kernel, rfl, by decide +kernel, by decide +kernel⟩
abbrev sLoad : Stmt := topS 20
theorem scLoad : FnScope ["state", "argument"] ["state", "argument"] (defScope sLoad) := ⟨rfl, rfl, rfl, by decide +kernel, rfl, by decide +kernel, by decide +kernel⟩
abbrev sKeep : Stmt := topS 21
theorem scKeep : FnScope ["state", "argument", "address"] ["state", "argument"] (defScope sKeep) := ⟨rfl, rfl, rfl, by decide +kernel, rfl, by decide +kernel, by decide +kernel⟩
abbrev sAssign : Stmt := topS 22
theorem scAssign : FnScope ["state", "argument"] ["state", "argument"] (defScope sAssign) := ⟨rfl, rfl, rfl, by decide +kernel, rfl, by decide +kernel, by decide +kernel⟩
abbrev sTake : Stmt := topS 23
theorem scTake : FnScope ["state", "argument"] ["state", "argument"] (defScope sTake) := ⟨rfl, rfl, rfl, by decide +kernel, rfl, by decide +kernel, by decide +kernel⟩
abbrev sRewind : Stmt := topS 24
theorem scRewind : FnScope ["state", "argument"] ["state", "argument"] (defScope sRewind) := ⟨rfl, rfl, rfl, by decide +kernel, rfl, by decide +kernel, by decide +kernel⟩
abbrev sEmit : Stmt := topS 25
theorem scEmit : FnScope ["state", "argument"] ["state", "argument"] (defScope sEmit) := ⟨rfl, rfl, rfl, by decide +kernel, rfl, by decide +kernel, by decide +kernel⟩
abbrev sCell : Stmt := topS 26
theorem scCell : FnScope ["state", "argument", "index"] ["state", "argument"] (defScope sCell) := ⟨rfl, rfl, rfl, by decide +kernel, rfl, by decide +kernel, by decide +kernel⟩
abbrev sDrop : Stmt := topS 27
theorem scDrop : FnScope ["state", "argument"] ["state", "argument"] (defScope sDrop) := ⟨rfl, rfl, rfl, by decide +kernel, rfl, by decide +kernel, by decide +kernel⟩
abbrev sDouble : Stmt := topS 28
theorem scDouble : FnScope ["state", "argument", "top"] ["state", "argument"] (defScope sDouble) := ⟨rfl, rfl, rfl, by decide +kernel, rfl, by decide +kernel, by decide +kernel⟩
abbrev sExchange : Stmt := topS 29
theorem scExchange : FnScope ["state", "argument", "second", "first"] ["state", "argument"] (defScope sExchange) := ⟨rfl, rfl, rfl, by decide +kernel, rfl, by decide +kernel, by decide +kernel⟩
abbrev sTest : Stmt := topS 30
theorem scTest : FnScope ["state", "argument"] ["state", "argument"] (defScope sTest) := ⟨rfl, rfl, rfl, by decide +kernel, rfl, by decide +kernel, by decide +kernel⟩
abbrev sCall : Stmt := topS 31
theorem scCall : FnScope ["state", "argument", "number"] ["state", "argument"] (defScope sCall) := ⟨rfl, rfl, rfl, by decide +kernel, rfl, by decide +kernel, by decide +kernel⟩
abbrev sCallLow : Stmt := topS 32
theorem scCallLow : FnScope ["state", "argument", "number"] ["state", "argument"] (defScope sCallLow) := ⟨rfl, rfl, rfl, by decide +kernel, rfl, by decide +kernel, by decide +kernel⟩
abbrev sReturn : Stmt := topS 33
theorem scReturn : FnScope ["state", "argument"] ["state", "argument"] (defScope sReturn) := ⟨rfl, rfl, rfl, by decide +kernel, rfl, by decide +kernel, by decide +kernel⟩
abbrev sStInit : Stmt := inClass (topS 35) 0
theorem scStInit : FnScope ["self", "image", "numbers"] ["self", "image", "numbers"] (defScope sStInit) := ⟨rfl, rfl, rfl, by decide +kernel, rfl, by decide +kernel, by decide +kernel⟩
abbrev sStPull : Stmt := inClass (topS 35) 1
theorem scStPull : FnScope ["self"] ["self"] (defScope sStPull) := ⟨rfl, rfl, rfl, by decide +kernel, rfl, by decide +kernel, by decide +kernel⟩
abbrev sStHasEnded : Stmt := inClass (topS 35) 2
theorem scStHasEnded : FnScope ["self"] ["self"] (defScope sStHasEnded) := ⟨rfl, rfl, rfl, by decide +kernel, rfl, by decide +kernel, by decide +kernel⟩
abbrev sStStep : Stmt := inClass (topS 35) 3
theorem scStStep : FnScope ["self", "operation", "argument", "successor", "deed"] ["self"] (defScope sStStep) := ⟨rfl, rfl, rfl, by decide +kernel, rfl, by decide +kernel, by decide +kernel⟩
abbrev sStAdvance : Stmt := inClass (topS 35) 4
theorem scStAdvance : FnScope ["self", "fuel", "made"] ["self", "fuel"] (defScope sStAdvance) := ⟨rfl, rfl, rfl, by decide +kernel, rfl, by decide +kernel, by decide +kernel⟩
abbrev sRun : Stmt := topS 36
theorem scRun : FnScope ["image", "numbers", "fuel", "state", "steps"] ["image", "numbers", "fuel"] (defScope sRun) := ⟨rfl, rfl, rfl, by decide +kernel, rfl, by decide +kernel, by decide +kernel⟩
abbrev sParts : Stmt := topS 38
theorem scParts : FnScope ["rule"] ["rule"] (defScope sParts) := ⟨rfl, rfl, rfl, by decide +kernel, rfl, by decide +kernel, by decide +kernel⟩
abbrev sReach : Stmt := topS 39
theorem scReach : FnScope ["rules", "name", "found", "waiting", "item", "part"] ["rules", "name"] (defScope sReach) := ⟨rfl, rfl, rfl, by decide +kernel, rfl, by decide +kernel, by decide +kernel⟩
abbrev sRulesOf : Stmt := topS 40
theorem scRulesOf : FnScope ["plan", "rules", "rule"] ["plan"] (defScope sRulesOf) := ⟨rfl, rfl, rfl, by decide +kernel, rfl, by decide +kernel, by decide +kernel⟩
abbrev sTwice : Stmt := topS 41
theorem scTwice : FnScope ["plan", "given", "known", "rule"] ["plan", "given"] (defScope sTwice) := ⟨rfl, rfl, rfl, by decide +kernel, rfl, by decide +kernel, by decide +kernel⟩
abbrev sMissing : Stmt := topS 42
theorem scMissing : FnScope ["plan", "given", "rules", "rule", "part"] ["plan", "given", "rules"] (defScope sMissing) := ⟨rfl, rfl, rfl, by decide +kernel, rfl, by decide +kernel, by decide +kernel⟩
abbrev sCheckPlan : Stmt := topS 43
theorem scCheckPlan : FnScope ["plan", "given", "name", "rules", "rule"] ["plan", "given"] (defScope sCheckPlan) := ⟨rfl, rfl, rfl, by decide +kernel, rfl, by decide +kernel, by decide +kernel⟩
abbrev sOrderOf : Stmt := topS 44
theorem scOrderOf : FnScope ["plan", "given", "order", "ready", "rule", "name", "part"] ["plan", "given"] (defScope sOrderOf) := ⟨rfl, rfl, rfl, by decide +kernel, rfl, by decide +kernel, by decide +kernel⟩
abbrev sCheckName : Stmt := topS 45
theorem scCheckName : FnScope ["plan", "given", "name"] ["plan", "given", "name"] (defScope sCheckName) := ⟨rfl, rfl, rfl, by decide +kernel, rfl, by decide +kernel, by decide +kernel⟩
abbrev sPartOf : Stmt := topS 46
theorem scPartOf : FnScope ["plan", "given", "names", "rules", "wanted", "name", "item", "rule"] ["plan", "given", "names"] (defScope sPartOf) := ⟨rfl, rfl, rfl, by decide +kernel, rfl, by decide +kernel, by decide +kernel⟩
abbrev sBuInit : Stmt := inClass (topS 48) 0
theorem scBuInit : FnScope ["self", "plan", "given", "fuel", "rule", "name"] ["self", "plan", "given", "fuel"] (defScope sBuInit) := ⟨rfl, rfl, rfl, by decide +kernel, rfl, by decide +kernel, by decide +kernel⟩
abbrev sBuMade : Stmt := inClass (topS 48) 1
theorem scBuMade : FnScope ["self", "tool", "sources", "image", "numbers", "name", "content", "ended", "output", "steps"] ["self", "tool", "sources"] (defScope sBuMade) := ⟨rfl, rfl, rfl, by decide +kernel, rfl, by decide +kernel, by decide +kernel⟩
abbrev sBuAdvance : Stmt := inClass (topS 48) 2
theorem scBuAdvance : FnScope ["self", "target", "name", "tool", "sources"] ["self"] (defScope sBuAdvance) := ⟨rfl, rfl, rfl, by decide +kernel, rfl, by decide +kernel, by decide +kernel⟩
abbrev sBuFinish : Stmt := inClass (topS 48) 3
theorem scBuFinish : FnScope ["self", "count"] ["self"] (defScope sBuFinish) := ⟨rfl, rfl, rfl, by decide +kernel, rfl, by decide +kernel, by decide +kernel⟩
abbrev sBuContent : Stmt := inClass (topS 48) 4
theorem scBuContent : FnScope ["self", "name", "content"] ["self", "name"] (defScope sBuContent) := ⟨rfl, rfl, rfl, by decide +kernel, rfl, by decide +kernel, by decide +kernel⟩
abbrev sBuFailed : Stmt := inClass (topS 48) 5
theorem scBuFailed : FnScope ["self", "name"] ["self"] (defScope sBuFailed) := ⟨rfl, rfl, rfl, by decide +kernel, rfl, by decide +kernel, by decide +kernel⟩
abbrev sBuildAll : Stmt := topS 49
theorem scBuildAll : FnScope ["plan", "given", "fuel", "build", "contents", "rule", "content"] ["plan", "given", "fuel"] (defScope sBuildAll) := ⟨rfl, rfl, rfl, by decide +kernel, rfl, by decide +kernel, by decide +kernel⟩
abbrev sLcell : Stmt := topS 51
theorem scLcell : FnScope ["_law_script", "_law_k"] ["_law_script", "_law_k"] (defScope sLcell) := ⟨rfl, rfl, rfl, by decide +kernel, rfl, by decide +kernel, by decide +kernel⟩
abbrev sLvalues : Stmt := topS 52
theorem scLvalues : FnScope ["_law_cell_here", "_law_count", "_law_size", "_law_values_here", "_law_rest", "_law_k", "_law_mixed"] ["_law_cell_here", "_law_count", "_law_size"] (defScope sLvalues) := ⟨rfl, rfl, rfl, by decide +kernel, rfl, by decide +kernel, by decide +kernel⟩
abbrev sLnames : Stmt := topS 53
theorem scLnames : FnScope ["_law_cell_here", "_law_letters", "_law_values_here", "_law_names_here", "_law_k", "_law_before", "_law_after"] ["_law_cell_here"] (defScope sLnames) := ⟨rfl, rfl, rfl, by decide +kernel, rfl, by decide +kernel, by decide +kernel⟩
abbrev sLgiven : Stmt := topS 54
theorem scLgiven : FnScope ["_law_names_here", "_law_cell_here", "_law_copy", "_law_double", "_law_numbers", "_law_value"] ["_law_names_here", "_law_cell_here"] (defScope sLgiven) := ⟨rfl, rfl, rfl, by decide +kernel, rfl, by decide +kernel, by decide +kernel⟩
abbrev sLplan : Stmt := topS 55
theorem scLplan : FnScope ["_law_names_here", "_law_cell_here", "_law_second", "_law_count", "_law_free", "_law_values_here", "_law_rules", "_law_k", "_law_row", "_law_known", "_law_tool", "_law_sources", "_law_moves", "_law_plan_here", "_law_j"] ["_law_names_here", "_law_cell_here", "_law_second", "_law_count", "_law_free"] (defScope sLplan) := ⟨rfl, rfl, rfl, by decide +kernel, rfl, by decide +kernel, by decide +kernel⟩
abbrev sLreach : Stmt := topS 56
theorem scLreach : FnScope ["_law_plan_here", "_law_name", "_law_found", "_law_waiting", "_law_turn", "_law_item", "_law_rule", "_law_part"] ["_law_plan_here", "_law_name"] (defScope sLreach) := ⟨rfl, rfl, rfl, by decide +kernel, rfl, by decide +kernel, by decide +kernel⟩
abbrev sLsame : Stmt := topS 57
theorem scLsame : FnScope ["_law_first", "_law_second", "_law_names_here", "_law_name"] ["_law_first", "_law_second", "_law_names_here"] (defScope sLsame) := ⟨rfl, rfl, rfl, by decide +kernel, rfl, by decide +kernel, by decide +kernel⟩
abbrev sLaw : Stmt := topS 58
theorem scLaw : FnScope ["_law_script", "_law_names_here", "_law_given_here", "_law_plan_here", "_law_budget", "_law_targets", "_law_first", "_law_other", "_law_moves", "_law_k", "_law_second", "_law_name", "_law_needed", "_law_part", "_law_chosen", "_law_item", "_law_changed", "_law_rule", "_law_target"] ["_law_script"] (defScope sLaw) := ⟨rfl, rfl, rfl, by decide +kernel, rfl, by decide +kernel, by decide +kernel⟩
end Q3

set_option Elab.async false
set_option linter.all false
set_option maxRecDepth 100000
set_option maxHeartbeats 4000000
/-! the machine's state in the heap -/
namespace Q3
open PySem PySem.Spec PyProof.Rows L2
abbrev iL (l : List Int) : HO := .lst (l.map V.int)
structure SA where
  img : Addr
  num : Addr
  tbl : Addr
  stk : Addr
  sto : Addr
  bak : Addr
  out : Addr
def SA.all (A : SA) : List Addr := [A.img, A.num, A.tbl, A.stk, A.sto, A.bak, A.out]
def stF (A : SA) (pc plc n : Int) : List (Str × V) :=
  [("image", V.ref A.img), ("numbers", V.ref A.num), ("table", V.ref A.tbl), ("at", V.int pc), ("stack", V.ref A.stk), ("store", V.ref A.sto), ("back", V.ref A.bak), ("place", V.int plc), ("output", V.ref A.out), ("steps", V.int n)]
section
variable (A : SA) (pc plc n z : Int)
theorem lk_image : (stF A pc plc n).lookup ("image" : Str) = some (V.ref A.img) := by kernel_rfl
theorem lk_numbers : (stF A pc plc n).lookup ("numbers" : Str) = some (V.ref A.num) := by kernel_rfl
theorem lk_table : (stF A pc plc n).lookup ("table" : Str) = some (V.ref A.tbl) := by kernel_rfl
theorem lk_at : (stF A pc plc n).lookup ("at" : Str) = some (V.int pc) := by kernel_rfl
theorem lk_stack : (stF A pc plc n).lookup ("stack" : Str) = some (V.ref A.stk) := by kernel_rfl
theorem lk_store : (stF A pc plc n).lookup ("store" : Str) = some (V.ref A.sto) := by kernel_rfl
theorem lk_back : (stF A pc plc n).lookup ("back" : Str) = some (V.ref A.bak) := by kernel_rfl
theorem lk_place : (stF A pc plc n).lookup ("place" : Str) = some (V.int plc) := by kernel_rfl
theorem lk_output : (stF A pc plc n).lookup ("output" : Str) = some (V.ref A.out) := by kernel_rfl
theorem lk_steps : (stF A pc plc n).lookup ("steps" : Str) = some (V.int n) := by kernel_rfl
theorem lk_pull : (stF A pc plc n).lookup ("pull" : Str) = none := by kernel_rfl
theorem lk_step : (stF A pc plc n).lookup ("step" : Str) = none := by kernel_rfl
theorem lk_advance : (stF A pc plc n).lookup ("advance" : Str) = none := by kernel_rfl
theorem lk_hasEnded : (stF A pc plc n).lookup ("has_ended" : Str) = none := by kernel_rfl
theorem pt_at : putF "at" (.int z) (stF A pc plc n) = stF A z plc n := by kernel_rfl
theorem pt_place : putF "place" (.int z) (stF A pc plc n) = stF A pc z n := by kernel_rfl
theorem pt_steps : putF "steps" (.int z) (stF A pc plc n) = stF A pc plc z := by kernel_rfl
end
/-- a dict from node numbers to nodes -/
structure TblAt (H : Hp) (t : Addr) (f : Int → Option (Int × Int × Int)) : Prop where
  ex : ∃ kvs, H t = some (.dK kvs) ∧ (∀ k, f k = none → valV kvs (Sum.inl k : Key) = none) ∧
    ∀ k o g s, f k = some (o, g, s) → ∃ a, valV kvs (Sum.inl k : Key) = some (.ref a) ∧ H a = some (.tup [.int o, .int g, .int s])
def StoAt (H : Hp) (a : Addr) (f : Int → Int) (z : Nat) : Prop :=
  ∃ kvs, H a = some (.dK kvs) ∧ kvs.length ≤ z ∧ ∀ k, (valV kvs (Sum.inl k : Key)).getD (.int 0) = .int (f k)
structure StAt (C : Addr) (H : Hp) (p : Addr) (A : SA) (E : Ev) (m : MS) (z : Nat) : Prop where
  ob : ∃ dx n, H p = some (.ins C dx (stF A m.pc m.plc n))
  img : H A.img = some (iL E.img)
  num : H A.num = some (iL E.num)
  tbl : TblAt H A.tbl E.tbl
  stk : H A.stk = some (iL m.stk)
  sto : StoAt H A.sto m.mem z
  bak : H A.bak = some (iL m.bak)
  out : H A.out = some (iL m.out)
  nd : A.all.Nodup
  sm : Small z m
/-- all but the state's own changing objects is as it was -/
def Frm (p : Addr) (A : SA) (H H' : Hp) : Prop := ∀ b o, H b = some o → b ≠ p → b ≠ A.stk → b ≠ A.sto → b ≠ A.bak → b ≠ A.out → H' b = some o
theorem Frm.refl {p : Addr} {A : SA} (H : Hp) : Frm p A H H := fun _ _ e _ _ _ _ _ => e
theorem Frm.trans {p : Addr} {A : SA} {H H1 H2 : Hp} (a : Frm p A H H1) (b : Frm p A H1 H2) : Frm p A H H2 := fun c o e h1 h2 h3 h4 h5 => b c o (a c o e h1 h2 h3 h4 h5) h1 h2 h3 h4 h5
theorem Frm.p {p : Addr} {A : SA} {H : Hp} {u : HO} : Frm p A H (upd H p u) := fun b o e h1 _ _ _ _ => by rw [upd_ne h1]; exact e
theorem Frm.stk {p : Addr} {A : SA} {H : Hp} {u : HO} : Frm p A H (upd H A.stk u) := fun b o e _ h _ _ _ => by rw [upd_ne h]; exact e
theorem Frm.sto {p : Addr} {A : SA} {H : Hp} {u : HO} : Frm p A H (upd H A.sto u) := fun b o e _ _ h _ _ => by rw [upd_ne h]; exact e
theorem Frm.bak {p : Addr} {A : SA} {H : Hp} {u : HO} : Frm p A H (upd H A.bak u) := fun b o e _ _ _ h _ => by rw [upd_ne h]; exact e
theorem Frm.out {p : Addr} {A : SA} {H : Hp} {u : HO} : Frm p A H (upd H A.out u) := fun b o e _ _ _ _ h => by rw [upd_ne h]; exact e
theorem nd7 {A : SA} (h : A.all.Nodup) : (A.img ≠ A.stk ∧ A.img ≠ A.bak ∧ A.img ≠ A.out) ∧ (A.num ≠ A.stk ∧ A.num ≠ A.bak ∧ A.num ≠ A.out) ∧ A.tbl ≠ A.sto ∧ (A.stk ≠ A.bak ∧ A.stk ≠ A.out) ∧ A.bak ≠ A.out := by
  unfold SA.all at h
  simp only [List.nodup_cons, List.mem_cons, List.not_mem_nil, or_false, not_or] at h
  obtain ⟨⟨a1, a2, a3, a4, a5, a6⟩, ⟨b1, b2, b3, b4, b5⟩, ⟨c1, c2, c3, c4⟩, ⟨d1, d2, d3⟩, ⟨e1, e2⟩, f1, _⟩ := h
  exact ⟨⟨a3, a5, a6⟩, ⟨b2, b4, b5⟩, c2, ⟨d2, d3⟩, f1⟩
theorem TblAt.ne {H : Hp} {t b : Addr} {f : Int → Option (Int × Int × Int)} {u : HO} (h : TblAt H t f) (hb : b ≠ t) (hn : ∀ xs, H b ≠ some (.tup xs)) : TblAt (upd H b u) t f := by
  obtain ⟨kvs, h1, h2, h3⟩ := h.ex
  refine ⟨kvs, by rw [upd_ne hb.symm]; exact h1, h2, fun k o g s e => ?_⟩
  obtain ⟨a, h4, h5⟩ := h3 k o g s e
  refine ⟨a, h4, ?_⟩
  rw [upd_ne fun z => hn _ (by rw [← z]; exact h5)]
  exact h5
section
variable {C : Addr} {H : Hp} {p : Addr} {A : SA} {E : Ev} {m : MS} {z z' : Nat}
theorem StAt.mono (h : StAt C H p A E m z) (hz : z ≤ z') : StAt C H p A E m z' := by
  obtain ⟨kvs, a, b, c⟩ := h.sto
  exact ⟨h.ob, h.img, h.num, h.tbl, h.stk, ⟨kvs, a, by omega, c⟩, h.bak, h.out, h.nd, h.sm.mono hz⟩
theorem StAt.setStk (h : StAt C H p A E m z) {l : List Int} (hz : z ≤ z') (hl : l.length ≤ 2 * z') : StAt C (upd H A.stk (iL l)) p A E { m with stk := l } z' := by
  obtain ⟨dx, n, e⟩ := h.ob
  obtain ⟨kvs, a, b, c⟩ := h.sto
  obtain ⟨kt, t1, _⟩ := h.tbl.ex
  obtain ⟨⟨i1, _, _⟩, ⟨j1, _, _⟩, _, ⟨s1, s2⟩, _⟩ := nd7 h.nd
  have sm := h.sm.mono hz
  refine ⟨⟨dx, n, ?_⟩, ?_, ?_, ?_, upd_same, ⟨kvs, ?_, by omega, c⟩, ?_, ?_, h.nd, ⟨hl, sm.bak, sm.out⟩⟩
  · rw [upd_ne (ne_of e h.stk (by intro q; cases q))]; exact e
  · rw [upd_ne i1]; exact h.img
  · rw [upd_ne j1]; exact h.num
  · exact h.tbl.ne (ne_of h.stk t1 (by intro q; cases q)) fun xs q => by rw [h.stk] at q; cases q
  · rw [upd_ne (ne_of a h.stk (by intro q; cases q))]; exact a
  · rw [upd_ne s1.symm]; exact h.bak
  · rw [upd_ne s2.symm]; exact h.out
theorem StAt.setBak (h : StAt C H p A E m z) {l : List Int} (hz : z ≤ z') (hl : l.length ≤ z') : StAt C (upd H A.bak (iL l)) p A E { m with bak := l } z' := by
  obtain ⟨dx, n, e⟩ := h.ob
  obtain ⟨kvs, a, b, c⟩ := h.sto
  obtain ⟨kt, t1, _⟩ := h.tbl.ex
  obtain ⟨⟨_, i1, _⟩, ⟨_, j1, _⟩, _, ⟨s1, s2⟩, s3⟩ := nd7 h.nd
  have sm := h.sm.mono hz
  refine ⟨⟨dx, n, ?_⟩, ?_, ?_, ?_, ?_, ⟨kvs, ?_, by omega, c⟩, upd_same, ?_, h.nd, ⟨sm.stk, hl, sm.out⟩⟩
  · rw [upd_ne (ne_of e h.bak (by intro q; cases q))]; exact e
  · rw [upd_ne i1]; exact h.img
  · rw [upd_ne j1]; exact h.num
  · exact h.tbl.ne (ne_of h.bak t1 (by intro q; cases q)) fun xs q => by rw [h.bak] at q; cases q
  · rw [upd_ne s1]; exact h.stk
  · rw [upd_ne (ne_of a h.bak (by intro q; cases q))]; exact a
  · rw [upd_ne s3.symm]; exact h.out
theorem StAt.setOut (h : StAt C H p A E m z) {l : List Int} (hz : z ≤ z') (hl : l.length ≤ z') : StAt C (upd H A.out (iL l)) p A E { m with out := l } z' := by
  obtain ⟨dx, n, e⟩ := h.ob
  obtain ⟨kvs, a, b, c⟩ := h.sto
  obtain ⟨kt, t1, _⟩ := h.tbl.ex
  obtain ⟨⟨_, _, i1⟩, ⟨_, _, j1⟩, _, ⟨s1, s2⟩, s3⟩ := nd7 h.nd
  have sm := h.sm.mono hz
  refine ⟨⟨dx, n, ?_⟩, ?_, ?_, ?_, ?_, ⟨kvs, ?_, by omega, c⟩, ?_, upd_same, h.nd, ⟨sm.stk, sm.bak, hl⟩⟩
  · rw [upd_ne (ne_of e h.out (by intro q; cases q))]; exact e
  · rw [upd_ne i1]; exact h.img
  · rw [upd_ne j1]; exact h.num
  · exact h.tbl.ne (ne_of h.out t1 (by intro q; cases q)) fun xs q => by rw [h.out] at q; cases q
  · rw [upd_ne s2]; exact h.stk
  · rw [upd_ne (ne_of a h.out (by intro q; cases q))]; exact a
  · rw [upd_ne s3]; exact h.bak
theorem StAt.setSto (h : StAt C H p A E m z) {kvs : List (Key × V)} (e : H A.sto = some (.dK kvs)) (c : ∀ k, (valV kvs (Sum.inl k : Key)).getD (.int 0) = .int (m.mem k)) (hk : kvs.length ≤ z) (a v : Int) :
    StAt C (upd H A.sto (.dK (putK kvs (Sum.inl a : Key) (.int v)))) p A E { m with mem := setM m.mem a v } (z + 1) := by
  obtain ⟨dx, n, e1⟩ := h.ob
  obtain ⟨kt, t1, _⟩ := h.tbl.ex
  obtain ⟨_, _, t2, _, _⟩ := nd7 h.nd
  have sm := h.sm.mono (Nat.le_succ z)
  refine ⟨⟨dx, n, ?_⟩, ?_, ?_, ?_, ?_, ⟨_, upd_same, ?_, fun k => ?_⟩, ?_, ?_, h.nd, ⟨sm.stk, sm.bak, sm.out⟩⟩
  · rw [upd_ne (ne_of e1 e (by intro q; cases q))]; exact e1
  · rw [upd_ne (ne_of h.img e (by intro q; cases q))]; exact h.img
  · rw [upd_ne (ne_of h.num e (by intro q; cases q))]; exact h.num
  · exact h.tbl.ne t2.symm fun xs q => by rw [e] at q; cases q
  · rw [upd_ne (ne_of h.stk e (by intro q; cases q))]; exact h.stk
  · have := length_putK kvs (Sum.inl a : Key) (V.int v); omega
  · rw [valV_put]
    show _ = V.int (setM m.mem a v k)
    unfold setM
    by_cases q : k = a
    · subst q; rw [if_pos rfl, if_pos rfl]; rfl
    · rw [if_neg (fun w => q (Sum.inl.inj w)), if_neg q]; exact c k
  · rw [upd_ne (ne_of h.bak e (by intro q; cases q))]; exact h.bak
  · rw [upd_ne (ne_of h.out e (by intro q; cases q))]; exact h.out
theorem StAt.setP (h : StAt C H p A E m z) {dx : Addr} {n0 : Int} (e : H p = some (.ins C dx (stF A m.pc m.plc n0))) (pc : Int) (plc : Nat) (n : Int) : StAt C (upd H p (.ins C dx (stF A pc plc n))) p A E { m with pc := pc, plc := plc } z := by
  obtain ⟨kt, t1, _⟩ := h.tbl.ex
  obtain ⟨kvs, a, b, c⟩ := h.sto
  refine ⟨⟨dx, n, upd_same⟩, ?_, ?_, ?_, ?_, ⟨kvs, ?_, b, c⟩, ?_, ?_, h.nd, ⟨h.sm.stk, h.sm.bak, h.sm.out⟩⟩
  · rw [upd_ne (ne_of h.img e (by intro q; cases q))]; exact h.img
  · rw [upd_ne (ne_of h.num e (by intro q; cases q))]; exact h.num
  · exact h.tbl.ne (ne_of e t1 (by intro q; cases q)) fun xs q => by rw [e] at q; cases q
  · rw [upd_ne (ne_of h.stk e (by intro q; cases q))]; exact h.stk
  · rw [upd_ne (ne_of a e (by intro q; cases q))]; exact a
  · rw [upd_ne (ne_of h.bak e (by intro q; cases q))]; exact h.bak
  · rw [upd_ne (ne_of h.out e (by intro q; cases q))]; exact h.out
theorem StAt.fresh (h : StAt C H p A E m z) {a : Addr} {u : HO} (ha : H a = none) : StAt C (upd H a u) p A E m z := by
  obtain ⟨dx, n, e⟩ := h.ob
  obtain ⟨kvs, s1, s2, s3⟩ := h.sto
  obtain ⟨kt, t1, t2, t3⟩ := h.tbl.ex
  have go : ∀ {b : Addr} {o : HO}, H b = some o → upd H a u b = some o := fun {b o} q => by rw [upd_ne (ne_of_none q ha)]; exact q
  refine ⟨⟨dx, n, go e⟩, go h.img, go h.num, ⟨kt, go t1, t2, fun k o g s q => ?_⟩, go h.stk, ⟨kvs, go s1, s2, s3⟩, go h.bak, go h.out, h.nd, h.sm⟩
  obtain ⟨b, q1, q2⟩ := t3 k o g s q
  exact ⟨b, q1, go q2⟩
theorem Frm.new {a : Addr} {u : HO} (ha : H a = none) : Frm p A H (upd H a u) := fun b o e _ _ _ _ _ => by rw [upd_ne (ne_of_none e ha)]; exact e
end
end Q3

set_option Elab.async false
set_option linter.all false
set_option maxRecDepth 100000
set_option maxHeartbeats 4000000
/-! the machine's state: pull, and the readings of its fields -/
namespace Q3
open PySem PySem.Spec PyProof.Rows L2
structure TM (K : PySem.W.Frag) (C : Addr) : Prop where
  cl : Cls K C
  image : NoAttr K C "image"
  numbers : NoAttr K C "numbers"
  table : NoAttr K C "table"
  at_ : NoAttr K C "at"
  stack : NoAttr K C "stack"
  store : NoAttr K C "store"
  back : NoAttr K C "back"
  place : NoAttr K C "place"
  output : NoAttr K C "output"
  steps : NoAttr K C "steps"
section
variable {K : PySem.W.Frag} {C : Addr} {H : Hp} {p : Addr} {A : SA} {E : Ev} {m : MS} {z z' : Nat}
theorem StAt.obE (h : StAt C H p A E m z) : H p = some (.ins C h.ob.choose (stF A m.pc m.plc h.ob.choose_spec.choose)) := h.ob.choose_spec.choose_spec
/-! sizes -/
theorem len_map (l : List Int) {n : Nat} (h : l.length ≤ n) (hn : n ≤ 1000000) : (l.map V.int).length < sizeLine := by
  rw [List.length_map, sizeLine_eq]; omega
/-! pushes and pops -/
theorem map_snoc (l : List Int) (v : Int) : l.map V.int ++ [V.int v] = (l ++ [v]).map V.int := by simp
theorem StAt.push1 (h : StAt C H p A E m z) (v : Int) (hz : z < z') : StAt C (upd H A.stk (.lst (m.stk.map V.int ++ [V.int v]))) p A E (m.push v) z' := by
  rw [map_snoc]
  exact h.setStk (by omega) (by have := h.sm.stk; simp; omega)
theorem StAt.push2 (h : StAt C H p A E m z) (v w : Int) (hz : z < z') : StAt C (upd H A.stk (.lst (m.stk.map V.int ++ [V.int v, V.int w]))) p A E ((m.push v).push w) z' := by
  have e : m.stk.map V.int ++ [V.int v, V.int w] = (m.stk ++ [v] ++ [w]).map V.int := by simp
  rw [e]
  exact h.setStk (by omega) (by have := h.sm.stk; simp; omega)
theorem StAt.pushBak (h : StAt C H p A E m z) (v : Int) (hz : z < z') : StAt C (upd H A.bak (.lst (m.bak.map V.int ++ [V.int v]))) p A E { m with bak := m.bak ++ [v] } z' := by
  rw [map_snoc]
  exact h.setBak (by omega) (by have := h.sm.bak; simp; omega)
theorem StAt.pushOut (h : StAt C H p A E m z) (v : Int) (hz : z < z') : StAt C (upd H A.out (.lst (m.out.map V.int ++ [V.int v]))) p A E { m with out := m.out ++ [v] } z' := by
  rw [map_snoc]
  exact h.setOut (by omega) (by have := h.sm.out; simp; omega)
theorem dropLast_map (l : List Int) : (l.map V.int).dropLast = l.dropLast.map V.int := by rw [List.map_dropLast]
end
/-! pull -/
def spPull (C : Addr) : Sp := fun vs H Q _ => ∃ p A E m z, vs = [.ref p] ∧ StAt C H p A E m z ∧ ∀ H', StAt C H' p A E m.pop z → Frm p A H H' → Q (.int m.top) H'
section
variable {P : Program} {w : World} {K : PySem.W.Frag} {mg : Str → Option Value} {base : Heap}
theorem ok_pull {f C : Addr} {fd : FuncData} (F : Fun K "pull" "State.pull" sStPull f fd) (T : TM K C) : FnOk P w K mg base CX0 1 f fd ["self"] (spPull C) := by
  refine F.ok scStPull (fun vs H Q E h => ?_) (fun cdv A outer s H vs Q E hr h => ?_)
  · obtain ⟨p, A, E, m, z, rfl, _⟩ := h
    rfl
  · obtain ⟨p, B, Ev, m, z, rfl, h, k⟩ := h
    refine ⟨_, pss_cons (ps_if (pt_truth (pe_fld (pv 0) rfl) (by intro _; rfl))
        (pss_one (ps_ret (pe_bm0 PySem.F.plainAttrs_list PySem.F.slot_list_pop PySem.F.type_list_pop mt_pop (pe_fld (pv 0) rfl)))) pss_nil)
      (pss_one (ps_ret pe_int)), ?_⟩
    refine ⟨_, rfl, _, _, _, _, _, rfl, h.obE, T.cl, T.stack, lk_stack .., _, .inl ⟨_, SqL.of h.stk, rfl⟩, ?_⟩
    cases e : m.stk.getLast? with
    | none =>
      have e0 : m.stk = [] := List.getLast?_eq_none_iff.mp e
      have e1 : m.pop = m := by
        cases m
        simp only at e0
        subst e0
        rfl
      rw [e0]
      refine iteF ?_
      have := k H (by rw [e1]; exact h) (Frm.refl H)
      unfold MS.top at this
      rw [e0] at this
      exact this
    | some v =>
      have e0 : m.stk ≠ [] := fun q => by rw [q] at e; cases e
      have e2 : (!(List.map V.int m.stk).isEmpty) = true := by
        cases q : m.stk with
        | nil => exact absurd q e0
        | cons a r => rfl
      rw [e2]
      refine iteT ?_
      refine ⟨_, rfl, _, _, _, _, _, rfl, h.obE, T.cl, T.stack, lk_stack .., .inl ⟨rfl, _, SqL.of h.stk⟩, B.stk, _, V.int v, rfl, rfl, h.stk, ?_, ?_⟩
      · rw [← List.getLast?_eq_getElem?, List.getLast?_map, e]
        rfl
      · rw [dropLast_map]
        have := k _ (h.setStk (l := m.stk.dropLast) (Nat.le_refl _) (by have := h.sm.stk; simp; omega)) Frm.stk
        unfold MS.top at this
        rw [e] at this
        exact this
end
end Q3

set_option Elab.async false
set_option linter.all false
set_option maxRecDepth 100000
set_option maxHeartbeats 4000000
/-! the machine's deeds -/
namespace Q3
open PySem PySem.Spec PyProof.Rows L2
def spDeed (C : Addr) (d : Deed) : Sp := fun vs H Q _ => ∃ p A E m z g, vs = [.ref p, .int g] ∧ StAt C H p A E m z ∧ z < 100000 ∧ ∀ H', StAt C H' p A E (d E g m) (z + 1) → Frm p A H H' → Q .non H'
section
variable {C : Addr} {H : Hp} {p : Addr} {A : SA} {E : Ev} {m : MS} {z : Nat}
theorem StAt.putAt (h : StAt C H p A E m z) (v : Int) : StAt C (upd H p (.ins C h.ob.choose (putF "at" (.int v) (stF A m.pc m.plc h.ob.choose_spec.choose)))) p A E { m with pc := v } z := by
  rw [pt_at]; exact h.setP h.obE v m.plc _
theorem StAt.putPlace (h : StAt C H p A E m z) (v : Int) (n : Nat) (e : v = n) : StAt C (upd H p (.ins C h.ob.choose (putF "place" (.int v) (stF A m.pc m.plc h.ob.choose_spec.choose)))) p A E { m with plc := n } z := by
  rw [pt_place, e]; exact h.setP h.obE m.pc n _
theorem dec_vint (a b : Int) : decide (V.int a = V.int b) = decide (a = b) := by
  by_cases e : a = b
  · rw [e]; simp
  · rw [decide_eq_false e, decide_eq_false fun q => e (V.int.inj q)]
theorem ixN_def (n : Nat) (i : Int) : ixN n i = if 0 ≤ i then (if i < n then some i.toNat else none) else if -(n : Int) ≤ i then some ((n : Int) + i).toNat else none := by
  unfold ixN
  first
    | rfl
    | (split <;> split <;> first | rfl | (congr 1; omega) | omega)
theorem cell_at {l : List Int} {i : Int} (h1 : -(l.length : Int) ≤ i) (h2 : i < l.length) : atI (l.map V.int) i = some (V.int (cellAt l i)) := by
  unfold atI cellAt
  rw [ixN_def, List.length_map]
  by_cases h0 : 0 ≤ i
  · rw [if_pos h0, if_pos h2, if_pos h0]
    show (l.map V.int)[i.toNat]? = _
    rw [List.getElem?_map, List.getD_eq_getElem?_getD]
    have : i.toNat < l.length := by omega
    rw [List.getElem?_eq_getElem this]
    rfl
  · rw [if_neg h0, if_pos h1, if_neg h0, if_pos h1]
    show (l.map V.int)[((l.length : Int) + i).toNat]? = _
    rw [List.getElem?_map, List.getD_eq_getElem?_getD]
    have : ((l.length : Int) + i).toNat < l.length := by omega
    rw [List.getElem?_eq_getElem this]
    rfl
theorem cell_out {l : List Int} {i : Int} (h : ¬ (-(l.length : Int) ≤ i ∧ i < l.length)) : cellAt l i = 0 := by
  unfold cellAt
  by_cases h0 : 0 ≤ i
  · rw [if_pos h0, List.getD_eq_getElem?_getD, List.getElem?_eq_none (by omega)]
    rfl
  · rw [if_neg h0, if_neg (by omega)]
end
structure TG (mg : Str → Option Value) : Prop where
  len : mg "len" = none
  int : mg "int" = none
  low : ∃ t, mg "LAST_LOW" = some (.int 199 t)
section
variable {P : Program} {w : World} {K : PySem.W.Frag} {mg : Str → Option Value} {base : Heap} {f fP C : Addr} {fd fdP : FuncData}
theorem ok_Push (F : Fun K "_push" "_push" sPush f fd) (T : TM K C) (G : TG mg) (FP : Fun K "pull" "State.pull" sStPull fP fdP) (bP : Binds K fdP ["self"] []) (mP : Meth K C "pull" fP) : FnOk P w K mg base CX0 2 f fd ["state", "argument"] (spDeed C dPush) := by
  have GP : FnOk P w K mg base CX0 1 fP fdP ["self"] (spPull C) := ok_pull FP T
  refine F.ok scPush (fun vs H Q E h => ?_) (fun cdv A outer s H vs Q E hr h => ?_)
  · obtain ⟨p, A, E, m, z, g, rfl, _⟩ := h
    rfl
  · obtain ⟨p, B, Ev, m, z, g, rfl, h, hz, k⟩ := h
    have hu := hu_of hr
    have zz := Nat.lt_succ_self z
    refine ⟨_, (pss_one (ps_expr (pe_bm PySem.F.plainAttrs_list PySem.F.slot_list_append PySem.F.type_list_append mt_append (pe_fld (pv 0) rfl) (pa_cons (pv 1) pa_nil)))), ?_⟩
    exact ⟨_, rfl, _, _, _, _, _, rfl, h.obE, T.cl, T.stack, lk_stack .., .inl ⟨rfl, _, SqL.of h.stk⟩, _, rfl, _, _, _, rfl, rfl, h.stk, len_map _ h.sm.stk (by omega), k _ (h.push1 g zz) Frm.stk⟩
theorem ok_Plus (F : Fun K "_plus" "_plus" sPlus f fd) (T : TM K C) (G : TG mg) (FP : Fun K "pull" "State.pull" sStPull fP fdP) (bP : Binds K fdP ["self"] []) (mP : Meth K C "pull" fP) : FnOk P w K mg base CX0 2 f fd ["state", "argument"] (spDeed C dPlus) := by
  have GP : FnOk P w K mg base CX0 1 fP fdP ["self"] (spPull C) := ok_pull FP T
  refine F.ok scPlus (fun vs H Q E h => ?_) (fun cdv A outer s H vs Q E hr h => ?_)
  · obtain ⟨p, A, E, m, z, g, rfl, _⟩ := h
    rfl
  · obtain ⟨p, B, Ev, m, z, g, rfl, h, hz, k⟩ := h
    have hu := hu_of hr
    have zz := Nat.lt_succ_self z
    refine ⟨_, (pss_cons (ps_set (i := 2) scPlus.nd rfl (.inl rfl) (pe_meth0 (pv 0) T.cl mP GP hr bP .nil pass0)) (pss_one (ps_expr (pe_bm PySem.F.plainAttrs_list PySem.F.slot_list_append PySem.F.type_list_append mt_append (pe_fld (pv 0) rfl) (pa_cons (pe_op op_add (pe_meth0 (pv 0) T.cl mP GP hr bP .nil pass0) (pv 2)) pa_nil))))), ?_⟩
    refine ⟨_, rfl, _, _, _, rfl, h.obE, lk_pull .., _, _, _, _, _, rfl, h, fun H1 h1 f1 => ?_⟩
    refine ⟨_, rfl, _, _, _, _, _, rfl, h1.obE, T.cl, T.stack, lk_stack .., .inl ⟨rfl, _, SqL.of h1.stk⟩, _, rfl, _, _, _, rfl, h1.obE, lk_pull .., _, _, _, _, _, rfl, h1, fun H2 h2 f2 => ?_⟩
    exact ⟨_, rfl, _, _, rfl, rfl, _, _, _, rfl, rfl, h2.stk, len_map _ h2.sm.stk (by omega), k _ (h2.push1 _ zz) (f1.trans (f2.trans Frm.stk))⟩
theorem ok_Minus (F : Fun K "_minus" "_minus" sMinus f fd) (T : TM K C) (G : TG mg) (FP : Fun K "pull" "State.pull" sStPull fP fdP) (bP : Binds K fdP ["self"] []) (mP : Meth K C "pull" fP) : FnOk P w K mg base CX0 2 f fd ["state", "argument"] (spDeed C dMinus) := by
  have GP : FnOk P w K mg base CX0 1 fP fdP ["self"] (spPull C) := ok_pull FP T
  refine F.ok scMinus (fun vs H Q E h => ?_) (fun cdv A outer s H vs Q E hr h => ?_)
  · obtain ⟨p, A, E, m, z, g, rfl, _⟩ := h
    rfl
  · obtain ⟨p, B, Ev, m, z, g, rfl, h, hz, k⟩ := h
    have hu := hu_of hr
    have zz := Nat.lt_succ_self z
    refine ⟨_, (pss_cons (ps_set (i := 2) scMinus.nd rfl (.inl rfl) (pe_meth0 (pv 0) T.cl mP GP hr bP .nil pass0)) (pss_one (ps_expr (pe_bm PySem.F.plainAttrs_list PySem.F.slot_list_append PySem.F.type_list_append mt_append (pe_fld (pv 0) rfl) (pa_cons (pe_op op_sub (pe_meth0 (pv 0) T.cl mP GP hr bP .nil pass0) (pv 2)) pa_nil))))), ?_⟩
    refine ⟨_, rfl, _, _, _, rfl, h.obE, lk_pull .., _, _, _, _, _, rfl, h, fun H1 h1 f1 => ?_⟩
    refine ⟨_, rfl, _, _, _, _, _, rfl, h1.obE, T.cl, T.stack, lk_stack .., .inl ⟨rfl, _, SqL.of h1.stk⟩, _, rfl, _, _, _, rfl, h1.obE, lk_pull .., _, _, _, _, _, rfl, h1, fun H2 h2 f2 => ?_⟩
    exact ⟨_, rfl, _, _, rfl, rfl, _, _, _, rfl, rfl, h2.stk, len_map _ h2.sm.stk (by omega), k _ (h2.push1 _ zz) (f1.trans (f2.trans Frm.stk))⟩
theorem ok_Digit (F : Fun K "_digit" "_digit" sDigit f fd) (T : TM K C) (G : TG mg) (FP : Fun K "pull" "State.pull" sStPull fP fdP) (bP : Binds K fdP ["self"] []) (mP : Meth K C "pull" fP) : FnOk P w K mg base CX0 2 f fd ["state", "argument"] (spDeed C dDigit) := by
  have GP : FnOk P w K mg base CX0 1 fP fdP ["self"] (spPull C) := ok_pull FP T
  refine F.ok scDigit (fun vs H Q E h => ?_) (fun cdv A outer s H vs Q E hr h => ?_)
  · obtain ⟨p, A, E, m, z, g, rfl, _⟩ := h
    rfl
  · obtain ⟨p, B, Ev, m, z, g, rfl, h, hz, k⟩ := h
    have hu := hu_of hr
    have zz := Nat.lt_succ_self z
    refine ⟨_, (pss_cons (ps_set (i := 2) scDigit.nd rfl (.inl rfl) (pe_meth0 (pv 0) T.cl mP GP hr bP .nil pass0)) (pss_one (ps_expr (pe_bm PySem.F.plainAttrs_list PySem.F.slot_list_append PySem.F.type_list_append mt_append (pe_fld (pv 0) rfl) (pa_cons (pe_op op_add (pe_op op_mul pe_int (pe_meth0 (pv 0) T.cl mP GP hr bP .nil pass0)) (pv 2)) pa_nil))))), ?_⟩
    refine ⟨_, rfl, _, _, _, rfl, h.obE, lk_pull .., _, _, _, _, _, rfl, h, fun H1 h1 f1 => ?_⟩
    refine ⟨_, rfl, _, _, _, _, _, rfl, h1.obE, T.cl, T.stack, lk_stack .., .inl ⟨rfl, _, SqL.of h1.stk⟩, _, rfl, _, _, _, rfl, h1.obE, lk_pull .., _, _, _, _, _, rfl, h1, fun H2 h2 f2 => ?_⟩
    exact ⟨_, _, rfl, rfl, .inl ⟨by decide, by decide⟩, _, rfl, _, _, rfl, rfl, _, _, _, rfl, rfl, h2.stk, len_map _ h2.sm.stk (by omega), k _ (h2.push1 _ zz) (f1.trans (f2.trans Frm.stk))⟩
theorem ok_Less (F : Fun K "_less" "_less" sLess f fd) (T : TM K C) (G : TG mg) (FP : Fun K "pull" "State.pull" sStPull fP fdP) (bP : Binds K fdP ["self"] []) (mP : Meth K C "pull" fP) : FnOk P w K mg base CX0 2 f fd ["state", "argument"] (spDeed C dLess) := by
  have GP : FnOk P w K mg base CX0 1 fP fdP ["self"] (spPull C) := ok_pull FP T
  refine F.ok scLess (fun vs H Q E h => ?_) (fun cdv A outer s H vs Q E hr h => ?_)
  · obtain ⟨p, A, E, m, z, g, rfl, _⟩ := h
    rfl
  · obtain ⟨p, B, Ev, m, z, g, rfl, h, hz, k⟩ := h
    have hu := hu_of hr
    have zz := Nat.lt_succ_self z
    refine ⟨_, (pss_cons (ps_set (i := 2) scLess.nd rfl (.inl rfl) (pe_meth0 (pv 0) T.cl mP GP hr bP .nil pass0)) (pss_one (ps_expr (pe_bm PySem.F.plainAttrs_list PySem.F.slot_list_append PySem.F.type_list_append mt_append (pe_fld (pv 0) rfl) (pa_cons (pe_callTy call_int1 (by rfl) G.int (by decide +kernel) (pa_cons (pe_cmpR op_lt (pe_meth0 (pv 0) T.cl mP GP hr bP .nil pass0) (pv 2) (nomark _)) pa_nil)) pa_nil))))), ?_⟩
    refine ⟨_, rfl, _, _, _, rfl, h.obE, lk_pull .., _, _, _, _, _, rfl, h, fun H1 h1 f1 => ?_⟩
    refine ⟨_, rfl, _, _, _, _, _, rfl, h1.obE, T.cl, T.stack, lk_stack .., .inl ⟨rfl, _, SqL.of h1.stk⟩, _, rfl, _, _, _, rfl, h1.obE, lk_pull .., _, _, _, _, _, rfl, h1, fun H2 h2 f2 => ?_⟩
    exact ⟨_, rfl, _, _, rfl, rfl, .inr ⟨_, rfl, _, _, _, rfl, rfl, h2.stk, len_map _ h2.sm.stk (by omega), k _ (h2.push1 _ zz) (f1.trans (f2.trans Frm.stk))⟩⟩
theorem ok_Same (F : Fun K "_same" "_same" sSame f fd) (T : TM K C) (G : TG mg) (FP : Fun K "pull" "State.pull" sStPull fP fdP) (bP : Binds K fdP ["self"] []) (mP : Meth K C "pull" fP) : FnOk P w K mg base CX0 2 f fd ["state", "argument"] (spDeed C dSame) := by
  have GP : FnOk P w K mg base CX0 1 fP fdP ["self"] (spPull C) := ok_pull FP T
  refine F.ok scSame (fun vs H Q E h => ?_) (fun cdv A outer s H vs Q E hr h => ?_)
  · obtain ⟨p, A, E, m, z, g, rfl, _⟩ := h
    rfl
  · obtain ⟨p, B, Ev, m, z, g, rfl, h, hz, k⟩ := h
    have hu := hu_of hr
    have zz := Nat.lt_succ_self z
    refine ⟨_, (pss_cons (ps_set (i := 2) scSame.nd rfl (.inl rfl) (pe_meth0 (pv 0) T.cl mP GP hr bP .nil pass0)) (pss_one (ps_expr (pe_bm PySem.F.plainAttrs_list PySem.F.slot_list_append PySem.F.type_list_append mt_append (pe_fld (pv 0) rfl) (pa_cons (pe_callTy call_int1 (by rfl) G.int (by decide +kernel) (pa_cons (pe_cmpR op_eq (pe_meth0 (pv 0) T.cl mP GP hr bP .nil pass0) (pv 2) (nomark _)) pa_nil)) pa_nil))))), ?_⟩
    refine ⟨_, rfl, _, _, _, rfl, h.obE, lk_pull .., _, _, _, _, _, rfl, h, fun H1 h1 f1 => ?_⟩
    refine ⟨_, rfl, _, _, _, _, _, rfl, h1.obE, T.cl, T.stack, lk_stack .., .inl ⟨rfl, _, SqL.of h1.stk⟩, _, rfl, _, _, _, rfl, h1.obE, lk_pull .., _, _, _, _, _, rfl, h1, fun H2 h2 f2 => ?_⟩
    refine ⟨_, rfl, rfl, .inr ⟨_, rfl, _, _, _, rfl, rfl, h2.stk, len_map _ h2.sm.stk (by omega), ?_⟩⟩
    rw [dec_vint]
    exact k _ (h2.push1 _ zz) (f1.trans (f2.trans Frm.stk))
theorem ok_Load (F : Fun K "_load" "_load" sLoad f fd) (T : TM K C) (G : TG mg) (FP : Fun K "pull" "State.pull" sStPull fP fdP) (bP : Binds K fdP ["self"] []) (mP : Meth K C "pull" fP) : FnOk P w K mg base CX0 2 f fd ["state", "argument"] (spDeed C dLoad) := by
  have GP : FnOk P w K mg base CX0 1 fP fdP ["self"] (spPull C) := ok_pull FP T
  refine F.ok scLoad (fun vs H Q E h => ?_) (fun cdv A outer s H vs Q E hr h => ?_)
  · obtain ⟨p, A, E, m, z, g, rfl, _⟩ := h
    rfl
  · obtain ⟨p, B, Ev, m, z, g, rfl, h, hz, k⟩ := h
    have hu := hu_of hr
    have zz := Nat.lt_succ_self z
    refine ⟨_, (pss_one (ps_expr (pe_bm PySem.F.plainAttrs_list PySem.F.slot_list_append PySem.F.type_list_append mt_append (pe_fld (pv 0) rfl) (pa_cons (pe_dget2 hu (pe_fld (pv 0) rfl) (pe_meth0 (pv 0) T.cl mP GP hr bP .nil pass0) pe_int ⟨rfl, rfl, rfl, rfl⟩) pa_nil)))), ?_⟩
    obtain ⟨ks, e0, _, _⟩ := h.sto
    refine ⟨_, rfl, _, _, _, _, _, rfl, h.obE, T.cl, T.stack, lk_stack .., .inl ⟨rfl, _, SqL.of h.stk⟩, _, rfl, _, _, _, _, _, rfl, h.obE, T.cl, T.store, lk_store .., _, rfl, .inl ⟨ks, .inl e0⟩, _, rfl, _, _, _, rfl, h.obE, lk_pull .., _, _, _, _, _, rfl, h, fun H1 h1 f1 => ?_⟩
    obtain ⟨kvs, e1, hk, c⟩ := h1.sto
    refine ⟨_, DGet.k (k := Sum.inl m.top) e1, ?_⟩
    rw [c]
    exact ⟨_, _, _, rfl, rfl, h1.stk, len_map _ h1.sm.stk (by omega), k _ (h1.push1 _ zz) (f1.trans Frm.stk)⟩
theorem ok_Keep (F : Fun K "_keep" "_keep" sKeep f fd) (T : TM K C) (G : TG mg) (FP : Fun K "pull" "State.pull" sStPull fP fdP) (bP : Binds K fdP ["self"] []) (mP : Meth K C "pull" fP) : FnOk P w K mg base CX0 2 f fd ["state", "argument"] (spDeed C dKeep) := by
  have GP : FnOk P w K mg base CX0 1 fP fdP ["self"] (spPull C) := ok_pull FP T
  refine F.ok scKeep (fun vs H Q E h => ?_) (fun cdv A outer s H vs Q E hr h => ?_)
  · obtain ⟨p, A, E, m, z, g, rfl, _⟩ := h
    rfl
  · obtain ⟨p, B, Ev, m, z, g, rfl, h, hz, k⟩ := h
    have hu := hu_of hr
    have zz := Nat.lt_succ_self z
    refine ⟨_, (pss_cons (ps_set (i := 2) scKeep.nd rfl (.inl rfl) (pe_meth0 (pv 0) T.cl mP GP hr bP .nil pass0)) (pss_one (ps_dput hu (pe_fld (pv 0) rfl) (pv 2) (pe_meth0 (pv 0) T.cl mP GP hr bP .nil pass0) rfl))), ?_⟩
    refine ⟨_, rfl, _, _, _, rfl, h.obE, lk_pull .., _, _, _, _, _, rfl, h, fun H1 h1 f1 => ?_⟩
    refine ⟨_, rfl, _, _, _, rfl, h1.obE, lk_pull .., _, _, _, _, _, rfl, h1, fun H2 h2 f2 => ?_⟩
    obtain ⟨kvs, e2, hk, c⟩ := h2.sto
    exact ⟨_, rfl, _, _, _, _, _, rfl, h2.obE, T.cl, T.store, lk_store .., _, rfl, _, _, rfl, DPut.k (k := Sum.inl m.top) e2 (by rw [sizeLine_eq]; omega), k _ (h2.setSto e2 c hk m.top _) (f1.trans (f2.trans Frm.sto))⟩
theorem ok_Assign (F : Fun K "_assign" "_assign" sAssign f fd) (T : TM K C) (G : TG mg) (FP : Fun K "pull" "State.pull" sStPull fP fdP) (bP : Binds K fdP ["self"] []) (mP : Meth K C "pull" fP) : FnOk P w K mg base CX0 2 f fd ["state", "argument"] (spDeed C dAssign) := by
  have GP : FnOk P w K mg base CX0 1 fP fdP ["self"] (spPull C) := ok_pull FP T
  refine F.ok scAssign (fun vs H Q E h => ?_) (fun cdv A outer s H vs Q E hr h => ?_)
  · obtain ⟨p, A, E, m, z, g, rfl, _⟩ := h
    rfl
  · obtain ⟨p, B, Ev, m, z, g, rfl, h, hz, k⟩ := h
    have hu := hu_of hr
    have zz := Nat.lt_succ_self z
    refine ⟨_, (pss_one (ps_dput hu (pe_fld (pv 0) rfl) (pv 1) (pe_meth0 (pv 0) T.cl mP GP hr bP .nil pass0) rfl)), ?_⟩
    refine ⟨_, rfl, _, _, _, rfl, h.obE, lk_pull .., _, _, _, _, _, rfl, h, fun H1 h1 f1 => ?_⟩
    obtain ⟨kvs, e2, hk, c⟩ := h1.sto
    exact ⟨_, rfl, _, _, _, _, _, rfl, h1.obE, T.cl, T.store, lk_store .., _, rfl, _, _, rfl, DPut.k (k := Sum.inl g) e2 (by rw [sizeLine_eq]; omega), k _ (h1.setSto e2 c hk g _) (f1.trans Frm.sto)⟩
theorem ok_Take (F : Fun K "_take" "_take" sTake f fd) (T : TM K C) (G : TG mg) (FP : Fun K "pull" "State.pull" sStPull fP fdP) (bP : Binds K fdP ["self"] []) (mP : Meth K C "pull" fP) : FnOk P w K mg base CX0 2 f fd ["state", "argument"] (spDeed C dTake) := by
  have GP : FnOk P w K mg base CX0 1 fP fdP ["self"] (spPull C) := ok_pull FP T
  refine F.ok scTake (fun vs H Q E h => ?_) (fun cdv A outer s H vs Q E hr h => ?_)
  · obtain ⟨p, A, E, m, z, g, rfl, _⟩ := h
    rfl
  · obtain ⟨p, B, Ev, m, z, g, rfl, h, hz, k⟩ := h
    have hu := hu_of hr
    have zz := Nat.lt_succ_self z
    refine ⟨_, (pss_one (ps_if (pt_cmpR op_lt (pe_fld (pv 0) rfl) (pe_callB call_len_seq (by rfl) G.len PySem.boot_len (pa_cons (pe_fld (pv 0) rfl) pa_nil)) (nomark _)) (pss_cons (ps_expr (pe_bm PySem.F.plainAttrs_list PySem.F.slot_list_append PySem.F.type_list_append mt_append (pe_fld (pv 0) rfl) (pa_cons (pe_ix ix_list (pe_fld (pv 0) rfl) (pe_fld (pv 0) rfl) (fun _ _ => rfl)) pa_nil))) (pss_one (ps_fldaug (pv 0) pe_int in_add))) (pss_one (ps_expr (pe_bm PySem.F.plainAttrs_list PySem.F.slot_list_append PySem.F.type_list_append mt_append (pe_fld (pv 0) rfl) (pa_cons (pe_un un_neg pe_int) pa_nil)))))), ?_⟩
    refine ⟨_, rfl, _, _, _, _, _, rfl, h.obE, T.cl, T.place, lk_place .., _, rfl, _, _, _, _, _, rfl, h.obE, T.cl, T.numbers, lk_numbers .., _, _, rfl, .inl (SqL.of h.num), _, _, rfl, rfl, _, rfl, ?_⟩
    rw [List.length_map]
    cases e : Ev.num[m.plc]? with
    | none =>
      have e2 : Ev.num.length ≤ m.plc := List.getElem?_eq_none_iff.mp e
      rw [decide_eq_false (by omega)]
      refine iteF ⟨_, rfl, _, _, _, _, _, rfl, h.obE, T.cl, T.stack, lk_stack .., .inl ⟨rfl, _, SqL.of h.stk⟩, _, rfl, _, _, _, rfl, rfl, h.stk, len_map _ h.sm.stk (by omega), k _ ?_ Frm.stk⟩
      unfold dTake
      rw [e]
      exact h.push1 (-1) zz
    | some v =>
      have e2 : m.plc < Ev.num.length := (List.getElem?_eq_some_iff.mp e).1
      rw [decide_eq_true (by omega)]
      refine iteT ⟨_, rfl, _, _, _, _, _, rfl, h.obE, T.cl, T.stack, lk_stack .., .inl ⟨rfl, _, SqL.of h.stk⟩, _, rfl, _, _, _, _, _, rfl, h.obE, T.cl, T.numbers, lk_numbers .., _, rfl, _, _, _, _, _, rfl, h.obE, T.cl, T.place, lk_place .., _, _, _, .int v, rfl, rfl, SqL.of h.num, atI_nat (by rw [List.getElem?_map, e]; rfl), _, _, _, rfl, rfl, h.stk, len_map _ h.sm.stk (by omega), ?_⟩
      have h1 := h.push1 v zz
      refine ⟨_, rfl, _, _, _, _, _, rfl, h1.obE, T.cl, T.place, lk_place .., _, _, rfl, rfl, _, _, h1.obE, (by show 10 < 1000; decide), k _ ?_ (Frm.stk.trans Frm.p)⟩
      unfold dTake
      rw [e]
      exact h1.putPlace _ (m.plc + 1) (by show (m.plc : Int) + 1 = _; omega)
theorem ok_Rewind (F : Fun K "_rewind" "_rewind" sRewind f fd) (T : TM K C) (G : TG mg) (FP : Fun K "pull" "State.pull" sStPull fP fdP) (bP : Binds K fdP ["self"] []) (mP : Meth K C "pull" fP) : FnOk P w K mg base CX0 2 f fd ["state", "argument"] (spDeed C dRewind) := by
  have GP : FnOk P w K mg base CX0 1 fP fdP ["self"] (spPull C) := ok_pull FP T
  refine F.ok scRewind (fun vs H Q E h => ?_) (fun cdv A outer s H vs Q E hr h => ?_)
  · obtain ⟨p, A, E, m, z, g, rfl, _⟩ := h
    rfl
  · obtain ⟨p, B, Ev, m, z, g, rfl, h, hz, k⟩ := h
    have hu := hu_of hr
    have zz := Nat.lt_succ_self z
    refine ⟨_, (pss_one (ps_fld (pv 0) pe_int rfl)), ?_⟩
    exact ⟨_, rfl, _, _, _, _, rfl, h.obE, T.cl, T.place, (by show 10 < 1000; decide), k _ ((h.mono (Nat.le_succ z)).putPlace 0 0 rfl) Frm.p⟩
theorem ok_Emit (F : Fun K "_emit" "_emit" sEmit f fd) (T : TM K C) (G : TG mg) (FP : Fun K "pull" "State.pull" sStPull fP fdP) (bP : Binds K fdP ["self"] []) (mP : Meth K C "pull" fP) : FnOk P w K mg base CX0 2 f fd ["state", "argument"] (spDeed C dEmit) := by
  have GP : FnOk P w K mg base CX0 1 fP fdP ["self"] (spPull C) := ok_pull FP T
  refine F.ok scEmit (fun vs H Q E h => ?_) (fun cdv A outer s H vs Q E hr h => ?_)
  · obtain ⟨p, A, E, m, z, g, rfl, _⟩ := h
    rfl
  · obtain ⟨p, B, Ev, m, z, g, rfl, h, hz, k⟩ := h
    have hu := hu_of hr
    have zz := Nat.lt_succ_self z
    refine ⟨_, (pss_one (ps_expr (pe_bm PySem.F.plainAttrs_list PySem.F.slot_list_append PySem.F.type_list_append mt_append (pe_fld (pv 0) rfl) (pa_cons (pe_meth0 (pv 0) T.cl mP GP hr bP .nil pass0) pa_nil)))), ?_⟩
    refine ⟨_, rfl, _, _, _, _, _, rfl, h.obE, T.cl, T.output, lk_output .., .inl ⟨rfl, _, SqL.of h.out⟩, _, rfl, _, _, _, rfl, h.obE, lk_pull .., _, _, _, _, _, rfl, h, fun H1 h1 f1 => ?_⟩
    exact ⟨_, _, _, rfl, rfl, h1.out, len_map _ h1.sm.out (by omega), k _ (h1.pushOut _ zz) (f1.trans Frm.out)⟩
theorem ok_Cell (F : Fun K "_cell" "_cell" sCell f fd) (T : TM K C) (G : TG mg) (FP : Fun K "pull" "State.pull" sStPull fP fdP) (bP : Binds K fdP ["self"] []) (mP : Meth K C "pull" fP) : FnOk P w K mg base CX0 2 f fd ["state", "argument"] (spDeed C dCell) := by
  have GP : FnOk P w K mg base CX0 1 fP fdP ["self"] (spPull C) := ok_pull FP T
  refine F.ok scCell (fun vs H Q E h => ?_) (fun cdv A outer s H vs Q E hr h => ?_)
  · obtain ⟨p, A, E, m, z, g, rfl, _⟩ := h
    rfl
  · obtain ⟨p, B, Ev, m, z, g, rfl, h, hz, k⟩ := h
    have hu := hu_of hr
    have zz := Nat.lt_succ_self z
    refine ⟨_, (pss_cons (ps_set (i := 2) scCell.nd rfl (.inl rfl) (pe_meth0 (pv 0) T.cl mP GP hr bP .nil pass0)) (pss_one (ps_if (pt_chain op_le op_lt (pe_un un_neg (pe_callB call_len_seq (by rfl) G.len PySem.boot_len (pa_cons (pe_fld (pv 0) rfl) pa_nil))) (pv 2) (pe_callB call_len_seq (by rfl) G.len PySem.boot_len (pa_cons (pe_fld (pv 0) rfl) pa_nil))) (pss_one (ps_expr (pe_bm PySem.F.plainAttrs_list PySem.F.slot_list_append PySem.F.type_list_append mt_append (pe_fld (pv 0) rfl) (pa_cons (pe_ix ix_list (pe_fld (pv 0) rfl) (pv 2) (fun _ _ => rfl)) pa_nil)))) (pss_one (ps_expr (pe_bm PySem.F.plainAttrs_list PySem.F.slot_list_append PySem.F.type_list_append mt_append (pe_fld (pv 0) rfl) (pa_cons pe_int pa_nil))))))), ?_⟩
    refine ⟨_, rfl, _, _, _, rfl, h.obE, lk_pull .., _, _, _, _, _, rfl, h, fun H1 h1 f1 => ?_⟩
    refine ⟨_, rfl, _, _, _, _, _, rfl, h1.obE, T.cl, T.image, lk_image .., _, _, rfl, .inl (SqL.of h1.img), _, rfl, _, rfl, _, _, rfl, rfl, _, rfl, ?_⟩
    rw [List.length_map]
    have out : ¬ (-(Ev.img.length : Int) ≤ m.top ∧ m.top < Ev.img.length) → cellAt Ev.img m.top = 0 := cell_out
    by_cases a : -(Ev.img.length : Int) ≤ m.top
    · rw [decide_eq_true a]
      refine iteT ⟨_, rfl, _, _, _, _, _, rfl, h1.obE, T.cl, T.image, lk_image .., _, _, rfl, .inl (SqL.of h1.img), _, _, rfl, rfl, _, rfl, ?_⟩
      rw [List.length_map]
      by_cases b : m.top < Ev.img.length
      · rw [decide_eq_true b]
        refine iteT ⟨_, rfl, _, _, _, _, _, rfl, h1.obE, T.cl, T.stack, lk_stack .., .inl ⟨rfl, _, SqL.of h1.stk⟩, _, rfl, _, _, _, _, _, rfl, h1.obE, T.cl, T.image, lk_image .., _, rfl, _, _, _, _, rfl, rfl, SqL.of h1.img, cell_at a b, _, _, _, rfl, rfl, h1.stk, len_map _ h1.sm.stk (by omega), k _ (h1.push1 _ zz) (f1.trans Frm.stk)⟩
      · rw [decide_eq_false b]
        refine iteF ⟨_, rfl, _, _, _, _, _, rfl, h1.obE, T.cl, T.stack, lk_stack .., .inl ⟨rfl, _, SqL.of h1.stk⟩, _, _, _, rfl, rfl, h1.stk, len_map _ h1.sm.stk (by omega), k _ ?_ (f1.trans Frm.stk)⟩
        unfold dCell
        rw [out (fun q => b q.2)]
        exact h1.push1 0 zz
    · rw [decide_eq_false a]
      refine ⟨_, rfl, iteF ⟨_, rfl, _, _, _, _, _, rfl, h1.obE, T.cl, T.stack, lk_stack .., .inl ⟨rfl, _, SqL.of h1.stk⟩, _, _, _, rfl, rfl, h1.stk, len_map _ h1.sm.stk (by omega), k _ ?_ (f1.trans Frm.stk)⟩⟩
      unfold dCell
      rw [out (fun q => a q.1)]
      exact h1.push1 0 zz
theorem ok_Drop (F : Fun K "_drop" "_drop" sDrop f fd) (T : TM K C) (G : TG mg) (FP : Fun K "pull" "State.pull" sStPull fP fdP) (bP : Binds K fdP ["self"] []) (mP : Meth K C "pull" fP) : FnOk P w K mg base CX0 2 f fd ["state", "argument"] (spDeed C dDrop) := by
  have GP : FnOk P w K mg base CX0 1 fP fdP ["self"] (spPull C) := ok_pull FP T
  refine F.ok scDrop (fun vs H Q E h => ?_) (fun cdv A outer s H vs Q E hr h => ?_)
  · obtain ⟨p, A, E, m, z, g, rfl, _⟩ := h
    rfl
  · obtain ⟨p, B, Ev, m, z, g, rfl, h, hz, k⟩ := h
    have hu := hu_of hr
    have zz := Nat.lt_succ_self z
    refine ⟨_, (pss_one (ps_expr (pe_meth0 (pv 0) T.cl mP GP hr bP .nil pass0))), ?_⟩
    refine ⟨_, rfl, _, _, _, rfl, h.obE, lk_pull .., _, _, _, _, _, rfl, h, fun H1 h1 f1 => ?_⟩
    exact k _ (h1.mono (Nat.le_succ z)) f1
theorem ok_Double (F : Fun K "_double" "_double" sDouble f fd) (T : TM K C) (G : TG mg) (FP : Fun K "pull" "State.pull" sStPull fP fdP) (bP : Binds K fdP ["self"] []) (mP : Meth K C "pull" fP) : FnOk P w K mg base CX0 2 f fd ["state", "argument"] (spDeed C dDouble) := by
  have GP : FnOk P w K mg base CX0 1 fP fdP ["self"] (spPull C) := ok_pull FP T
  refine F.ok scDouble (fun vs H Q E h => ?_) (fun cdv A outer s H vs Q E hr h => ?_)
  · obtain ⟨p, A, E, m, z, g, rfl, _⟩ := h
    rfl
  · obtain ⟨p, B, Ev, m, z, g, rfl, h, hz, k⟩ := h
    have hu := hu_of hr
    have zz := Nat.lt_succ_self z
    refine ⟨_, (pss_cons (ps_set (i := 2) scDouble.nd rfl (.inl rfl) (pe_meth0 (pv 0) T.cl mP GP hr bP .nil pass0)) (pss_one (ps_expr (pe_bm PySem.F.plainAttrs_list PySem.F.slot_list_extend PySem.F.type_list_extend mt_extend (pe_fld (pv 0) rfl) (pa_cons (pe_lst (pa_cons (pv 2) (pa_cons (pv 2) pa_nil))) pa_nil))))), ?_⟩
    refine ⟨_, rfl, _, _, _, rfl, h.obE, lk_pull .., _, _, _, _, _, rfl, h, fun H1 h1 f1 => ?_⟩
    refine ⟨_, rfl, _, _, _, _, _, rfl, h1.obE, T.cl, T.stack, lk_stack .., .inl ⟨rfl, _, SqL.of h1.stk⟩, _, rfl, _, rfl, (by show 2 ≤ sizeLine; decide), fun l hl => ?_⟩
    have h2 := h1.fresh (u := .lst [.int m.top, .int m.top]) hl
    exact ⟨_, _, _, _, rfl, rfl, h2.stk, upd_same, (by have := h2.sm.stk; rw [sizeLine_eq, List.length_map]; show _ + 2 ≤ _; omega), k _ (h2.push2 _ _ zz) (f1.trans ((Frm.new hl).trans Frm.stk))⟩
theorem ok_Exchange (F : Fun K "_exchange" "_exchange" sExchange f fd) (T : TM K C) (G : TG mg) (FP : Fun K "pull" "State.pull" sStPull fP fdP) (bP : Binds K fdP ["self"] []) (mP : Meth K C "pull" fP) : FnOk P w K mg base CX0 2 f fd ["state", "argument"] (spDeed C dExchange) := by
  have GP : FnOk P w K mg base CX0 1 fP fdP ["self"] (spPull C) := ok_pull FP T
  refine F.ok scExchange (fun vs H Q E h => ?_) (fun cdv A outer s H vs Q E hr h => ?_)
  · obtain ⟨p, A, E, m, z, g, rfl, _⟩ := h
    rfl
  · obtain ⟨p, B, Ev, m, z, g, rfl, h, hz, k⟩ := h
    have hu := hu_of hr
    have zz := Nat.lt_succ_self z
    refine ⟨_, (pss_cons (ps_set (i := 2) scExchange.nd rfl (.inl rfl) (pe_meth0 (pv 0) T.cl mP GP hr bP .nil pass0)) (pss_cons (ps_set (i := 3) scExchange.nd rfl (.inl rfl) (pe_meth0 (pv 0) T.cl mP GP hr bP .nil pass0)) (pss_one (ps_expr (pe_bm PySem.F.plainAttrs_list PySem.F.slot_list_extend PySem.F.type_list_extend mt_extend (pe_fld (pv 0) rfl) (pa_cons (pe_lst (pa_cons (pv 2) (pa_cons (pv 3) pa_nil))) pa_nil)))))), ?_⟩
    refine ⟨_, rfl, _, _, _, rfl, h.obE, lk_pull .., _, _, _, _, _, rfl, h, fun H1 h1 f1 => ?_⟩
    refine ⟨_, rfl, _, _, _, rfl, h1.obE, lk_pull .., _, _, _, _, _, rfl, h1, fun H2 h2 f2 => ?_⟩
    refine ⟨_, rfl, _, _, _, _, _, rfl, h2.obE, T.cl, T.stack, lk_stack .., .inl ⟨rfl, _, SqL.of h2.stk⟩, _, rfl, _, rfl, (by show 2 ≤ sizeLine; decide), fun l hl => ?_⟩
    have h3 := h2.fresh (u := .lst [.int m.top, .int m.pop.top]) hl
    exact ⟨_, _, _, _, rfl, rfl, h3.stk, upd_same, (by have := h3.sm.stk; rw [sizeLine_eq, List.length_map]; show _ + 2 ≤ _; omega), k _ (h3.push2 _ _ zz) (f1.trans (f2.trans ((Frm.new hl).trans Frm.stk)))⟩
theorem ok_Test (F : Fun K "_test" "_test" sTest f fd) (T : TM K C) (G : TG mg) (FP : Fun K "pull" "State.pull" sStPull fP fdP) (bP : Binds K fdP ["self"] []) (mP : Meth K C "pull" fP) : FnOk P w K mg base CX0 2 f fd ["state", "argument"] (spDeed C dTest) := by
  have GP : FnOk P w K mg base CX0 1 fP fdP ["self"] (spPull C) := ok_pull FP T
  refine F.ok scTest (fun vs H Q E h => ?_) (fun cdv A outer s H vs Q E hr h => ?_)
  · obtain ⟨p, A, E, m, z, g, rfl, _⟩ := h
    rfl
  · obtain ⟨p, B, Ev, m, z, g, rfl, h, hz, k⟩ := h
    have hu := hu_of hr
    have zz := Nat.lt_succ_self z
    refine ⟨_, (pss_one (ps_if (pt_cmpR op_eq (pe_meth0 (pv 0) T.cl mP GP hr bP .nil pass0) pe_int (nomark _)) (pss_one (ps_fld (pv 0) (pv 1) rfl)) pss_nil)), ?_⟩
    refine ⟨_, rfl, _, _, _, rfl, h.obE, lk_pull .., _, _, _, _, _, rfl, h, fun H1 h1 f1 => ?_⟩
    have h1' := h1.mono (Nat.le_succ z)
    refine ⟨rfl, _, rfl, ?_⟩
    rw [dec_vint]
    by_cases e : m.top = 0
    · rw [decide_eq_true e]
      refine iteT ⟨_, rfl, _, rfl, _, _, _, _, rfl, h1'.obE, T.cl, T.at_, (by show 10 < 1000; decide), k _ ?_ (f1.trans Frm.p)⟩
      unfold dTest
      rw [if_pos e]
      exact h1'.putAt g
    · rw [decide_eq_false e]
      refine iteF (k _ ?_ f1)
      unfold dTest
      rw [if_neg e]
      exact h1' 
theorem ok_Call (F : Fun K "_call" "_call" sCall f fd) (T : TM K C) (G : TG mg) (FP : Fun K "pull" "State.pull" sStPull fP fdP) (bP : Binds K fdP ["self"] []) (mP : Meth K C "pull" fP) : FnOk P w K mg base CX0 2 f fd ["state", "argument"] (spDeed C dCall) := by
  have GP : FnOk P w K mg base CX0 1 fP fdP ["self"] (spPull C) := ok_pull FP T
  refine F.ok scCall (fun vs H Q E h => ?_) (fun cdv A outer s H vs Q E hr h => ?_)
  · obtain ⟨p, A, E, m, z, g, rfl, _⟩ := h
    rfl
  · obtain ⟨p, B, Ev, m, z, g, rfl, h, hz, k⟩ := h
    have hu := hu_of hr
    have zz := Nat.lt_succ_self z
    refine ⟨_, (pss_cons (ps_set (i := 2) scCall.nd rfl (.inl rfl) (pe_meth0 (pv 0) T.cl mP GP hr bP .nil pass0)) (pss_cons (ps_expr (pe_bm PySem.F.plainAttrs_list PySem.F.slot_list_append PySem.F.type_list_append mt_append (pe_fld (pv 0) rfl) (pa_cons (pe_fld (pv 0) rfl) pa_nil))) (pss_one (ps_fld (pv 0) (pv 2) rfl)))), ?_⟩
    refine ⟨_, rfl, _, _, _, rfl, h.obE, lk_pull .., _, _, _, _, _, rfl, h, fun H1 h1 f1 => ?_⟩
    refine ⟨_, rfl, _, _, _, _, _, rfl, h1.obE, T.cl, T.back, lk_back .., .inl ⟨rfl, _, SqL.of h1.bak⟩, _, rfl, _, _, _, _, _, rfl, h1.obE, T.cl, T.at_, lk_at .., _, _, _, rfl, rfl, h1.bak, len_map _ h1.sm.bak (by omega), ?_⟩
    have h2 := h1.pushBak m.pc zz
    exact ⟨_, rfl, _, rfl, _, _, _, _, rfl, h2.obE, T.cl, T.at_, (by show 10 < 1000; decide), k _ (h2.putAt m.top) (f1.trans (Frm.bak.trans Frm.p))⟩
theorem ok_CallLow (F : Fun K "_call_low" "_call_low" sCallLow f fd) (T : TM K C) (G : TG mg) (FP : Fun K "pull" "State.pull" sStPull fP fdP) (bP : Binds K fdP ["self"] []) (mP : Meth K C "pull" fP) : FnOk P w K mg base CX0 2 f fd ["state", "argument"] (spDeed C dCallLow) := by
  have GP : FnOk P w K mg base CX0 1 fP fdP ["self"] (spPull C) := ok_pull FP T
  refine F.ok scCallLow (fun vs H Q E h => ?_) (fun cdv A outer s H vs Q E hr h => ?_)
  · obtain ⟨p, A, E, m, z, g, rfl, _⟩ := h
    rfl
  · obtain ⟨p, B, Ev, m, z, g, rfl, h, hz, k⟩ := h
    have hu := hu_of hr
    have zz := Nat.lt_succ_self z
    refine ⟨_, (pss_cons (ps_set (i := 2) scCallLow.nd rfl (.inl rfl) (pe_meth0 (pv 0) T.cl mP GP hr bP .nil pass0)) (pss_one (ps_if (PW.pt (pw_and (pt_chain op_le op_le pe_int (pv 2) (pe_glob (v := .int 199) rfl G.low.choose_spec ⟨_, rfl⟩)) (pw_and1 (pt_cmp (pc_din hu (pv 2) (pe_fld (pv 0) rfl)))))) (pss_cons (ps_expr (pe_bm PySem.F.plainAttrs_list PySem.F.slot_list_append PySem.F.type_list_append mt_append (pe_fld (pv 0) rfl) (pa_cons (pe_fld (pv 0) rfl) pa_nil))) (pss_one (ps_fld (pv 0) (pv 2) rfl))) (pss_one (ps_expr (pe_bm PySem.F.plainAttrs_list PySem.F.slot_list_append PySem.F.type_list_append mt_append (pe_fld (pv 0) rfl) (pa_cons (pv 2) pa_nil))))))), ?_⟩
    refine ⟨_, rfl, _, _, _, rfl, h.obE, lk_pull .., _, _, _, _, _, rfl, h, fun H1 h1 f1 => ?_⟩
    refine ⟨_, rfl, _, _, rfl, rfl, _, rfl, ?_⟩
    have no : ¬ (1 ≤ m.top ∧ m.top ≤ 199 ∧ (Ev.tbl m.top).isSome = true) → dCallLow Ev g m = m.pop.push m.top := fun q => by unfold dCallLow; rw [if_neg q]
    by_cases a : 1 ≤ m.top
    · rw [decide_eq_true a]
      refine iteT ⟨_, _, rfl, rfl, _, rfl, ?_⟩
      by_cases b : m.top ≤ 199
      · rw [decide_eq_true b]
        obtain ⟨kvs, t1, t2, t3⟩ := h1.tbl.ex
        refine iteT ⟨_, rfl, _, rfl, _, _, _, _, _, rfl, h1.obE, T.cl, T.table, lk_table .., _, _, rfl, DGet.k (k := Sum.inl m.top) t1, _, rfl, ?_⟩
        cases c : Ev.tbl m.top with
        | none =>
          rw [t2 _ c]
          refine iteF ⟨_, rfl, _, _, _, _, _, rfl, h1.obE, T.cl, T.stack, lk_stack .., .inl ⟨rfl, _, SqL.of h1.stk⟩, _, rfl, _, _, _, rfl, rfl, h1.stk, len_map _ h1.sm.stk (by omega), k _ ?_ (f1.trans Frm.stk)⟩
          rw [no (fun q => by rw [c] at q; cases q.2.2)]
          exact h1.push1 _ zz
        | some q =>
          obtain ⟨o, g', n⟩ := q
          obtain ⟨a', e1, e2⟩ := t3 _ _ _ _ c
          rw [e1]
          refine iteT ⟨_, rfl, _, _, _, _, _, rfl, h1.obE, T.cl, T.back, lk_back .., .inl ⟨rfl, _, SqL.of h1.bak⟩, _, rfl, _, _, _, _, _, rfl, h1.obE, T.cl, T.at_, lk_at .., _, _, _, rfl, rfl, h1.bak, len_map _ h1.sm.bak (by omega), ?_⟩
          have h2 := h1.pushBak m.pc zz
          refine ⟨_, rfl, _, rfl, _, _, _, _, rfl, h2.obE, T.cl, T.at_, (by show 10 < 1000; decide), k _ ?_ (f1.trans (Frm.bak.trans Frm.p))⟩
          have e3 : dCallLow Ev g m = { m.pop with bak := m.bak ++ [m.pc], pc := m.top } := by
            unfold dCallLow
            rw [if_pos ⟨a, b, by rw [c]; rfl⟩]
          rw [e3]
          exact h2.putAt m.top
      · rw [decide_eq_false b]
        refine iteF ⟨_, rfl, _, _, _, _, _, rfl, h1.obE, T.cl, T.stack, lk_stack .., .inl ⟨rfl, _, SqL.of h1.stk⟩, _, rfl, _, _, _, rfl, rfl, h1.stk, len_map _ h1.sm.stk (by omega), k _ ?_ (f1.trans Frm.stk)⟩
        rw [no (fun q => b q.2.1)]
        exact h1.push1 _ zz
    · rw [decide_eq_false a]
      refine ⟨_, rfl, iteF ⟨_, rfl, _, _, _, _, _, rfl, h1.obE, T.cl, T.stack, lk_stack .., .inl ⟨rfl, _, SqL.of h1.stk⟩, _, rfl, _, _, _, rfl, rfl, h1.stk, len_map _ h1.sm.stk (by omega), k _ ?_ (f1.trans Frm.stk)⟩⟩
      rw [no (fun q => a q.1)]
      exact h1.push1 _ zz
theorem ok_Return (F : Fun K "_return" "_return" sReturn f fd) (T : TM K C) (G : TG mg) (FP : Fun K "pull" "State.pull" sStPull fP fdP) (bP : Binds K fdP ["self"] []) (mP : Meth K C "pull" fP) : FnOk P w K mg base CX0 2 f fd ["state", "argument"] (spDeed C dReturn) := by
  have GP : FnOk P w K mg base CX0 1 fP fdP ["self"] (spPull C) := ok_pull FP T
  refine F.ok scReturn (fun vs H Q E h => ?_) (fun cdv A outer s H vs Q E hr h => ?_)
  · obtain ⟨p, A, E, m, z, g, rfl, _⟩ := h
    rfl
  · obtain ⟨p, B, Ev, m, z, g, rfl, h, hz, k⟩ := h
    have hu := hu_of hr
    have zz := Nat.lt_succ_self z
    refine ⟨_, (pss_one (ps_if (pt_truth (pe_fld (pv 0) rfl) (by intro _; rfl)) (pss_one (ps_fld (pv 0) (pe_bm0 PySem.F.plainAttrs_list PySem.F.slot_list_pop PySem.F.type_list_pop mt_pop (pe_fld (pv 0) rfl)) rfl)) pss_nil)), ?_⟩
    have hh := h.mono (Nat.le_succ z)
    refine ⟨_, rfl, _, _, _, _, _, rfl, hh.obE, T.cl, T.back, lk_back .., _, .inl ⟨_, SqL.of hh.bak, rfl⟩, ?_⟩
    cases e : m.bak.getLast? with
    | none =>
      have e0 : m.bak = [] := List.getLast?_eq_none_iff.mp e
      rw [e0]
      refine iteF (k _ ?_ (Frm.refl H))
      unfold dReturn
      rw [e]
      exact hh
    | some v =>
      have e0 : m.bak ≠ [] := fun q => by rw [q] at e; cases e
      have e2 : (!(List.map V.int m.bak).isEmpty) = true := by
        cases q : m.bak with
        | nil => exact absurd q e0
        | cons a r => rfl
      rw [e2]
      refine iteT ⟨_, rfl, _, _, _, _, _, rfl, hh.obE, T.cl, T.back, lk_back .., .inl ⟨rfl, _, SqL.of hh.bak⟩, _, _, V.int v, rfl, rfl, hh.bak, ?_, ?_⟩
      · rw [← List.getLast?_eq_getElem?, List.getLast?_map, e]
        rfl
      · rw [dropLast_map]
        have h1 := hh.setBak (l := m.bak.dropLast) (Nat.le_refl _) (by have := hh.sm.bak; simp; omega)
        refine ⟨_, rfl, _, _, _, _, rfl, h1.obE, T.cl, T.at_, (by show 10 < 1000; decide), k _ ?_ (Frm.bak.trans Frm.p)⟩
        unfold dReturn
        rw [e]
        exact h1.putAt v
end
end Q3

set_option Elab.async false
set_option linter.all false
set_option maxRecDepth 100000
set_option maxHeartbeats 4000000
/-! nodes_of, table_of -/
namespace Q3
open PySem PySem.Spec PyProof.Rows L2
theorem upd_old {H : Hp} {b c : Addr} {o u : HO} (h : H b = some o) (hc : H c = none) : upd H c u b = some o := by rw [upd_ne (ne_of_none h hc)]; exact h
theorem upd_kind {H : Hp} {b c : Addr} {o o' u : HO} (h : H b = some o) (hc : H c = some o') (d : o ≠ o') : upd H c u b = some o := by rw [upd_ne (ne_of h hc d)]; exact h
theorem Same.one {H : Hp} {c : Addr} {u : HO} (hc : H c = none) : Same H (upd H c u) := fun _ _ e => upd_old e hc
theorem free_of {H : Hp} {b c : Addr} {u : HO} (h : upd H c u b = none) : H b = none ∧ b ≠ c := by
  by_cases e : b = c
  · subst e; rw [upd_same] at h; cases h
  · rw [upd_ne e] at h; exact ⟨h, e⟩
/-! the mathematics of nodes -/
theorem nodes_len : ∀ l : List Int, (nodesL l).length = l.length / 4
  | [] => rfl
  | [_] => by simp [nodesL]
  | [_, _] => by simp [nodesL]
  | [_, _, _] => by simp [nodesL]
  | a :: b :: c :: d :: r => by
    have := nodes_len r
    simp only [nodesL, List.length_cons, this]
    omega
theorem nodes_get : ∀ (l : List Int) (i : Nat), i < l.length / 4 → ∃ q, (nodesL l)[i]? = some q ∧ (l.drop (4 * i)).take 4 = [q.1, q.2.1, q.2.2.1, q.2.2.2]
  | [], i, h => by simp at h
  | [_], i, h => by simp at h
  | [_, _], i, h => by simp at h
  | [_, _, _], i, h => by simp at h
  | a :: b :: c :: d :: r, 0, _ => ⟨(a, b, c, d), rfl, rfl⟩
  | a :: b :: c :: d :: r, i + 1, h => by
    simp only [List.length_cons] at h
    obtain ⟨q, h1, h2⟩ := nodes_get r i (by omega)
    refine ⟨q, by simpa [nodesL] using h1, ?_⟩
    have e : 4 * (i + 1) = 4 * i + 1 + 1 + 1 + 1 := by omega
    rw [e]
    simpa using h2
theorem tbl_succ {l : List (Int × Int × Int × Int)} {i : Nat} {q : Int × Int × Int × Int} (h : l[i]? = some q) (n : Int) : tblOf (l.take (i + 1)) n = if n = q.1 then some q.2 else tblOf (l.take i) n := by
  unfold tblOf
  rw [List.take_add_one, h, List.foldl_append]
  rfl
def NodeAt (H : Hp) (a : Addr) (q : Int × Int × Int × Int) : Prop := H a = some (.tup [.int q.1, .int q.2.1, .int q.2.2.1, .int q.2.2.2])
theorem cut4 {l : List Int} {i : Nat} (h : i < l.length / 4) {q : Int × Int × Int × Int} (e : (l.drop (4 * i)).take 4 = [q.1, q.2.1, q.2.2.1, q.2.2.2]) :
    cutV (l.map V.int) (some (0 + (i : Nat) * 4)) (some (0 + (i : Nat) * 4 + 4)) = [V.int q.1, V.int q.2.1, V.int q.2.2.1, V.int q.2.2.2] := by
  have a1 : (0 + (i : Nat) * 4 : Int) = ((4 * i : Nat) : Int) := by omega
  have a2 : (0 + (i : Nat) * 4 + 4 : Int) = ((4 * i + 4 : Nat) : Int) := by omega
  unfold cutV
  rw [a2, a1, HT.sIx_nat, HT.sIx_nat, List.length_map, Nat.min_eq_left (by omega), Nat.min_eq_left (by omega), ← List.map_drop, ← List.map_take]
  have a3 : 4 * i + 4 - 4 * i = 4 := by omega
  rw [a3, e]
  rfl
theorem rg4 (n : Nat) (hn : n ≤ 100000) : RgC 0 ((n : Int) - 3) 4 (n / 4) := by
  have e : Builtin.Range.rangeSize 0 ((n : Int) - 3) 4 = ((n / 4 : Nat) : Int) := by
    unfold Builtin.Range.rangeSize
    rw [if_pos (by decide)]
    split <;> omega
  refine ⟨by decide, by decide, ?_, e⟩
  unfold Builtin.Range.small
  rw [e]
  simp only [Builtin.Range.rangeFitsLong, Bool.and_eq_true, Bool.or_eq_true, decide_eq_true_eq, beq_iff_eq]
  refine ⟨⟨⟨⟨by omega, by omega⟩, by omega⟩, by omega⟩, .inr ?_⟩
  rw [if_pos (by decide)]
  simp only [Bool.and_eq_true, decide_eq_true_eq]
  omega
structure TN (mg : Str → Option Value) : Prop where
  len : mg "len" = none
  range : mg "range" = none
  tuple : mg "tuple" = none
section
variable {P : Program} {w : World} {K : PySem.W.Frag} {mg : Str → Option Value} {base : Heap} {f fN : Addr} {fd fdN : FuncData}
def spNodes (K : PySem.W.Frag) : Sp := fun vs H Q _ => ∃ a img, vs = [.ref a] ∧ SqL K H a (img.map V.int) ∧ img.length ≤ 100000 ∧
  ∀ H' p as, Same H H' → H p = none → H' p = some (.lst (as.map V.ref)) → Paired (NodeAt H') as (nodesL img) → Q (.ref p) H'
theorem ok_nodes (F : Fun K "nodes_of" "nodes_of" sNodesOf f fd) (T : TN mg) : FnOk P w K mg base CX0 1 f fd ["image"] (spNodes K) := by
  refine F.ok scNodesOf (fun vs H Q E h => ?_) (fun cdv A outer s H vs Q E hr h => ?_)
  · obtain ⟨a, img, rfl, _⟩ := h
    rfl
  · obtain ⟨a, img, rfl, hS, hl, k⟩ := h
    refine ⟨_, pss_one (ps_ret (pe_lc (own := [("start", 1)]) (g := gName 1) (tt := tYes) rfl scNodesOf.nd
      (pi_range3 rfl T.range (pa_cons pe_int (pa_cons (pe_op op_sub (pe_callB call_len_seq (by rfl) T.len PySem.boot_len (pa_cons (pv 0) pa_nil)) pe_int) (pa_cons pe_int pa_nil))))
      (blkOk_by (N := ["image", "start"]) (sc := defScope sNodesOf) (by decide +kernel)) (fun _ _ _ _ _ => pg_name (i := 1) scNodesOf.nd rfl (Or.inl rfl)) (fun _ _ _ _ _ => pts_nil)
      (fun _ _ _ _ _ => pe_callTy (T := "tuple") (call_tupleK (K := K)) (by rfl) T.tuple (by decide +kernel) (pa_cons (pe_slice (sl_listK (K := K)) (pv 0) (po_some (pv 1)) (po_some (pe_op op_add (pv 1) pe_int))) pa_nil)))), ?_⟩
    refine ⟨_, rfl, _, _, rfl, .inl hS, _, _, rfl, rfl, _, _, _, _, rfl, ?_, fun D hD => lc_rangeC (n := img.length / 4) (fun i H1 => ∃ as, H1 D = some (.lst (as.map V.ref)) ∧ as.length = i ∧ Same H H1 ∧ Paired (NodeAt H1) as ((nodesL img).take i)) ?_ ?_ ?_⟩
    · rw [List.length_map]; exact rg4 _ hl
    · exact ⟨[], upd_same, rfl, Same.one hD, .nil⟩
    · rintro i H1 hi ⟨as, e1, e2, sm, pr⟩
      obtain ⟨q, q1, q2⟩ := nodes_get img i hi
      refine ⟨rfl, ?_⟩
      refine ⟨_, rfl, _, rfl, _, rfl, _, rfl, _, _, rfl, rfl, _, rfl, _, _, rfl, sm.seq hS, fun c hc => ⟨c, _, rfl, .inl ⟨SqL.of upd_same, fun t ht => ⟨as.map V.ref, ?_, ?_, as ++ [t], ?_, ?_, ?_, ?_⟩⟩⟩⟩
      · obtain ⟨h1, h2⟩ := free_of ht
        exact upd_old (upd_old e1 hc) ht
      · rw [List.length_map, e2, sizeLine_eq]; omega
      · rw [upd_same, List.map_append]; rfl
      · rw [List.length_append, e2]; rfl
      · intro b o hb
        rw [upd_ne (ne_of_none hb hD)]
        exact upd_old (upd_old (sm _ _ hb) hc) ht
      · have keep : ∀ b q, NodeAt H1 b q → NodeAt (upd (upd (upd H1 c (.lst (cutV (List.map V.int img) (some (0 + (i : Int) * 4)) (some (0 + (i : Int) * 4 + 4))))) t (.tup (cutV (List.map V.int img) (some (0 + (i : Int) * 4)) (some (0 + (i : Int) * 4 + 4))))) D (.lst (as.map V.ref ++ [V.ref t]))) b q := fun b q hb => by
          have hb' : H1 b = some _ := hb
          have e1' := upd_old (u := .tup (cutV (List.map V.int img) (some (0 + (i : Int) * 4)) (some (0 + (i : Int) * 4 + 4)))) (upd_old (u := .lst (cutV (List.map V.int img) (some (0 + (i : Int) * 4)) (some (0 + (i : Int) * 4 + 4)))) e1 hc) ht
          exact upd_kind (upd_old (upd_old hb' hc) ht) e1' (by intro z; cases z)
        rw [List.take_add_one, q1]
        refine Paired.snoc (Paired.mapP pr keep) ?_
        have hDt : t ≠ D := fun z => by
          rw [z] at ht
          rw [upd_old e1 hc] at ht
          cases ht
        show _ = _
        rw [upd_ne hDt, upd_same, cut4 hi q2]
    · rintro H1 ⟨as, e1, e2, sm, pr⟩
      rw [List.take_of_length_le (by rw [nodes_len]; exact Nat.le_refl _)] at pr
      exact k H1 D as sm hD e1 pr
def spTable (K : PySem.W.Frag) : Sp := fun vs H Q _ => ∃ a img, vs = [.ref a] ∧ SqL K H a (img.map V.int) ∧ img.length ≤ 100000 ∧
  ∀ H' t, Same H H' → H t = none → TblAt H' t (tblOf (nodesL img)) → Q (.ref t) H'
theorem ok_table (F : Fun K "table_of" "table_of" sTableOf f fd) (T : TN mg) (FN : Fun K "nodes_of" "nodes_of" sNodesOf fN fdN) (bN : Binds K fdN ["image"] []) (gN : mg "nodes_of" = some (.ref fN)) : FnOk P w K mg base CX0 2 f fd ["image"] (spTable K) := by
  have GN : FnOk P w K mg base CX0 1 fN fdN ["image"] (spNodes K) := ok_nodes FN T
  refine F.ok scTableOf (fun vs H Q E h => ?_) (fun cdv A outer s H vs Q E hr h => ?_)
  · obtain ⟨a, img, rfl, _⟩ := h
    rfl
  · obtain ⟨a, img, rfl, hS, hl, k⟩ := h
    have hu := hu_of hr
    have nd := scTableOf.nd
    refine ⟨_, pss_cons (ps_set (i := 1) nd rfl (.inl rfl) pe_dnewK)
      (pss_cons (ps_for PassesOwn.never rfl (pi_list (pe_call GN hr (by rfl) gN FN.kp bN .nil pass0 (pa_cons (pv 0) pa_nil)))
          (pg_tup rfl (pgs_cons (pg_name (i := 2) nd rfl (.inl rfl)) (pgs_cons (pg_name (i := 3) nd rfl (.inl rfl)) (pgs_cons (pg_name (i := 4) nd rfl (.inl rfl)) (pgs_cons (pg_name (i := 5) nd rfl (.inl rfl)) pgs_nil)))))
          (pss_one (ps_dput hu (pv 1) (pv 2) (pe_tup (pa_cons (pv 3) (pa_cons (pv 4) (pa_cons (pv 5) pa_nil)))) rfl)))
      (pss_one (ps_ret (pv 1)))), ?_⟩
    intro d hd
    have s1 : Same H (upd H d (.dK [])) := Same.one hd
    refine ⟨_, rfl, a, img, rfl, s1.seq hS, hl, fun H1 p as s2 fp e1 pr => ?_⟩
    have ed : H1 d = some (.dK []) := s2 _ _ upd_same
    refine ⟨p, rfl, ⟨_, SqL.of e1⟩, for_list (K := K) (a := p) (xs := as.map V.ref) (fun i σ H2 => ∃ x2 x3 x4 x5 kvs, σ = [some (.ref a), some (.ref d), x2, x3, x4, x5] ∧ (∀ b o, H1 b = some o → b ≠ d → H2 b = some o) ∧
        H2 d = some (.dK kvs) ∧ kvs.length ≤ i ∧ TblAt H2 d (tblOf ((nodesL img).take i))) ?_ ?_ ?_ ?_⟩
    · exact ⟨none, none, none, none, [], rfl, fun b o e _ => e, ed, Nat.le_refl _, [], ed, fun _ _ => rfl, fun k o g s q => by cases q⟩
    · rintro i σ H2 _ ⟨x2, x3, x4, x5, kvs, _, sm, _⟩
      exact SqL.of (sm _ _ e1 (ne_of e1 ed (by intro z; cases z)))
    · rintro i x σ H2 hx ⟨x2, x3, x4, x5, kvs, rfl, sm, e2, hk, tb⟩
      rw [List.getElem?_map] at hx
      obtain ⟨b, hb, rfl⟩ := Option.map_eq_some_iff.mp hx
      obtain ⟨q, hq, nq⟩ := paired_get pr hb
      have nq' : H1 b = some _ := nq
      have nq2 := sm _ _ nq' (ne_of nq' ed (by intro z; cases z))
      have hi : i < 100000 := by
        have h1 := (List.getElem?_eq_some_iff.mp hq).1
        rw [nodes_len] at h1
        omega
      refine ⟨_, _, rfl, SqT.of nq2, rfl, _, _, rfl, _, _, rfl, _, _, rfl, _, _, rfl, rfl, ?_⟩
      refine ⟨_, rfl, _, rfl, _, rfl, (by show 3 ≤ sizeLine; decide), fun t ht => ⟨_, rfl, _, rfl, _, _, rfl, DPut.k (k := Sum.inl q.1) (upd_old e2 ht) (by rw [sizeLine_eq]; omega), ?_⟩⟩
      have td : t ≠ d := fun z => by rw [z, e2] at ht; cases ht
      refine ⟨_, _, _, _, putK kvs (Sum.inl q.1) (.ref t), rfl, fun c o hc hcd => ?_, upd_same, ?_, _, upd_same, fun n hn => ?_, fun n o g s hn => ?_⟩
      · rw [upd_ne hcd]; exact upd_old (sm _ _ hc hcd) ht
      · have := length_putK kvs (Sum.inl q.1 : Key) (V.ref t); omega
      · obtain ⟨kv2, t1, t2, t3⟩ := tb.ex
        rw [e2] at t1
        cases t1
        rw [tbl_succ hq] at hn
        by_cases e : n = q.1
        · rw [if_pos e] at hn; cases hn
        · rw [if_neg e] at hn
          rw [valV_put, if_neg fun z => e (Sum.inl.inj z)]
          exact t2 n hn
      · obtain ⟨kv2, t1, t2, t3⟩ := tb.ex
        rw [e2] at t1
        cases t1
        rw [tbl_succ hq] at hn
        by_cases e : n = q.1
        · rw [if_pos e] at hn
          have hn' := Option.some.inj hn
          refine ⟨t, ?_, ?_⟩
          · rw [valV_put, if_pos (congrArg Sum.inl e)]
          · rw [upd_ne td, upd_same, hn']
        · rw [if_neg e] at hn
          obtain ⟨c, c1, c2⟩ := t3 n o g s hn
          refine ⟨c, ?_, ?_⟩
          · rw [valV_put, if_neg fun z => e (Sum.inl.inj z)]
            exact c1
          · rw [upd_ne (ne_of c2 e2 (by intro z; cases z))]
            exact upd_old c2 ht
    · rintro σ H2 ⟨x2, x3, x4, x5, kvs, rfl, sm, e2, hk, tb⟩
      have el : (as.map V.ref).length = (nodesL img).length := by
        have := Paired.length pr
        rw [List.length_map, this]
      rw [el, List.take_length] at tb
      exact ⟨_, rfl, k H2 d (fun b o e => sm b o (s2 _ _ (s1 _ _ e)) (ne_of_none e hd)) hd tb⟩
end
end Q3

set_option Elab.async false
set_option linter.all false
set_option maxRecDepth 100000
set_option maxHeartbeats 4000000
/-! State.__init__ -/
namespace Q3
open PySem PySem.Spec PyProof.Rows L2
/-- an instance under construction: what stood stands, the new objects L stand -/
structure Ini (H0 H : Hp) (p dx C : Addr) (fs : List (Str × V)) (L : List (Addr × HO)) : Prop where
  ob : H p = some (.ins C dx fs)
  pre : ∃ u, H0 p = some u
  keep : ∀ b o, H0 b = some o → b ≠ p → H b = some o
  new : ∀ q ∈ L, H q.1 = some q.2 ∧ H0 q.1 = none
  nd : (L.map (·.1)).Nodup
section
variable {H0 H : Hp} {p dx C : Addr} {fs : List (Str × V)} {L : List (Addr × HO)}
theorem Ini.np (I : Ini H0 H p dx C fs L) {q : Addr × HO} (h : q ∈ L) : q.1 ≠ p := fun e => by
  obtain ⟨u, hu⟩ := I.pre
  have := (I.new q h).2
  rw [e, hu] at this
  cases this
theorem Ini.start (h : H0 p = some (.ins C dx fs)) : Ini H0 H0 p dx C fs [] := ⟨h, ⟨_, h⟩, fun _ _ e _ => e, fun q hq => (List.not_mem_nil hq).elim, List.nodup_nil⟩
theorem Ini.free (I : Ini H0 H p dx C fs L) {l : Addr} (h : H l = none) : H0 l = none := by
  cases e : H0 l with
  | none => rfl
  | some o =>
    by_cases q : l = p
    · rw [q, I.ob] at h; cases h
    · rw [I.keep l o e q] at h; cases h
theorem Ini.set (I : Ini H0 H p dx C fs L) (fs' : List (Str × V)) : Ini H0 (upd H p (.ins C dx fs')) p dx C fs' L :=
  ⟨upd_same, I.pre, fun b o e h => by rw [upd_ne h]; exact I.keep b o e h, fun q h => ⟨by rw [upd_ne (I.np h)]; exact (I.new q h).1, (I.new q h).2⟩, I.nd⟩
theorem Ini.lay (I : Ini H0 H p dx C fs L) {l : Addr} (h : H l = none) (u : HO) : Ini H0 (upd H l u) p dx C fs ((l, u) :: L) := by
  have hl : ∀ q ∈ L, q.1 ≠ l := fun q hq e => by
    have := (I.new q hq).1
    rw [e, h] at this
    cases this
  refine ⟨upd_old I.ob h, I.pre, fun b o e hb => upd_old (I.keep b o e hb) h, fun q hq => ?_, ?_⟩
  · rcases List.mem_cons.mp hq with e | e
    · subst e; exact ⟨upd_same, I.free h⟩
    · exact ⟨upd_old (I.new q e).1 h, (I.new q e).2⟩
  · rw [List.map_cons, List.nodup_cons]
    refine ⟨fun z => ?_, I.nd⟩
    obtain ⟨q, h1, h2⟩ := List.mem_map.mp z
    exact hl q h1 h2
theorem Ini.call (I : Ini H0 H p dx C fs L) {H' : Hp} (s : Same H H') {t : Addr} (ht : H t = none) {u : HO} (h : H' t = some u) : Ini H0 H' p dx C fs ((t, u) :: L) := by
  refine ⟨s _ _ I.ob, I.pre, fun b o e hb => s _ _ (I.keep b o e hb), fun q hq => ?_, ?_⟩
  · rcases List.mem_cons.mp hq with e | e
    · subst e; exact ⟨h, I.free ht⟩
    · exact ⟨s _ _ (I.new q e).1, (I.new q e).2⟩
  · rw [List.map_cons, List.nodup_cons]
    refine ⟨fun z => ?_, I.nd⟩
    obtain ⟨q, h1, h2⟩ := List.mem_map.mp z
    have := (I.new q h1).1
    rw [h2, ht] at this
    cases this
end
theorem TblAt.to {H H' : Hp} {t : Addr} {f : Int → Option (Int × Int × Int)} (h : TblAt H t f) (k : ∀ b o, H b = some o → (∀ C dx fs, o ≠ .ins C dx fs) → H' b = some o) : TblAt H' t f := by
  obtain ⟨kvs, h1, h2, h3⟩ := h.ex
  refine ⟨kvs, k _ _ h1 (fun _ _ _ z => by cases z), h2, fun n o g s e => ?_⟩
  obtain ⟨a, h4, h5⟩ := h3 n o g s e
  exact ⟨a, h4, k _ _ h5 (fun _ _ _ z => by cases z)⟩
theorem set_keep {H : Hp} {p dx C : Addr} {fs fs' : List (Str × V)} (h : H p = some (.ins C dx fs)) : ∀ b o, H b = some o → (∀ C dx fs, o ≠ .ins C dx fs) → upd H p (.ins C dx fs') b = some o := fun b o e n => by
  rw [upd_ne fun z => ?_]
  · exact e
  · rw [z, h] at e
    exact n _ _ _ (Option.some.inj e).symm
def spSInit (K : PySem.W.Frag) (C : Addr) : Sp := fun vs H Q _ => ∃ p dx a b img num, vs = [.ref p, .ref a, .ref b] ∧ H p = some (.ins C dx []) ∧ H a = some (iL img) ∧ H b = some (iL num) ∧ img.length ≤ 100000 ∧ num.length ≤ 100000 ∧
  ∀ H' A, StAt C H' p A (evOf img num) startM 0 → (∀ b o, H b = some o → b ≠ p → H' b = some o) → (∀ x ∈ A.all, H x = none) → Q .non H'
section
variable {P : Program} {w : World} {K : PySem.W.Frag} {mg : Str → Option Value} {base : Heap} {f fT C : Addr} {fd fdT : FuncData}
theorem sqKeep {H H' : Hp} {a p : Addr} {xs : List V} (h : SqL K H a xs) (hp : a ≠ p) (k : ∀ b o, H b = some o → b ≠ p → H' b = some o) : SqL K H' a xs := by
  rcases h with (h | ⟨o, h⟩) | h
  · exact .inl (.inl (k _ _ h hp))
  · exact .inl (.inr ⟨o, k _ _ h hp⟩)
  · exact .inr h
theorem ok_sinit (F : Fun K "__init__" "State.__init__" sStInit f fd) (T : TM K C) (TL : mg "list" = none) (GT : FnOk P w K mg base CX0 2 fT fdT ["image"] (spTable K)) (kT : PySem.W.keepIn K (.ref fT) = true) (bT : Binds K fdT ["image"] []) (gT : mg "table_of" = some (.ref fT)) :
    FnOk P w K mg base CX0 3 f fd ["self", "image", "numbers"] (spSInit K C) := by
  refine F.ok scStInit (fun vs H Q E h => ?_) (fun cdv A outer s H vs Q E hr h => ?_)
  · obtain ⟨p, dx, a, b, img, num, rfl, _⟩ := h
    rfl
  · obtain ⟨p, dx, a, b, img, num, rfl, hp, eA, eB, la, lb, k⟩ := h
    have hA : SqL K H a (img.map V.int) := SqL.of eA
    have hB : SqL K H b (num.map V.int) := SqL.of eB
    have nap : a ≠ p := ne_of eA hp (by intro z; cases z)
    have nbp : b ≠ p := ne_of eB hp (by intro z; cases z)
    have ll : (0 : Nat) ≤ sizeLine := Nat.zero_le _
    refine ⟨_, pss_cons (ps_fld (pv 0) (pe_callTy call_list_of (by rfl) TL (by decide +kernel) (pa_cons (pv 1) pa_nil)) rfl)
      (pss_cons (ps_fld (pv 0) (pe_callTy call_list_of (by rfl) TL (by decide +kernel) (pa_cons (pv 2) pa_nil)) rfl)
      (pss_cons (ps_fld (pv 0) (pe_call GT hr (by rfl) gT kT bT .nil pass0 (pa_cons (pv 1) pa_nil)) rfl)
      (pss_cons (ps_fld (pv 0) pe_int rfl)
      (pss_cons (ps_fld (pv 0) (pe_lst pa_nil) rfl)
      (pss_cons (ps_fld (pv 0) pe_dnewK rfl)
      (pss_cons (ps_fld (pv 0) (pe_lst pa_nil) rfl)
      (pss_cons (ps_fld (pv 0) pe_int rfl)
      (pss_cons (ps_fld (pv 0) (pe_lst pa_nil) rfl)
      (pss_one (ps_fld (pv 0) pe_int rfl)))))))))), ?_⟩
    have I0 := Ini.start hp
    refine ⟨_, rfl, _, _, rfl, .inl hA, fun l1 n1 => ?_⟩
    have I1 := I0.lay n1 (iL img)
    refine ⟨_, rfl, _, _, _, _, rfl, I1.ob, T.cl, T.image, (by show 0 < 1000; decide), ?_⟩
    have I2 := I1.set (putF "image" (.ref l1) [])
    refine ⟨_, rfl, _, _, rfl, .inl (sqKeep hB nbp I2.keep), fun l2 n2 => ?_⟩
    have I3 := I2.lay n2 (iL num)
    refine ⟨_, rfl, _, _, _, _, rfl, I3.ob, T.cl, T.numbers, (by show 1 < 1000; decide), ?_⟩
    have I4 := I3.set (putF "numbers" (.ref l2) (putF "image" (.ref l1) []))
    refine ⟨_, rfl, a, img, rfl, sqKeep hA nap I4.keep, la, fun H5 t s5 n5 tb => ?_⟩
    obtain ⟨kt, t1, t2, t3⟩ := id tb.ex
    have I5 := I4.call s5 n5 t1
    refine ⟨_, rfl, _, _, _, _, rfl, I5.ob, T.cl, T.table, (by show 2 < 1000; decide), ?_⟩
    have I6 := I5.set (putF "table" (.ref t) (putF "numbers" (.ref l2) (putF "image" (.ref l1) [])))
    have tb6 := tb.to (set_keep (fs' := putF "table" (.ref t) (putF "numbers" (.ref l2) (putF "image" (.ref l1) []))) I5.ob)
    refine ⟨_, rfl, _, _, _, _, rfl, I6.ob, T.cl, T.at_, (by show 3 < 1000; decide), ?_⟩
    have I7 := I6.set (putF "at" (.int 0) (putF "table" (.ref t) (putF "numbers" (.ref l2) (putF "image" (.ref l1) []))))
    have tb7 := tb6.to (set_keep (fs' := putF "at" (.int 0) (putF "table" (.ref t) (putF "numbers" (.ref l2) (putF "image" (.ref l1) [])))) I6.ob)
    refine ⟨ll, fun l3 n3 => ?_⟩
    have I8 := I7.lay n3 (.lst [])
    have tb8 := tb7.to fun _ _ e _ => upd_old (u := .lst []) e n3
    refine ⟨_, rfl, _, _, _, _, rfl, I8.ob, T.cl, T.stack, (by show 4 < 1000; decide), ?_⟩
    have I9 := I8.set (putF "stack" (.ref l3) (putF "at" (.int 0) (putF "table" (.ref t) (putF "numbers" (.ref l2) (putF "image" (.ref l1) [])))))
    have tb9 := tb8.to (set_keep (fs' := putF "stack" (.ref l3) (putF "at" (.int 0) (putF "table" (.ref t) (putF "numbers" (.ref l2) (putF "image" (.ref l1) []))))) I8.ob)
    intro l4 n4
    have I10 := I9.lay n4 (.dK [])
    have tb10 := tb9.to fun _ _ e _ => upd_old (u := .dK []) e n4
    refine ⟨_, rfl, _, _, _, _, rfl, I10.ob, T.cl, T.store, (by show 5 < 1000; decide), ?_⟩
    have I11 := I10.set (putF "store" (.ref l4) (putF "stack" (.ref l3) (putF "at" (.int 0) (putF "table" (.ref t) (putF "numbers" (.ref l2) (putF "image" (.ref l1) []))))))
    have tb11 := tb10.to (set_keep (fs' := putF "store" (.ref l4) (putF "stack" (.ref l3) (putF "at" (.int 0) (putF "table" (.ref t) (putF "numbers" (.ref l2) (putF "image" (.ref l1) [])))))) I10.ob)
    refine ⟨ll, fun l5 n6 => ?_⟩
    have I12 := I11.lay n6 (.lst [])
    have tb12 := tb11.to fun _ _ e _ => upd_old (u := .lst []) e n6
    refine ⟨_, rfl, _, _, _, _, rfl, I12.ob, T.cl, T.back, (by show 6 < 1000; decide), ?_⟩
    have I13 := I12.set (putF "back" (.ref l5) (putF "store" (.ref l4) (putF "stack" (.ref l3) (putF "at" (.int 0) (putF "table" (.ref t) (putF "numbers" (.ref l2) (putF "image" (.ref l1) [])))))))
    have tb13 := tb12.to (set_keep (fs' := putF "back" (.ref l5) (putF "store" (.ref l4) (putF "stack" (.ref l3) (putF "at" (.int 0) (putF "table" (.ref t) (putF "numbers" (.ref l2) (putF "image" (.ref l1) []))))))) I12.ob)
    refine ⟨_, rfl, _, _, _, _, rfl, I13.ob, T.cl, T.place, (by show 7 < 1000; decide), ?_⟩
    have I14 := I13.set (putF "place" (.int 0) (putF "back" (.ref l5) (putF "store" (.ref l4) (putF "stack" (.ref l3) (putF "at" (.int 0) (putF "table" (.ref t) (putF "numbers" (.ref l2) (putF "image" (.ref l1) []))))))))
    have tb14 := tb13.to (set_keep (fs' := putF "place" (.int 0) (putF "back" (.ref l5) (putF "store" (.ref l4) (putF "stack" (.ref l3) (putF "at" (.int 0) (putF "table" (.ref t) (putF "numbers" (.ref l2) (putF "image" (.ref l1) [])))))))) I13.ob)
    refine ⟨ll, fun l6 n7 => ?_⟩
    have I15 := I14.lay n7 (.lst [])
    have tb15 := tb14.to fun _ _ e _ => upd_old (u := .lst []) e n7
    refine ⟨_, rfl, _, _, _, _, rfl, I15.ob, T.cl, T.output, (by show 8 < 1000; decide), ?_⟩
    have I16 := I15.set (putF "output" (.ref l6) (putF "place" (.int 0) (putF "back" (.ref l5) (putF "store" (.ref l4) (putF "stack" (.ref l3) (putF "at" (.int 0) (putF "table" (.ref t) (putF "numbers" (.ref l2) (putF "image" (.ref l1) [])))))))))
    have tb16 := tb15.to (set_keep (fs' := putF "output" (.ref l6) (putF "place" (.int 0) (putF "back" (.ref l5) (putF "store" (.ref l4) (putF "stack" (.ref l3) (putF "at" (.int 0) (putF "table" (.ref t) (putF "numbers" (.ref l2) (putF "image" (.ref l1) []))))))))) I15.ob)
    refine ⟨_, rfl, _, _, _, _, rfl, I16.ob, T.cl, T.steps, (by show 9 < 1000; decide), ?_⟩
    have ef : putF "steps" (.int 0) (putF "output" (.ref l6) (putF "place" (.int 0) (putF "back" (.ref l5) (putF "store" (.ref l4) (putF "stack" (.ref l3) (putF "at" (.int 0) (putF "table" (.ref t) (putF "numbers" (.ref l2) (putF "image" (.ref l1) []))))))))) = stF ⟨l1, l2, t, l3, l4, l5, l6⟩ 0 0 0 := by kernel_rfl
    have I17 := I16.set (putF "steps" (.int 0) (putF "output" (.ref l6) (putF "place" (.int 0) (putF "back" (.ref l5) (putF "store" (.ref l4) (putF "stack" (.ref l3) (putF "at" (.int 0) (putF "table" (.ref t) (putF "numbers" (.ref l2) (putF "image" (.ref l1) []))))))))))
    have tb17 := tb16.to (set_keep (fs' := putF "steps" (.int 0) (putF "output" (.ref l6) (putF "place" (.int 0) (putF "back" (.ref l5) (putF "store" (.ref l4) (putF "stack" (.ref l3) (putF "at" (.int 0) (putF "table" (.ref t) (putF "numbers" (.ref l2) (putF "image" (.ref l1) [])))))))))) I16.ob)
    have ob := I17.ob
    refine k _ ⟨l1, l2, t, l3, l4, l5, l6⟩ ⟨⟨dx, 0, by rw [ob, ef]; rfl⟩, ?_, ?_, tb17, ?_, ⟨[], ?_, Nat.le_refl _, fun _ => rfl⟩, ?_, ?_, ?_, small_start⟩ I17.keep ?_
    · exact (I17.new (l1, iL img) (by simp)).1
    · exact (I17.new (l2, iL num) (by simp)).1
    · exact (I17.new (l3, .lst []) (by simp)).1
    · exact (I17.new (l4, .dK []) (by simp)).1
    · exact (I17.new (l5, .lst []) (by simp)).1
    · exact (I17.new (l6, .lst []) (by simp)).1
    · have h7 : List.Pairwise (fun x y : Addr => x ≠ y) [l6, l5, l4, l3, t, l2, l1] := I17.nd
      have h8 := List.pairwise_reverse.mpr (h7.imp Ne.symm)
      simpa [SA.all, List.Nodup] using h8
    · intro x hx
      simp only [SA.all, List.mem_cons, List.not_mem_nil, or_false] at hx
      rcases hx with rfl | rfl | rfl | rfl | rfl | rfl | rfl
      · exact (I17.new (_, iL img) (by simp)).2
      · exact (I17.new (_, iL num) (by simp)).2
      · exact (I17.new (_, .dK kt) (by simp)).2
      · exact (I17.new (x, .lst []) (by simp)).2
      · exact (I17.new (x, .dK []) (by simp)).2
      · exact (I17.new (x, .lst []) (by simp)).2
      · exact (I17.new (x, .lst []) (by simp)).2
end
end Q3

set_option Elab.async false
set_option linter.all false
set_option maxRecDepth 100000
set_option maxHeartbeats 4000000
/-! has_ended, step, advance, run -/
namespace Q3
open PySem PySem.Spec PyProof.Rows L2
section
variable {C : Addr} {H : Hp} {p : Addr} {A : SA} {E : Ev} {m : MS} {z : Nat}
theorem StAt.putSteps (h : StAt C H p A E m z) (v : Int) : StAt C (upd H p (.ins C h.ob.choose (putF "steps" (.int v) (stF A m.pc m.plc h.ob.choose_spec.choose)))) p A E m z := by
  rw [pt_steps]; exact h.setP h.obE m.pc m.plc v
end
/-- the table of deeds, as the top has made it -/
structure TD (P : Program) (w : World) (K : PySem.W.Frag) (mg : Str → Option Value) (base : Heap) (C aD : Addr) (fs : List (Int × Addr)) : Prop where
  at_ : mg "DEEDS" = some (.ref aD)
  tab : KTab K aD fs
  some_ : ∀ o d, deeds.lookup o = some d → ∃ f, fs.lookup o = some f ∧ Held P w K mg base 2 f (spDeed C d)
  none_ : ∀ o, deeds.lookup o = none → fs.lookup o = none
structure TC (mg : Str → Option Value) : Prop where
  fl : ∃ t, mg "FIRST_LETTER" = some (.int 97 t)
  ll : ∃ t, mg "LAST_LETTER" = some (.int 122 t)
  fc : ∃ t, mg "FIRST_CAPITAL" = some (.int 65 t)
  lc : ∃ t, mg "LAST_CAPITAL" = some (.int 90 t)
def spEnded (C : Addr) : Sp := fun vs H Q _ => ∃ p A E m z, vs = [.ref p] ∧ StAt C H p A E m z ∧ Q (.bl (E.tbl m.pc).isNone) H
def spStep (C : Addr) : Sp := fun vs H Q _ => ∃ p A E m z, vs = [.ref p] ∧ StAt C H p A E m z ∧ z < 100000 ∧ (stepM E m = none → Q (.bl false) H) ∧
  ∀ m' H', stepM E m = some m' → StAt C H' p A E m' (z + 1) → Frm p A H H' → Q (.bl true) H'
def spAdv (C : Addr) : Sp := fun vs H Q _ => ∃ p A E m z, ∃ fuel : Nat, vs = [.ref p, .int fuel] ∧ StAt C H p A E m z ∧ z + fuel < 100000 ∧
  ∀ H', StAt C H' p A E (runM E fuel m).1 (z + fuel) → Frm p A H H' → Q (.int (runM E fuel m).2) H'
def spRun (K : PySem.W.Frag) : Sp := fun vs H Q _ => ∃ a b img num, ∃ fuel : Nat, vs = [.ref a, .ref b, .int fuel] ∧ H a = some (iL img) ∧ H b = some (iL num) ∧ img.length ≤ 100000 ∧ num.length ≤ 100000 ∧ fuel ≤ 1000 ∧
  ∀ H' t o, Same H H' → H t = none → H o = none → H' t = some (.tup [.bl (runF img num fuel).ended, .ref o, .int (runF img num fuel).steps]) → H' o = some (iL (runF img num fuel).out) → Q (.ref t) H'
section
variable {P : Program} {w : World} {K : PySem.W.Frag} {mg : Str → Option Value} {base : Heap} {f C aD : Addr} {fd : FuncData} {fs : List (Int × Addr)}
theorem ok_ended (F : Fun K "has_ended" "State.has_ended" sStHasEnded f fd) (T : TM K C) : FnOk P w K mg base CX0 1 f fd ["self"] (spEnded C) := by
  refine F.ok scStHasEnded (fun vs H Q E h => ?_) (fun cdv A outer s H vs Q E hr h => ?_)
  · obtain ⟨p, A, E, m, z, rfl, _⟩ := h
    rfl
  · obtain ⟨p, B, Ev, m, z, rfl, h, k⟩ := h
    have hu := hu_of hr
    refine ⟨_, pss_one (ps_ret (pe_cmp (pc_dnotin hu (pe_fld (pv 0) rfl) (pe_fld (pv 0) rfl)))), ?_⟩
    obtain ⟨kvs, t1, t2, t3⟩ := h.tbl.ex
    refine ⟨_, rfl, _, _, _, _, _, rfl, h.obE, T.cl, T.at_, lk_at .., _, rfl, _, _, _, _, _, rfl, h.obE, T.cl, T.table, lk_table .., _, _, rfl, DGet.k (k := Sum.inl m.pc) t1, ?_⟩
    cases e : Ev.tbl m.pc with
    | none =>
      rw [t2 _ e]
      rw [e] at k
      exact k
    | some q =>
      obtain ⟨o, g, n⟩ := q
      obtain ⟨a, e1, _⟩ := t3 _ _ _ _ e
      rw [e1]
      rw [e] at k
      exact k
theorem ok_step (F : Fun K "step" "State.step" sStStep f fd) (T : TM K C) (D : TD P w K mg base C aD fs) (G : TC mg) : FnOk P w K mg base CX0 3 f fd ["self"] (spStep C) := by
  refine F.ok scStStep (fun vs H Q E h => ?_) (fun cdv A outer s H vs Q E hr h => ?_)
  · obtain ⟨p, A, E, m, z, rfl, _⟩ := h
    rfl
  · obtain ⟨p, B, Ev, m, z, rfl, h, hz, k0, k1⟩ := h
    have hu := hu_of hr
    have nd := scStStep.nd
    have zz := Nat.lt_succ_self z
    refine ⟨_, pss_cons (ps_if (pt_cmp (pc_dnotin hu (pe_fld (pv 0) rfl) (pe_fld (pv 0) rfl))) (pss_one (ps_ret pe_bl)) pss_nil)
      (pss_cons (ps_asg (pe_dget hu (pe_fld (pv 0) rfl) (pe_fld (pv 0) rfl) (fun _ _ => rfl)) (pg_tup rfl (pgs_cons (pg_name (i := 1) nd rfl (.inl rfl)) (pgs_cons (pg_name (i := 2) nd rfl (.inl rfl)) (pgs_cons (pg_name (i := 3) nd rfl (.inl rfl)) pgs_nil)))))
      (pss_cons (ps_fld (pv 0) (pv 3) rfl)
      (pss_cons (ps_fldaug (pv 0) pe_int in_add)
      (pss_cons (ps_if (pt_cmpR (op_in_kt D.tab) (pv 1) (pe_glob (v := .ref aD) rfl D.at_ rfl) (by rfl))
          (pss_cons (ps_set (i := 4) nd rfl (.inl rfl) (pe_ix (ix_kt D.tab) (pe_glob (v := .ref aD) rfl D.at_ rfl) (pv 1) (fun _ _ => rfl)))
            (pss_one (ps_expr (pe_callH (i := 4) hr rfl (.inl rfl) (pa_cons (pv 0) (pa_cons (pv 2) pa_nil))))))
          (pss_one (ps_if (pt_chain op_le op_le (pe_glob (v := .int 97) rfl G.fl.choose_spec ⟨_, rfl⟩) (pv 1) (pe_glob (v := .int 122) rfl G.ll.choose_spec ⟨_, rfl⟩))
            (pss_one (ps_expr (pe_bm PySem.F.plainAttrs_list PySem.F.slot_list_append PySem.F.type_list_append mt_append (pe_fld (pv 0) rfl) (pa_cons (pe_dget2 hu (pe_fld (pv 0) rfl) (pv 1) pe_int ⟨rfl, rfl, rfl, rfl⟩) pa_nil))))
            (pss_one (ps_if (pt_chain op_le op_le (pe_glob (v := .int 65) rfl G.fc.choose_spec ⟨_, rfl⟩) (pv 1) (pe_glob (v := .int 90) rfl G.lc.choose_spec ⟨_, rfl⟩))
              (pss_cons (ps_expr (pe_bm PySem.F.plainAttrs_list PySem.F.slot_list_append PySem.F.type_list_append mt_append (pe_fld (pv 0) rfl) (pa_cons (pv 3) pa_nil))) (pss_one (ps_fld (pv 0) (pv 1) rfl)))
              pss_nil)))))
      (pss_one (ps_ret pe_bl)))))), ?_⟩
    obtain ⟨kvs, t1, t2, t3⟩ := h.tbl.ex
    refine ⟨_, rfl, _, _, _, _, _, rfl, h.obE, T.cl, T.at_, lk_at .., _, rfl, _, _, _, _, _, rfl, h.obE, T.cl, T.table, lk_table .., _, _, rfl, DGet.k (k := Sum.inl m.pc) t1, _, rfl, ?_⟩
    cases e : Ev.tbl m.pc with
    | none =>
      rw [t2 _ e]
      have st : stepM Ev m = none := by unfold stepM; rw [e]
      exact iteT (k0 st)
    | some q =>
      obtain ⟨o, g, n⟩ := q
      obtain ⟨a, e1, e2⟩ := t3 _ _ _ _ e
      rw [e1]
      have st : stepM Ev m = some (doOp Ev o g n { m with pc := n }) := by unfold stepM; rw [e]
      refine iteF ⟨_, rfl, _, _, _, _, _, rfl, h.obE, T.cl, T.table, lk_table .., _, rfl, _, _, _, _, _, rfl, h.obE, T.cl, T.at_, lk_at .., _, .ref a, rfl, ?_, _, _, rfl, SqT.of e2, rfl, _, _, rfl, _, _, rfl, _, _, rfl, rfl, ?_⟩
      · have := DGet.k (k := Sum.inl m.pc) t1
        rw [e1] at this
        exact this
      refine ⟨_, rfl, _, rfl, _, _, _, _, rfl, h.obE, T.cl, T.at_, (by show 10 < 1000; decide), ?_⟩
      have h1 := h.putAt n
      have f1 : Frm p B H _ := Frm.p (u := .ins C h.ob.choose (putF "at" (.int n) (stF B m.pc m.plc h.ob.choose_spec.choose)))
      refine ⟨_, rfl, _, _, _, _, _, rfl, h1.obE, T.cl, T.steps, lk_steps .., _, _, rfl, rfl, _, _, h1.obE, (by show 10 < 1000; decide), ?_⟩
      have h2 := h1.putSteps (h1.ob.choose_spec.choose + 1)
      refine ⟨_, rfl, _, rfl, rfl, _, rfl, ?_⟩
      cases hd : deeds.lookup o with
      | some d =>
        obtain ⟨fa, l1, l2⟩ := D.some_ o d hd
        have dp : doOp Ev o g n { m with pc := n } = d Ev g { m with pc := n } := by unfold doOp; rw [hd]
        rw [l1]
        refine iteT ⟨_, rfl, _, _, rfl, rfl, l1, _, _, rfl, l2, _, rfl, _, rfl, p, B, Ev, _, z, g, rfl, h2, hz, fun H3 h3 f3 => ?_⟩
        rw [← dp] at h3
        exact k1 _ H3 st h3 (f1.trans (Frm.p.trans f3))
      | none =>
        have dp : doOp Ev o g n { m with pc := n } = if 97 ≤ o ∧ o ≤ 122 then MS.push { m with pc := n } (m.mem o) else if 65 ≤ o ∧ o ≤ 90 then { m with bak := m.bak ++ [n], pc := o } else { m with pc := n } := by unfold doOp; rw [hd]
        rw [dp] at st
        rw [D.none_ o hd]
        have rest : ¬ (97 ≤ o ∧ o ≤ 122) → tIfS (tTest (tChain (rI0 fun i j => V.bl (decide (i ≤ j))) (rI0 fun i j => V.bl (decide (i ≤ j))) (tC (V.int 65)) (tVar 1) (tC (V.int 90))))
            (tSeq (tDrop (tBM K "list" rAppend (tFld K (tVar 0) "back") (tCons (tVar 3) tNil))) (sFld K (tVar 0) (tVar 1) "at")) tNext
            { nx := fun σ H => Q (.bl true) H, rt := Q } [some (.ref p), some (.int o), some (.int g), some (.int n), none] (upd (upd H p (.ins C h.ob.choose (putF "at" (.int n) (stF B m.pc m.plc h.ob.choose_spec.choose)))) p (.ins C h1.ob.choose (putF "steps" (.int (h1.ob.choose_spec.choose + 1)) (stF B n m.plc h1.ob.choose_spec.choose)))) := fun no => by
          rw [if_neg no] at st
          refine ⟨_, rfl, _, _, rfl, rfl, _, rfl, ?_⟩
          by_cases a1 : 65 ≤ o
          · rw [decide_eq_true a1]
            refine iteT ⟨_, _, rfl, rfl, _, rfl, ?_⟩
            by_cases a2 : o ≤ 90
            · rw [decide_eq_true a2]
              rw [if_pos ⟨a1, a2⟩] at st
              refine iteT ⟨_, rfl, _, _, _, _, _, rfl, h2.obE, T.cl, T.back, lk_back .., .inl ⟨rfl, _, SqL.of h2.bak⟩, _, rfl, _, _, _, rfl, rfl, h2.bak, len_map _ h2.sm.bak (by omega), ?_⟩
              have h3 := h2.pushBak n zz
              exact ⟨_, rfl, _, rfl, _, _, _, _, rfl, h3.obE, T.cl, T.at_, (by show 10 < 1000; decide), k1 _ _ st (h3.putAt o) (f1.trans (Frm.p.trans (Frm.bak.trans Frm.p)))⟩
            · rw [decide_eq_false a2]
              rw [if_neg fun q => a2 q.2] at st
              exact iteF (k1 _ _ st (h2.mono (Nat.le_succ z)) (f1.trans Frm.p))
          · rw [decide_eq_false a1]
            rw [if_neg fun q => a1 q.1] at st
            exact ⟨_, rfl, iteF (k1 _ _ st (h2.mono (Nat.le_succ z)) (f1.trans Frm.p))⟩
        refine iteF ⟨_, rfl, _, _, rfl, rfl, _, rfl, ?_⟩
        by_cases a1 : 97 ≤ o
        · rw [decide_eq_true a1]
          refine iteT ⟨_, _, rfl, rfl, _, rfl, ?_⟩
          by_cases a2 : o ≤ 122
          · rw [decide_eq_true a2]
            rw [if_pos ⟨a1, a2⟩] at st
            obtain ⟨ks, e0, _, c⟩ := h2.sto
            refine iteT ⟨_, rfl, _, _, _, _, _, rfl, h2.obE, T.cl, T.stack, lk_stack .., .inl ⟨rfl, _, SqL.of h2.stk⟩, _, rfl, _, _, _, _, _, rfl, h2.obE, T.cl, T.store, lk_store .., _, rfl, .inl ⟨ks, .inl e0⟩, _, rfl, _, DGet.k (k := Sum.inl o) e0, ?_⟩
            rw [c]
            exact ⟨_, _, _, rfl, rfl, h2.stk, len_map _ h2.sm.stk (by omega), k1 _ _ st (h2.push1 _ zz) (f1.trans (Frm.p.trans Frm.stk))⟩
          · rw [decide_eq_false a2]
            exact iteF (rest fun q => a2 q.2)
        · rw [decide_eq_false a1]
          exact ⟨_, rfl, iteF (rest fun q => a1 q.1)⟩
end
end Q3

set_option Elab.async false
set_option linter.all false
set_option maxRecDepth 100000
set_option maxHeartbeats 4000000
/-! advance, run -/
namespace Q3
open PySem PySem.Spec PyProof.Rows L2
section
variable {P : Program} {w : World} {K : PySem.W.Frag} {mg : Str → Option Value} {base : Heap} {f fS fI fA fE C aD : Addr} {fd fdS fdI fdA fdE : FuncData} {fs : List (Int × Addr)}
theorem ok_adv (F : Fun K "advance" "State.advance" sStAdvance f fd) (T : TM K C) (GS : FnOk P w K mg base CX0 3 fS fdS ["self"] (spStep C)) (bS : Binds K fdS ["self"] []) (mS : Meth K C "step" fS) :
    FnOk P w K mg base CX0 4 f fd ["self", "fuel"] (spAdv C) := by
  refine F.ok scStAdvance (fun vs H Q E h => ?_) (fun cdv A outer s H vs Q E hr h => ?_)
  · obtain ⟨p, A, E, m, z, fuel, rfl, _⟩ := h
    rfl
  · obtain ⟨p, B, Ev, m, z, fuel, rfl, h, hz, k⟩ := h
    have nd := scStAdvance.nd
    refine ⟨_, pss_cons (ps_if (pt_cmpR op_lt (pv 1) pe_int (nomark _)) (pss_one ps_never) pss_nil)
      (pss_cons (ps_set (i := 2) nd rfl (.inl rfl) pe_int)
      (pss_cons (ps_while PassesOwn.never (PW.pt (pw_and (pt_cmpR op_lt (pv 2) (pv 1) (nomark _)) (pw_and1 (pt_val (pe_meth0 (pv 0) T.cl mS GS hr bS .nil pass0)))))
        (pss_one (ps_aug (i := 2) nd rfl (.inl rfl) pe_int ip_add)))
      (pss_one (ps_ret (pv 2))))), ?_⟩
    refine ⟨_, rfl, _, _, rfl, rfl, _, rfl, ?_⟩
    rw [decide_eq_false (by omega)]
    refine iteF ⟨fun r σ H' => ∃ j mj, j + r = fuel ∧ σ = [some (.ref p), some (.int fuel), some (.int (j : Nat))] ∧ StAt C H' p B Ev mj (z + j) ∧ Frm p B H H' ∧ (runM Ev fuel m).1 = (runM Ev r mj).1 ∧ (runM Ev fuel m).2 = (runM Ev r mj).2 + j, ⟨fuel, 0, m, by omega, rfl, h, Frm.refl H, rfl, rfl⟩, ?_⟩
    rintro r σ H' ⟨j, mj, hj, rfl, hj2, fr, e1, e2⟩
    refine ⟨_, rfl, _, rfl, _, _, rfl, rfl, _, rfl, ?_⟩
    cases r with
    | zero =>
      rw [decide_eq_false (by omega)]
      refine iteF (iteF ⟨_, rfl, ?_⟩)
      have e3 : j = fuel := by omega
      subst e3
      have := k H' (by rw [e1]; exact hj2) fr
      rw [e2] at this
      have e4 : ((runM Ev 0 mj).2 + j) = j := by show 0 + j = j; omega
      rw [e4] at this
      exact this
    | succ r =>
      rw [decide_eq_true (by omega)]
      refine iteT ⟨_, rfl, _, _, _, rfl, hj2.obE, lk_step .., p, B, Ev, mj, z + j, rfl, hj2, by omega, fun hn => ⟨_, rfl, iteF ⟨_, rfl, ?_⟩⟩, fun m' H2 hs h2 f2 => ⟨_, rfl, iteT ⟨fun σ' H3 => ∃ j' mj', j' + r = fuel ∧ σ' = [some (.ref p), some (.int fuel), some (.int (j' : Nat))] ∧ StAt C H3 p B Ev mj' (z + j') ∧ Frm p B H H3 ∧ (runM Ev fuel m).1 = (runM Ev r mj').1 ∧ (runM Ev fuel m).2 = (runM Ev r mj').2 + j', fun σ' H3 q => ⟨r, Nat.lt_succ_self r, q⟩, ?_⟩⟩⟩
      · have er : runM Ev (r + 1) mj = (mj, 0) := by unfold runM; rw [hn]
        rw [er] at e1 e2
        have := k H' (by rw [e1]; exact hj2.mono (by omega)) fr
        rw [e2] at this
        have e4 : (0 + j) = j := by omega
        rw [e4] at this
        exact this
      · have er : runM Ev (r + 1) mj = ((runM Ev r m').1, (runM Ev r m').2 + 1) := by
          conv => lhs; unfold runM
          rw [hs]
        rw [er] at e1 e2
        refine ⟨_, rfl, _, _, rfl, rfl, j + 1, m', by omega, rfl, h2.mono (by omega), fr.trans f2, e1, ?_⟩
        rw [e2]
        show (runM Ev r m').2 + 1 + j = (runM Ev r m').2 + (j + 1)
        omega
theorem ok_run (F : Fun K "run" "run" sRun f fd) (T : TM K C) (M : Mk K C fI) (mgC : mg "State" = some (.ref C)) (GI : FnOk P w K mg base CX0 3 fI fdI ["self", "image", "numbers"] (spSInit K C)) (bI : Binds K fdI ["self", "image", "numbers"] [])
    (GA : FnOk P w K mg base CX0 4 fA fdA ["self", "fuel"] (spAdv C)) (kA : KBn K fdA ["self", "fuel"] 1 ["fuel"] (fun us ws => us ++ ws) (fun vs zs => vs ++ zs)) (mA : Meth K C "advance" fA)
    (GE : FnOk P w K mg base CX0 1 fE fdE ["self"] (spEnded C)) (bE : Binds K fdE ["self"] []) (mE : Meth K C "has_ended" fE) : FnOk P w K mg base CX0 5 f fd ["image", "numbers", "fuel"] (spRun K) := by
  refine F.ok scRun (fun vs H Q E h => ?_) (fun cdv A outer s H vs Q E hr h => ?_)
  · obtain ⟨a, b, img, num, fuel, rfl, _⟩ := h
    rfl
  · obtain ⟨a, b, img, num, fuel, rfl, eA, eB, la, lb, lf, k⟩ := h
    have nd := scRun.nd
    have hr1 : Room 1 _ := hr.mono (by decide)
    refine ⟨_, pss_cons (ps_set (i := 3) nd rfl (.inl rfl) (pe_make M GI hr rfl mgC bI .nil pass0 (pa_cons (pv 0) (pa_cons (pv 1) pa_nil))))
      (pss_cons (ps_set (i := 4) nd rfl (.inl rfl) (pe_methK0 (pv 3) T.cl mA GA hr kA pass0 (pk_cons (pv 2) pk_nil)))
      (pss_one (ps_ret (pe_tup (pa_cons (pe_meth0 (pv 3) T.cl mE GE hr1 bE .nil pass0) (pa_cons (pe_fld (pv 3) rfl) (pa_cons (pv 4) pa_nil))))))), ?_⟩
    refine ⟨_, rfl, _, rfl, fun x dx nx ndx nex => ?_⟩
    have old : ∀ {c : Addr} {o : HO}, H c = some o → (upd (upd H dx (.own x)) x (.ins C dx [])) c = some o := fun {c o} e => by
      rw [upd_ne (ne_of_none e nx)]
      exact upd_old e ndx
    refine ⟨x, dx, a, b, img, num, rfl, upd_same, old eA, old eB, la, lb, fun H1 S h1 kp fr => ⟨rfl, ?_⟩⟩
    have s1 : Same H H1 := fun c o e => kp c o (old e) (ne_of_none e nx)
    have fr0 : ∀ y ∈ S.all, H y = none := fun y hy => by
      have := fr y hy
      cases q : H y with
      | none => rfl
      | some o => rw [old q] at this; cases this
    refine ⟨_, rfl, _, _, _, rfl, h1.obE, lk_advance .., _, rfl, rfl, x, S, evOf img num, startM, 0, fuel, rfl, h1, by omega, fun H2 h2 f2 => ?_⟩
    refine ⟨_, rfl, _, _, _, rfl, h2.obE, lk_hasEnded .., x, S, _, _, _, rfl, h2, _, rfl, _, _, _, _, _, rfl, h2.obE, T.cl, T.output, lk_output .., _, rfl, (by show 3 ≤ sizeLine; decide), fun t ht => ?_⟩
    have s2 : Same H H2 := fun c o e => by
      have ne : ∀ y ∈ S.all, c ≠ y := fun y hy => ne_of_none e (fr0 y hy)
      exact f2 c o (s1 c o e) (ne_of_none e nx) (ne _ (by simp [SA.all])) (ne _ (by simp [SA.all])) (ne _ (by simp [SA.all])) (ne _ (by simp [SA.all]))
    refine k _ t S.out (s2.trans (Same.one ht)) (s2.free ht) (fr0 _ (by simp [SA.all])) ?_ ?_
    · rw [upd_same]; rfl
    · exact upd_old h2.out ht
end
end Q3

set_option Elab.async false
set_option linter.all false
set_option maxRecDepth 100000
set_option maxHeartbeats 4000000
/-! plans, in plain Lean -/
namespace Q3
open PySem
structure Rl where
  t : Str
  tool : Str
  src : List Str
def Rl.parts (r : Rl) : List Str := r.tool :: r.src
/-- n depends on x -/
inductive Rc (P : List Rl) (n : Str) : Str → Prop
  | base {r : Rl} {p : Str} : r ∈ P → r.t = n → p ∈ r.parts → Rc P n p
  | step {m : Str} {r : Rl} {p : Str} : Rc P n m → r ∈ P → r.t = m → p ∈ r.parts → Rc P n p
structure PlanOk (P : List Rl) (g : List Str) (rk : Str → Nat) : Prop where
  nd : (P.map Rl.t).Nodup
  ng : ∀ r ∈ P, r.t ∉ g
  pt : ∀ r ∈ P, ∀ p ∈ r.parts, p ∈ g ∨ ∃ r' ∈ P, r'.t = p
  rk : ∀ r ∈ P, ∀ p ∈ r.parts, rk p < rk r.t
  few : P.length ≤ 8
  src : ∀ r ∈ P, r.src.length ≤ 3
section
variable {P : List Rl} {g : List Str} {rk : Str → Nat}
theorem Rc.lt (ok : PlanOk P g rk) {n x : Str} (h : Rc P n x) : rk x < rk n := by
  induction h with
  | base hr ht hp => rw [← ht]; exact ok.rk _ hr _ hp
  | step _ hr ht hp ih => have := ok.rk _ hr _ hp; rw [ht] at this; omega
theorem PlanOk.one (ok : PlanOk P g rk) {r r' : Rl} (h : r ∈ P) (h' : r' ∈ P) (e : r.t = r'.t) : r = r' := by
  have := ok.nd
  clear ok
  induction P with
  | nil => cases h
  | cons a l ih =>
    rw [List.map_cons, List.nodup_cons] at this
    rcases List.mem_cons.mp h with h1 | h1 <;> rcases List.mem_cons.mp h' with h2 | h2
    · rw [h1, h2]
    · exact absurd (List.mem_map.mpr ⟨r', h2, by rw [← e, h1]⟩) this.1
    · exact absurd (List.mem_map.mpr ⟨r, h1, by rw [e, h2]⟩) this.1
    · exact ih h1 h2 this.2
end
theorem nodup_le : ∀ {α : Type} [DecidableEq α] {l m : List α}, l.Nodup → (∀ x ∈ l, x ∈ m) → l.length ≤ m.length
  | _, _, [], m, _, _ => Nat.zero_le _
  | α, _, a :: l, m, h, s => by
    rw [List.nodup_cons] at h
    have ha : a ∈ m := s a (List.mem_cons_self ..)
    have h1 : l.length ≤ (m.erase a).length := nodup_le h.2 fun x hx => by
      have hne : x ≠ a := fun e => h.1 (e ▸ hx)
      exact (List.mem_erase_of_ne hne).mpr (s x (List.mem_cons_of_mem _ hx))
    rw [List.length_erase_of_mem ha] at h1
    have : 0 < m.length := List.length_pos_of_mem ha
    rw [List.length_cons]
    omega
/-! what depends on what, found by a search -/
def allParts (P : List Rl) : List Str := P.flatMap Rl.parts
theorem allParts_le {P : List Rl} {g : List Str} {rk : Str → Nat} (ok : PlanOk P g rk) : (allParts P).length ≤ 32 := by
  have : ∀ l : List Rl, (∀ r ∈ l, r.src.length ≤ 3) → (l.flatMap Rl.parts).length ≤ 4 * l.length := by
    intro l h
    induction l with
    | nil => simp
    | cons a l ih =>
      rw [List.flatMap_cons, List.length_append, List.length_cons]
      have h1 := ih fun r hr => h r (List.mem_cons_of_mem _ hr)
      have h2 := h a (List.mem_cons_self ..)
      have h3 : a.parts.length = a.src.length + 1 := rfl
      omega
  have h1 := this P ok.src
  have := ok.few
  unfold allParts
  omega
/-- between two pops -/
structure RInv (P : List Rl) (n : Str) (F W : List Str) : Prop where
  s : ∀ x ∈ F, Rc P n x
  w : ∀ x ∈ W, x = n ∨ x ∈ F
  c : ∀ y, (y = n ∨ y ∈ F) → y ∉ W → ∀ r ∈ P, r.t = y → ∀ p ∈ r.parts, p ∈ F
  nd : F.Nodup
/-- while the item's parts are added -/
structure RMid (P : List Rl) (n item : Str) (F W : List Str) : Prop where
  s : ∀ x ∈ F, Rc P n x
  w : ∀ x ∈ W, x = n ∨ x ∈ F
  i : item = n ∨ item ∈ F
  c : ∀ y, (y = n ∨ y ∈ F) → y ∉ W → y ≠ item → ∀ r ∈ P, r.t = y → ∀ p ∈ r.parts, p ∈ F
  nd : F.Nodup
section
variable {P : List Rl} {n item : Str} {F W : List Str}
theorem RInv.start : RInv P n [] [n] := ⟨fun x h => (List.not_mem_nil h).elim, fun x h => .inl (List.mem_singleton.mp h), fun y h hw => by
  rcases h with h | h
  · exact absurd (List.mem_singleton.mpr h) hw
  · exact (List.not_mem_nil h).elim, List.nodup_nil⟩
theorem rc_parts {x : Str} (h : Rc P n x) : x ∈ allParts P := by
  cases h with
  | base hr _ hp => exact List.mem_flatMap.mpr ⟨_, hr, hp⟩
  | step _ hr _ hp => exact List.mem_flatMap.mpr ⟨_, hr, hp⟩
theorem RInv.le (I : RInv P n F W) : F.length ≤ (allParts P).length := nodup_le I.nd fun x hx => rc_parts (I.s x hx)
theorem RMid.le (I : RMid P n item F W) : F.length ≤ (allParts P).length := nodup_le I.nd fun x hx => rc_parts (I.s x hx)
theorem RInv.pop (I : RInv P n F W) (h : W.getLast? = some item) : RMid P n item F W.dropLast := by
  have hw : W = W.dropLast ++ [item] := by
    have hne : W ≠ [] := fun q => by rw [q] at h; cases h
    have := List.dropLast_concat_getLast hne
    rw [List.getLast?_eq_some_getLast hne] at h
    rw [Option.some.inj h] at this
    exact this.symm
  refine ⟨I.s, fun x hx => I.w x (List.dropLast_subset _ hx), I.w item (by rw [hw]; simp), fun y hy hn hi => I.c y hy fun q => ?_, I.nd⟩
  rw [hw] at q
  rcases List.mem_append.mp q with q | q
  · exact hn q
  · exact hi (List.mem_singleton.mp q)
theorem RMid.add (I : RMid P n item F W) {r : Rl} (hr : r ∈ P) (ht : r.t = item) {p : Str} (hp : p ∈ r.parts) (hn : p ∉ F) : RMid P n item (F ++ [p]) (W ++ [p]) := by
  have rp : Rc P n p := by
    rcases I.i with e | e
    · exact .base hr (ht.trans e) hp
    · exact .step (I.s _ e) hr ht hp
  refine ⟨fun x hx => ?_, fun x hx => ?_, ?_, fun y hy hw hi r' hr' ht' q hq => ?_, ?_⟩
  · rcases List.mem_append.mp hx with h | h
    · exact I.s x h
    · rw [List.mem_singleton.mp h]; exact rp
  · rcases List.mem_append.mp hx with h | h
    · rcases I.w x h with e | e
      · exact .inl e
      · exact .inr (List.mem_append_left _ e)
    · exact .inr (List.mem_append_right _ h)
  · rcases I.i with e | e
    · exact .inl e
    · exact .inr (List.mem_append_left _ e)
  · refine List.mem_append_left _ (I.c y ?_ (fun z => hw (List.mem_append_left _ z)) hi r' hr' ht' q hq)
    rcases hy with h | h
    · exact .inl h
    · rcases List.mem_append.mp h with h | h
      · exact .inr h
      · exact absurd (List.mem_append_right _ h) hw
  · rw [List.nodup_append]
    exact ⟨I.nd, List.nodup_cons.mpr ⟨List.not_mem_nil, List.nodup_nil⟩, fun a ha b hb e => hn (by rw [← List.mem_singleton.mp hb, ← e]; exact ha)⟩
theorem RMid.done (I : RMid P n item F W) (h : ∀ r ∈ P, r.t = item → ∀ p ∈ r.parts, p ∈ F) : RInv P n F W :=
  ⟨I.s, I.w, fun y hy hw => by
    by_cases e : y = item
    · rw [e]; exact h
    · exact I.c y hy hw e, I.nd⟩
theorem RInv.all (I : RInv P n F []) : ∀ x, x ∈ F ↔ Rc P n x := by
  refine fun x => ⟨I.s x, fun h => ?_⟩
  induction h with
  | base hr ht hp => exact I.c n (.inl rfl) List.not_mem_nil _ hr ht _ hp
  | step _ hr ht hp ih => exact I.c _ (.inr ih) List.not_mem_nil _ hr ht _ hp
end
/-! the order -/
structure OrdOk (P : List Rl) (g : List Str) (ord : List Str) : Prop where
  nd : ord.Nodup
  tg : ∀ t ∈ ord, ∃ r ∈ P, r.t = t
  top : ∀ (i : Nat) (r : Rl), r ∈ P → ord[i]? = some r.t → ∀ p ∈ r.parts, p ∈ g ∨ p ∈ ord.take i
section
variable {P : List Rl} {g ord : List Str} {rk : Str → Nat}
theorem OrdOk.nil : OrdOk P g [] := ⟨List.nodup_nil, fun t h => (List.not_mem_nil h).elim, fun i r _ h => by simp at h⟩
theorem OrdOk.le (O : OrdOk P g ord) (ok : PlanOk P g rk) : ord.length ≤ P.length := by
  have := nodup_le (m := P.map Rl.t) O.nd fun t ht => by
    obtain ⟨r, hr, e⟩ := O.tg t ht
    exact List.mem_map.mpr ⟨r, hr, e⟩
  rwa [List.length_map] at this
theorem OrdOk.full (O : OrdOk P g ord) (ok : PlanOk P g rk) (h : ord.length = P.length) : ∀ r ∈ P, r.t ∈ ord := by
  intro r hr
  apply Classical.byContradiction
  intro hn
  have h2 := nodup_le (l := r.t :: ord) (m := P.map Rl.t) (List.nodup_cons.mpr ⟨hn, O.nd⟩) fun t ht => by
    rcases List.mem_cons.mp ht with e | e
    · rw [e]; exact List.mem_map.mpr ⟨r, hr, rfl⟩
    · obtain ⟨r', hr', e'⟩ := O.tg t e
      exact List.mem_map.mpr ⟨r', hr', e'⟩
  rw [List.length_map, List.length_cons] at h2
  omega
theorem OrdOk.next (O : OrdOk P g ord) (ok : PlanOk P g rk) (h : ord.length < P.length) : ∃ r ∈ P, r.t ∉ ord ∧ ∀ p ∈ r.parts, p ∈ g ∨ p ∈ ord := by
  have ex : ∃ r ∈ P, r.t ∉ ord := by
    apply Classical.byContradiction
    intro hn
    have : ∀ r ∈ P, r.t ∈ ord := fun r hr => Classical.byContradiction fun q => hn ⟨r, hr, q⟩
    have h2 := nodup_le (l := P.map Rl.t) (m := ord) ok.nd fun t ht => by
      obtain ⟨r, hr, e⟩ := List.mem_map.mp ht
      rw [← e]; exact this r hr
    rw [List.length_map] at h2
    omega
  have go : ∀ (k : Nat) (r : Rl), r ∈ P → r.t ∉ ord → rk r.t ≤ k → ∃ r ∈ P, r.t ∉ ord ∧ ∀ p ∈ r.parts, p ∈ g ∨ p ∈ ord := by
    intro k
    induction k with
    | zero =>
      intro r hr hn hk
      have := ok.rk r hr r.tool (List.mem_cons_self ..)
      omega
    | succ k ih =>
      intro r hr hn hk
      by_cases q : ∀ p ∈ r.parts, p ∈ g ∨ p ∈ ord
      · exact ⟨r, hr, hn, q⟩
      · have : ∃ p ∈ r.parts, ¬ (p ∈ g ∨ p ∈ ord) := Classical.byContradiction fun z => q fun p hp => Classical.byContradiction fun y => z ⟨p, hp, y⟩
        obtain ⟨p, hp, hno⟩ := this
        rcases ok.pt r hr p hp with e | ⟨r', hr', e⟩
        · exact absurd (.inl e) hno
        · refine ih r' hr' (fun z => hno (.inr (e ▸ z))) ?_
          have := ok.rk r hr p hp
          rw [e]
          omega
  obtain ⟨r, hr, hn⟩ := ex
  exact go _ r hr hn (Nat.le_refl _)
theorem OrdOk.add (O : OrdOk P g ord) (ok : PlanOk P g rk) {r : Rl} (hr : r ∈ P) (hn : r.t ∉ ord) (hp : ∀ p ∈ r.parts, p ∈ g ∨ p ∈ ord) : OrdOk P g (ord ++ [r.t]) := by
  refine ⟨?_, fun t ht => ?_, fun i r' hr' e => ?_⟩
  · rw [List.nodup_append]
    exact ⟨O.nd, List.nodup_cons.mpr ⟨List.not_mem_nil, List.nodup_nil⟩, fun a ha b hb e => hn (by rw [← List.mem_singleton.mp hb, ← e]; exact ha)⟩
  · rcases List.mem_append.mp ht with h | h
    · exact O.tg t h
    · exact ⟨r, hr, (List.mem_singleton.mp h).symm⟩
  · by_cases hi : i < ord.length
    · rw [List.getElem?_append_left hi] at e
      intro p q
      rw [List.take_append_of_le_length (Nat.le_of_lt hi)]
      exact O.top i r' hr' e p q
    · have hl : i = ord.length := by
        have := (List.getElem?_eq_some_iff.mp e).1
        rw [List.length_append] at this
        simp at this
        omega
      subst hl
      rw [List.getElem?_append_right (Nat.le_refl _)] at e
      have e2 : r.t = r'.t := by simpa using e
      have e3 := ok.one hr hr' e2
      subst e3
      rw [List.take_append_of_le_length (Nat.le_refl _), List.take_length]
      exact hp
end
/-! contents -/
abbrev Val := Str → Option (List Int)
def catF (φ : Val) : List Str → Option (List Int)
  | [] => some []
  | n :: r => match φ n with
    | none => none
    | some l => (catF φ r).map (l ++ ·)
def madeF (fuel : Nat) (φ : Val) (r : Rl) : Option (List Int) := match catF φ r.src, φ r.tool with
  | some num, some img => if (runF img num fuel).ended then some (runF img num fuel).out else none
  | _, _ => none
structure Sol (P : List Rl) (G : List (Str × List Int)) (fuel : Nat) (φ : Val) : Prop where
  g : ∀ n l, (n, l) ∈ G → φ n = some l
  r : ∀ r ∈ P, φ r.t = madeF fuel φ r
  z : ∀ n l, φ n = some l → l.length ≤ 1000
theorem catF_congr {φ ψ : Val} : ∀ {l : List Str}, (∀ p ∈ l, φ p = ψ p) → catF φ l = catF ψ l
  | [], _ => rfl
  | n :: r, h => by
    unfold catF
    rw [h n (List.mem_cons_self ..), catF_congr fun p hp => h p (List.mem_cons_of_mem _ hp)]
theorem madeF_congr {fuel : Nat} {φ ψ : Val} {r : Rl} (h : ∀ p ∈ r.parts, φ p = ψ p) : madeF fuel φ r = madeF fuel ψ r := by
  unfold madeF
  rw [catF_congr (l := r.src) fun p hp => h p (List.mem_cons_of_mem _ hp), h r.tool (List.mem_cons_self ..)]
theorem catF_len {φ : Val} (z : ∀ n l, φ n = some l → l.length ≤ 1000) : ∀ {l : List Str} {num : List Int}, catF φ l = some num → num.length ≤ 1000 * l.length
  | [], num, h => by cases h; simp
  | n :: r, num, h => by
    unfold catF at h
    cases e : φ n with
    | none => rw [e] at h; cases h
    | some l =>
      rw [e] at h
      obtain ⟨m, hm, rfl⟩ := Option.map_eq_some_iff.mp h
      have h1 := catF_len z hm
      have h2 := z n l e
      rw [List.length_append, List.length_cons]
      omega
theorem Sol.same {P : List Rl} {G G' : List (Str × List Int)} {fuel : Nat} {φ ψ : Val} {rk : Str → Nat} (s : Sol P G fuel φ) (s' : Sol P G' fuel ψ) (S : Str → Prop)
    (hrk : ∀ r ∈ P, ∀ p ∈ r.parts, rk p < rk r.t) (cl : ∀ r ∈ P, S r.t → ∀ p ∈ r.parts, S p) (kn : ∀ n, S n → (∃ l, (n, l) ∈ G ∧ (n, l) ∈ G') ∨ ∃ r ∈ P, r.t = n) : ∀ n, S n → φ n = ψ n := by
  have go : ∀ (k : Nat) (n : Str), rk n < k → S n → φ n = ψ n := by
    intro k
    induction k with
    | zero => intro n h; omega
    | succ k ih =>
      intro n hk hS
      rcases kn n hS with ⟨l, h1, h2⟩ | ⟨r, hr, e⟩
      · rw [s.g n l h1, s'.g n l h2]
      · subst e
        rw [s.r r hr, s'.r r hr]
        exact madeF_congr fun p hp => ih p (by have := hrk r hr p hp; omega) (cl r hr hS p hp)
  exact fun n hS => go _ n (Nat.lt_succ_self _) hS
/-- there is a solution -/
def itF (P : List Rl) (G : List (Str × List Int)) (fuel : Nat) : Nat → Val
  | 0 => fun _ => none
  | k + 1 => fun n => match G.lookup n with
    | some l => some l
    | none => match P.find? fun r => decide (r.t = n) with
      | some r => madeF fuel (itF P G fuel k) r
      | none => none
theorem madeF_len {fuel : Nat} {φ : Val} {r : Rl} {l : List Int} (h : madeF fuel φ r = some l) : l.length ≤ fuel := by
  unfold madeF at h
  split at h
  · split at h
    · cases h; exact runF_len _ _ _
    · cases h
  · cases h
theorem lookup_mem {G : List (Str × List Int)} (nd : (G.map (·.1)).Nodup) {n : Str} {l : List Int} (h : (n, l) ∈ G) : G.lookup n = some l := by
  induction G with
  | nil => cases h
  | cons a G ih =>
    rw [List.map_cons, List.nodup_cons] at nd
    rw [List.lookup_cons]
    rcases List.mem_cons.mp h with e | e
    · rw [← e]; simp
    · have : (n == a.1) = false := beq_eq_false_iff_ne.mpr fun q => nd.1 (List.mem_map.mpr ⟨(n, l), e, q⟩)
      rw [this]
      exact ih nd.2 e
theorem lookup_none {G : List (Str × List Int)} {n : Str} (h : n ∉ G.map (·.1)) : G.lookup n = none := by
  induction G with
  | nil => rfl
  | cons a G ih =>
    rw [List.map_cons, List.mem_cons, not_or] at h
    rw [List.lookup_cons, beq_eq_false_iff_ne.mpr h.1]
    exact ih h.2
theorem mem_lookup {G : List (Str × List Int)} {n : Str} {l : List Int} (h : G.lookup n = some l) : (n, l) ∈ G := by
  induction G with
  | nil => cases h
  | cons a G ih =>
    rw [List.lookup_cons] at h
    split at h
    · rename_i e
      have e' : n = a.1 := eq_of_beq e
      cases h
      rw [e']
      exact List.mem_cons_self ..
    · exact List.mem_cons_of_mem _ (ih h)
theorem sol_ex {P : List Rl} {G : List (Str × List Int)} {fuel : Nat} {rk : Str → Nat} (ok : PlanOk P (G.map (·.1)) rk) (nd : (G.map (·.1)).Nodup) (hf : fuel ≤ 1000) (hz : ∀ n l, (n, l) ∈ G → l.length ≤ 1000) :
    Sol P G fuel fun n => itF P G fuel (rk n + 1) n := by
  have fnd : ∀ r ∈ P, P.find? (fun r' => decide (r'.t = r.t)) = some r := fun r hr => by
    cases e : P.find? (fun r' => decide (r'.t = r.t)) with
    | none =>
      have := List.find?_eq_none.mp e r hr
      simp at this
    | some r' =>
      have h1 := List.mem_of_find?_eq_some e
      have h2 := List.find?_some e
      rw [ok.one h1 hr (of_decide_eq_true h2)]
  have stab : ∀ (k : Nat) (n : Str), rk n < k → itF P G fuel (k + 1) n = itF P G fuel k n := by
    intro k
    induction k with
    | zero => intro n h; omega
    | succ k ih =>
      intro n h
      show (match G.lookup n with | some l => some l | none => match P.find? fun (r : Rl) => decide (r.t = n) with | some r => madeF fuel (itF P G fuel (k + 1)) r | none => none) = (match G.lookup n with | some l => some l | none => match P.find? fun (r : Rl) => decide (r.t = n) with | some r => madeF fuel (itF P G fuel k) r | none => none)
      cases G.lookup n with
      | some l => rfl
      | none =>
        cases e : P.find? fun r => decide (r.t = n) with
        | none => rfl
        | some r =>
          have hr := List.mem_of_find?_eq_some e
          have ht : r.t = n := of_decide_eq_true (by simpa using List.find?_some e)
          exact madeF_congr fun p hp => ih p (by have := ok.rk r hr p hp; rw [ht] at this; omega)
  have up : ∀ (j : Nat) (n : Str), rk n < j → itF P G fuel j n = itF P G fuel (rk n + 1) n := by
    intro j
    induction j with
    | zero => intro n h; omega
    | succ j ih =>
      intro n h
      by_cases e : rk n < j
      · rw [stab j n e]; exact ih n e
      · have : j = rk n := by omega
        rw [this]
  refine ⟨fun n l h => ?_, fun r hr => ?_, fun n l h => ?_⟩
  · show itF P G fuel (rk n + 1) n = some l
    unfold itF
    rw [lookup_mem nd h]
  · have e1 : itF P G fuel (rk r.t + 1) r.t = madeF fuel (itF P G fuel (rk r.t)) r := by
      conv => lhs; unfold itF
      rw [lookup_none (ok.ng r hr), fnd r hr]
    show itF P G fuel (rk r.t + 1) r.t = _
    rw [e1]
    exact madeF_congr fun p hp => up _ p (ok.rk r hr p hp)
  · have h' : itF P G fuel (rk n + 1) n = some l := h
    unfold itF at h'
    cases e : G.lookup n with
    | some l' =>
      rw [e] at h'
      cases h'
      exact hz n _ (mem_lookup e)
    | none =>
      rw [e] at h'
      cases e2 : P.find? fun r => decide (r.t = n) with
      | none => rw [e2] at h'; cases h'
      | some r =>
        rw [e2] at h'
        have := madeF_len h'
        omega
/-! a permutation, a part -/
theorem PlanOk.perm {P P' : List Rl} {g : List Str} {rk : Str → Nat} (ok : PlanOk P g rk) (h : P'.Perm P) : PlanOk P' g rk :=
  ⟨(h.map Rl.t).nodup_iff.mpr ok.nd, fun r hr => ok.ng r (h.mem_iff.mp hr), fun r hr p hp => (ok.pt r (h.mem_iff.mp hr) p hp).imp id fun ⟨r', h1, h2⟩ => ⟨r', h.mem_iff.mpr h1, h2⟩, fun r hr => ok.rk r (h.mem_iff.mp hr), by rw [h.length_eq]; exact ok.few, fun r hr => ok.src r (h.mem_iff.mp hr)⟩
theorem Sol.perm {P P' : List Rl} {G : List (Str × List Int)} {fuel : Nat} {φ : Val} (s : Sol P G fuel φ) (h : ∀ r ∈ P', r ∈ P) : Sol P' G fuel φ := ⟨s.g, fun r hr => s.r r (h r hr), s.z⟩
theorem PlanOk.filter {P : List Rl} {g : List Str} {rk : Str → Nat} (ok : PlanOk P g rk) (S : Str → Bool) (cl : ∀ r ∈ P, S r.t = true → ∀ p ∈ r.parts, S p = true) : PlanOk (P.filter fun r => S r.t) g rk :=
  ⟨ok.nd.sublist ((List.filter_sublist ..).map _), fun r hr => ok.ng r (List.mem_filter.mp hr).1, fun r hr p hp => by
    obtain ⟨h1, h2⟩ := List.mem_filter.mp hr
    rcases ok.pt r h1 p hp with e | ⟨r', h3, h4⟩
    · exact .inl e
    · exact .inr ⟨r', List.mem_filter.mpr ⟨h3, by rw [h4]; exact cl r h1 h2 p hp⟩, h4⟩, fun r hr => ok.rk r (List.mem_filter.mp hr).1, Nat.le_trans (List.length_filter_le ..) ok.few, fun r hr => ok.src r (List.mem_filter.mp hr).1⟩
end Q3

set_option Elab.async false
set_option linter.all false
set_option maxRecDepth 100000
set_option maxHeartbeats 4000000
/-! plans in the heap; _parts, _rules_of, _twice, _missing -/
namespace Q3
open PySem PySem.Spec PyProof.Rows L2
open StX (pa_star)
def RuleAt (H : Hp) (a : Addr) (r : Rl) : Prop := ∃ b, H a = some (.tup [.str r.t, .str r.tool, .ref b]) ∧ H b = some (.tup (r.src.map V.str))
def PlanAt (H : Hp) (p : Addr) (P : List Rl) : Prop := ∃ as, H p = some (.lst (as.map V.ref)) ∧ Paired (RuleAt H) as P
def RulesAt (H : Hp) (d : Addr) (P : List Rl) : Prop := ∃ kvs, H d = some (.dK kvs) ∧ (∀ n, (∀ r ∈ P, r.t ≠ n) → valV kvs (Sum.inr n : Key) = none) ∧ ∀ r ∈ P, ∃ a, valV kvs (Sum.inr r.t : Key) = some (.ref a) ∧ RuleAt H a r
def GivK (H : Hp) (g : Addr) (gs : List Str) : Prop := ∃ kvs o, H g = some (.frz o (.dK kvs)) ∧ kvs.map (·.1) = gs.map (Sum.inr : Str → Key)
theorem RuleAt.same {H H' : Hp} {a : Addr} {r : Rl} (h : RuleAt H a r) (s : Same H H') : RuleAt H' a r := by
  obtain ⟨b, h1, h2⟩ := h
  exact ⟨b, s _ _ h1, s _ _ h2⟩
theorem PlanAt.same {H H' : Hp} {a : Addr} {P : List Rl} (h : PlanAt H a P) (s : Same H H') : PlanAt H' a P := by
  obtain ⟨as, h1, h2⟩ := h
  exact ⟨as, s _ _ h1, Paired.mapP h2 fun _ _ q => q.same s⟩
theorem RulesAt.same {H H' : Hp} {a : Addr} {P : List Rl} (h : RulesAt H a P) (s : Same H H') : RulesAt H' a P := by
  obtain ⟨kvs, h1, h2, h3⟩ := h
  refine ⟨kvs, s _ _ h1, h2, fun r hr => ?_⟩
  obtain ⟨b, q1, q2⟩ := h3 r hr
  exact ⟨b, q1, q2.same s⟩
theorem GivK.same {H H' : Hp} {a : Addr} {gs : List Str} (h : GivK H a gs) (s : Same H H') : GivK H' a gs := by
  obtain ⟨kvs, o, h1, h2⟩ := h
  exact ⟨kvs, o, s _ _ h1, h2⟩
theorem val_some {kvs : List (Key × V)} {k : Key} : (valV kvs k).isSome = true ↔ k ∈ kvs.map (·.1) := by
  cases e : valV kvs k with
  | none => exact ⟨fun z => (by cases z), fun z => absurd z (valV_not e)⟩
  | some v => exact ⟨fun _ => valV_in e, fun _ => rfl⟩
theorem val_names {kvs : List (Key × V)} {gs : List Str} (h : kvs.map (·.1) = gs.map (Sum.inr : Str → Key)) (n : Str) : (valV kvs (Sum.inr n : Key)).isSome = decide (n ∈ gs) := by
  rw [Bool.eq_iff_iff, val_some, h, decide_eq_true_eq]
  constructor
  · intro q
    obtain ⟨m, h1, h2⟩ := List.mem_map.mp q
    exact Sum.inr.inj h2 ▸ h1
  · intro q
    exact List.mem_map.mpr ⟨n, q, rfl⟩
theorem GivK.get {H : Hp} {g : Addr} {gs : List Str} (h : GivK H g gs) (n : Str) : ∃ o, DGet H g (.str n) o ∧ o.isSome = decide (n ∈ gs) := by
  obtain ⟨kvs, ob, h1, h2⟩ := h
  exact ⟨_, .inl ⟨kvs, Sum.inr n, .inr ⟨ob, h1⟩, rfl, rfl⟩, val_names h2 n⟩
theorem RulesAt.get {H : Hp} {d : Addr} {P : List Rl} (h : RulesAt H d P) (n : Str) : ∃ o, DGet H d (.str n) o ∧ (o.isSome = true ↔ ∃ r ∈ P, r.t = n) := by
  obtain ⟨kvs, h1, h2, h3⟩ := h
  refine ⟨_, DGet.k (k := Sum.inr n) h1, ?_⟩
  constructor
  · intro q
    apply Classical.byContradiction
    intro no
    rw [h2 n fun r hr e => no ⟨r, hr, e⟩] at q
    cases q
  · rintro ⟨r, hr, rfl⟩
    obtain ⟨a, q, _⟩ := h3 r hr
    rw [q]
    rfl
theorem paired_len {α β : Type} {F : α → β → Prop} {l : List α} {m : List β} (h : Paired F l m) : l.length = m.length := Paired.length h
section
variable {P : Program} {w : World} {K : PySem.W.Frag} {mg : Str → Option Value} {base : Heap} {f fP : Addr} {fd fdP : FuncData}
/-! _parts -/
def spParts : Sp := fun vs H Q _ => ∃ a r, vs = [.ref a] ∧ RuleAt H a r ∧ r.src.length ≤ 1000 ∧ ∀ H' p, Same H H' → H p = none → H' p = some (.lst (r.parts.map V.str)) → Q (.ref p) H'
theorem ok_parts (F : Fun K "_parts" "_parts" sParts f fd) : FnOk P w K mg base CX0 1 f fd ["rule"] spParts := by
  refine F.ok scParts (fun vs H Q E h => ?_) (fun cdv A outer s H vs Q E hr h => ?_)
  · obtain ⟨a, r, rfl, _⟩ := h
    rfl
  · obtain ⟨a, r, rfl, ⟨b, e1, e2⟩, hl, k⟩ := h
    refine ⟨_, pss_one (ps_ret (pe_lst (pa_cons (pe_ix ix_tup (pv 0) pe_int (fun _ _ => rfl)) (pa_star (pe_ix ix_tup (pv 0) pe_int (fun _ _ => rfl)) pa_nil)))), ?_⟩
    refine ⟨_, rfl, _, _, _, _, rfl, rfl, SqT.of e1, atI_nat (j := 1) rfl, _, rfl, _, _, _, _, rfl, rfl, SqT.of e1, atI_nat (j := 2) rfl, b, _, rfl, .inl (SqT.of e2), ?_, fun p hp => ?_⟩
    · rw [List.length_cons, List.length_append, List.length_map, sizeLine_eq]
      show r.src.length + 0 + 1 ≤ _
      omega
    · refine k _ p (Same.one hp) hp ?_
      rw [upd_same]
      simp [Rl.parts]
/-! _rules_of -/
def spRulesOf : Sp := fun vs H Q _ => ∃ p R, vs = [.ref p] ∧ PlanAt H p R ∧ (R.map Rl.t).Nodup ∧ R.length ≤ 8 ∧ ∀ H' d, Same H H' → H d = none → RulesAt H' d R → Q (.ref d) H'
theorem nodup_take {R : List Rl} (nd : (R.map Rl.t).Nodup) {i : Nat} {r : Rl} (h : R[i]? = some r) : ∀ r' ∈ R.take i, r'.t ≠ r.t := by
  intro r' hr' e
  obtain ⟨j, hj⟩ := List.mem_iff_getElem?.mp hr'
  rw [List.getElem?_take] at hj
  split at hj
  · rename_i hlt
    have h1 : (R.map Rl.t)[j]? = some r'.t := by rw [List.getElem?_map, hj]; rfl
    have h2 : (R.map Rl.t)[i]? = some r.t := by rw [List.getElem?_map, h]; rfl
    rw [e] at h1
    have := nd_ix nd h1 h2
    omega
  · cases hj
theorem mem_take_succ {R : List Rl} {i : Nat} {r : Rl} (h : R[i]? = some r) {x : Rl} (hx : x ∈ R.take (i + 1)) : x ∈ R.take i ∨ x = r := by
  rw [List.take_add_one, h] at hx
  rcases List.mem_append.mp hx with q | q
  · exact .inl q
  · exact .inr (List.mem_singleton.mp q)
theorem ok_rulesOf (F : Fun K "_rules_of" "_rules_of" sRulesOf f fd) : FnOk P w K mg base CX0 1 f fd ["plan"] spRulesOf := by
  refine F.ok scRulesOf (fun vs H Q E h => ?_) (fun cdv A outer s H vs Q E hr h => ?_)
  · obtain ⟨a, r, rfl, _⟩ := h
    rfl
  · obtain ⟨p, R, rfl, ⟨as, e1, pr⟩, ndR, hl, k⟩ := h
    have hu := hu_of hr
    have nd := scRulesOf.nd
    refine ⟨_, pss_cons (ps_set (i := 1) nd rfl (.inl rfl) pe_dnewK)
      (pss_cons (ps_for PassesOwn.never rfl (pi_list (pv 0)) (pg_name (i := 2) nd rfl (.inl rfl))
        (pss_one (ps_dput hu (pv 1) (pe_ix ix_tup (pv 2) pe_int (fun _ _ => rfl)) (pv 2) rfl)))
      (pss_one (ps_ret (pv 1)))), ?_⟩
    intro d hd
    have s1 : Same H (upd H d (.dK [])) := Same.one hd
    refine ⟨_, rfl, p, rfl, ⟨_, SqL.of (s1 _ _ e1)⟩, for_list (K := K) (a := p) (xs := as.map V.ref) (fun i σ H2 => ∃ x2 kvs, σ = [some (.ref p), some (.ref d), x2] ∧ (∀ b o, H b = some o → H2 b = some o) ∧ H2 d = some (.dK kvs) ∧ kvs.length ≤ i ∧
        (∀ n, (∀ r ∈ R.take i, r.t ≠ n) → valV kvs (Sum.inr n : Key) = none) ∧ ∀ r ∈ R.take i, ∃ a, valV kvs (Sum.inr r.t : Key) = some (.ref a) ∧ RuleAt H a r) ?_ ?_ ?_ ?_⟩
    · exact ⟨none, [], rfl, s1, upd_same, Nat.le_refl _, fun _ _ => rfl, fun r hr => by cases hr⟩
    · rintro i σ H2 _ ⟨x2, kvs, _, sm, _⟩
      exact SqL.of (sm _ _ e1)
    · rintro i x σ H2 hx ⟨x2, kvs, rfl, sm, e2, hk, no, ya⟩
      rw [List.getElem?_map] at hx
      obtain ⟨a, ha, rfl⟩ := Option.map_eq_some_iff.mp hx
      obtain ⟨r, hr2, ra⟩ := paired_get pr ha
      obtain ⟨b, ra1, ra2⟩ := id ra
      have hi : i < R.length := (List.getElem?_eq_some_iff.mp hr2).1
      refine ⟨_, rfl, _, rfl, _, rfl, _, _, _, _, rfl, rfl, SqT.of (sm _ _ ra1), atI_nat (j := 0) rfl, _, _, rfl, DPut.k (k := Sum.inr r.t) e2 (by rw [sizeLine_eq]; omega), ?_⟩
      refine ⟨_, putK kvs (Sum.inr r.t) (.ref a), rfl, fun c o hc => ?_, upd_same, ?_, fun n hn => ?_, fun r' hr' => ?_⟩
      · rw [upd_ne (ne_of_none hc hd)]; exact sm _ _ hc
      · have := length_putK kvs (Sum.inr r.t : Key) (V.ref a); omega
      · rw [valV_put]
        have h1 : r.t ≠ n := hn r (by rw [List.take_add_one, hr2]; simp)
        rw [if_neg fun z => h1 (Sum.inr.inj z).symm]
        exact no n fun r' q => hn r' (by rw [List.take_add_one]; exact List.mem_append_left _ q)
      · rw [valV_put]
        rcases mem_take_succ hr2 hr' with q | q
        · rw [if_neg fun z => nodup_take ndR hr2 r' q (Sum.inr.inj z)]
          exact ya r' q
        · subst q
          rw [if_pos rfl]
          exact ⟨a, rfl, ra⟩
    · rintro σ H2 ⟨x2, kvs, rfl, sm, e2, hk, no, ya⟩
      have el : (as.map V.ref).length = R.length := by rw [List.length_map, paired_len pr]
      rw [el, List.take_length] at no ya
      refine ⟨_, rfl, k H2 d sm hd ⟨kvs, e2, no, fun r hr => ?_⟩⟩
      obtain ⟨a, q1, q2⟩ := ya r hr
      exact ⟨a, q1, q2.same sm⟩
/-! _twice -/
def spTwice : Sp := fun vs H Q _ => ∃ p g R gs, vs = [.ref p, .ref g] ∧ PlanAt H p R ∧ GivK H g gs ∧ (R.map Rl.t).Nodup ∧ (∀ r ∈ R, r.t ∉ gs) ∧ R.length ≤ 8 ∧ ∀ H', Same H H' → Q .non H'
theorem ok_twice (F : Fun K "_twice" "_twice" sTwice f fd) : FnOk P w K mg base CX0 1 f fd ["plan", "given"] spTwice := by
  refine F.ok scTwice (fun vs H Q E h => ?_) (fun cdv A outer s H vs Q E hr h => ?_)
  · obtain ⟨p, g, R, gs, rfl, _⟩ := h
    rfl
  · obtain ⟨p, g, R, gs, rfl, ⟨as, e1, pr⟩, gv, ndR, ng, hl, k⟩ := h
    have hu := hu_of hr
    have nd := scTwice.nd
    refine ⟨_, pss_cons (ps_set (i := 2) nd rfl (.inl rfl) pe_dnewK)
      (pss_cons (ps_for PassesOwn.never rfl (pi_list (pv 0)) (pg_name (i := 3) nd rfl (.inl rfl))
        (pss_cons (ps_if (PW.pt (pw_or (pt_cmp (pc_din hu (pe_ix ix_tup (pv 3) pe_int (fun _ _ => rfl)) (pv 1))) (pw_or1 (pt_cmp (pc_din hu (pe_ix ix_tup (pv 3) pe_int (fun _ _ => rfl)) (pv 2)))))) (pss_one (ps_ret (pe_ix ix_tup (pv 3) pe_int (fun _ _ => rfl)))) pss_nil)
        (pss_one (ps_dput hu (pv 2) (pe_ix ix_tup (pv 3) pe_int (fun _ _ => rfl)) pe_bl rfl))))
      (pss_one (ps_ret pe_non))), ?_⟩
    intro d hd
    have s1 : Same H (upd H d (.dK [])) := Same.one hd
    refine ⟨_, rfl, p, rfl, ⟨_, SqL.of (s1 _ _ e1)⟩, for_list (K := K) (a := p) (xs := as.map V.ref) (fun i σ H2 => ∃ x3 kvs, σ = [some (.ref p), some (.ref g), some (.ref d), x3] ∧ Same H H2 ∧ H2 d = some (.dK kvs) ∧ kvs.length ≤ i ∧
        (∀ n, (∀ r ∈ R.take i, r.t ≠ n) → valV kvs (Sum.inr n : Key) = none)) ?_ ?_ ?_ ?_⟩
    · exact ⟨none, [], rfl, s1, upd_same, Nat.le_refl _, fun _ _ => rfl⟩
    · rintro i σ H2 _ ⟨x2, kvs, _, sm, _⟩
      exact SqL.of (sm _ _ e1)
    · rintro i x σ H2 hx ⟨x3, kvs, rfl, sm, e2, hk, no⟩
      rw [List.getElem?_map] at hx
      obtain ⟨a, ha, rfl⟩ := Option.map_eq_some_iff.mp hx
      obtain ⟨r, hr2, b, ra1, ra2⟩ := paired_get pr ha
      have hi : i < R.length := (List.getElem?_eq_some_iff.mp hr2).1
      have hm : r ∈ R := List.mem_of_getElem? hr2
      obtain ⟨o1, g1, g2⟩ := (gv.same sm).get r.t
      rw [decide_eq_false (ng r hm)] at g2
      refine ⟨_, rfl, _, _, _, _, rfl, rfl, SqT.of (sm _ _ ra1), atI_nat (j := 0) rfl, _, rfl, _, o1, rfl, g1, _, rfl, ?_⟩
      rw [g2]
      refine iteF ⟨_, rfl, _, _, _, _, rfl, rfl, SqT.of (sm _ _ ra1), atI_nat (j := 0) rfl, _, rfl, _, _, rfl, DGet.k (k := Sum.inr r.t) e2, _, rfl, ?_⟩
      rw [no r.t (nodup_take ndR hr2)]
      refine iteF ⟨_, rfl, _, rfl, _, _, _, _, rfl, rfl, SqT.of (sm _ _ ra1), atI_nat (j := 0) rfl, _, _, rfl, DPut.k (k := Sum.inr r.t) e2 (by rw [sizeLine_eq]; omega), ?_⟩
      refine ⟨_, putK kvs (Sum.inr r.t) (.bl true), rfl, fun c o hc => ?_, upd_same, ?_, fun n hn => ?_⟩
      · rw [upd_ne (ne_of_none hc hd)]; exact sm _ _ hc
      · have := length_putK kvs (Sum.inr r.t : Key) (V.bl true); omega
      · rw [valV_put]
        have h1 : r.t ≠ n := hn r (by rw [List.take_add_one, hr2]; simp)
        rw [if_neg fun z => h1 (Sum.inr.inj z).symm]
        exact no n fun r' q => hn r' (by rw [List.take_add_one]; exact List.mem_append_left _ q)
    · rintro σ H2 ⟨x3, kvs, rfl, sm, _⟩
      exact k H2 sm
/-! _missing -/
def spMissing : Sp := fun vs H Q _ => ∃ p g d R gs, vs = [.ref p, .ref g, .ref d] ∧ PlanAt H p R ∧ GivK H g gs ∧ RulesAt H d R ∧ (∀ r ∈ R, ∀ p ∈ r.parts, p ∈ gs ∨ ∃ r' ∈ R, r'.t = p) ∧ (∀ r ∈ R, r.src.length ≤ 3) ∧ ∀ H', Same H H' → Q .non H'
theorem ok_missing (F : Fun K "_missing" "_missing" sMissing f fd) (GP : FnOk P w K mg base CX0 1 fP fdP ["rule"] spParts) (kP : PySem.W.keepIn K (.ref fP) = true) (bP : Binds K fdP ["rule"] []) (gP : mg "_parts" = some (.ref fP)) :
    FnOk P w K mg base CX0 2 f fd ["plan", "given", "rules"] spMissing := by
  refine F.ok scMissing (fun vs H Q E h => ?_) (fun cdv A outer s H vs Q E hr h => ?_)
  · obtain ⟨p, g, d, R, gs, rfl, _⟩ := h
    rfl
  · obtain ⟨p, g, d, R, gs, rfl, ⟨as, e1, pr⟩, gv, ru, hp, hl, k⟩ := h
    have hu := hu_of hr
    have nd := scMissing.nd
    refine ⟨_, pss_cons (ps_for PassesOwn.never rfl (pi_list (pv 0)) (pg_name (i := 3) nd rfl (.inl rfl))
        (pss_one (ps_for PassesOwn.never rfl (pi_list (pe_call GP hr (by rfl) gP kP bP .nil pass0 (pa_cons (pv 3) pa_nil))) (pg_name (i := 4) nd rfl (.inl rfl))
          (pss_one (ps_if (PW.pt (pw_and (pt_cmp (pc_dnotin hu (pv 4) (pv 1))) (pw_and1 (pt_cmp (pc_dnotin hu (pv 4) (pv 2)))))) (pss_one (ps_ret (pv 4))) pss_nil)))))
      (pss_one (ps_ret pe_non)), ?_⟩
    refine ⟨_, rfl, p, rfl, ⟨_, SqL.of e1⟩, for_list (K := K) (a := p) (xs := as.map V.ref) (fun i σ H2 => ∃ x3 x4, σ = [some (.ref p), some (.ref g), some (.ref d), x3, x4] ∧ Same H H2) ?_ ?_ ?_ ?_⟩
    · exact ⟨none, none, rfl, Same.refl H⟩
    · rintro i σ H2 _ ⟨x3, x4, _, sm⟩
      exact SqL.of (sm _ _ e1)
    · rintro i x σ H2 hx ⟨x3, x4, rfl, sm⟩
      rw [List.getElem?_map] at hx
      obtain ⟨a, ha, rfl⟩ := Option.map_eq_some_iff.mp hx
      obtain ⟨r, hr2, ra⟩ := paired_get pr ha
      have hm : r ∈ R := List.mem_of_getElem? hr2
      refine ⟨_, rfl, a, r, rfl, ra.same sm, Nat.le_trans (hl r hm) (by decide), fun H3 q s3 nq eq => ?_⟩
      have s13 := sm.trans s3
      refine ⟨q, rfl, ⟨_, SqL.of eq⟩, for_list (K := K) (a := q) (xs := r.parts.map V.str) (fun j σ H4 => ∃ x4, σ = [some (.ref p), some (.ref g), some (.ref d), some (.ref a), x4] ∧ H4 = H3) ⟨_, rfl, rfl⟩ ?_ ?_ ?_⟩
      · rintro j σ H4 _ ⟨x4, _, rfl⟩
        exact SqL.of eq
      · rintro j y σ H4 hy ⟨x4, rfl, rfl⟩
        rw [List.getElem?_map] at hy
        obtain ⟨n, hn, rfl⟩ := Option.map_eq_some_iff.mp hy
        have hmn : n ∈ r.parts := List.mem_of_getElem? hn
        obtain ⟨o1, g1, g2⟩ := (gv.same s13).get n
        obtain ⟨o2, u1, u2⟩ := (ru.same s13).get n
        refine ⟨_, rfl, _, rfl, _, o1, rfl, g1, _, rfl, ?_⟩
        rw [g2]
        by_cases e : n ∈ gs
        · rw [decide_eq_true e]
          exact iteF (iteF ⟨_, rfl, rfl⟩)
        · rw [decide_eq_false e]
          refine iteT ⟨_, rfl, _, rfl, _, o2, rfl, u1, _, rfl, ?_⟩
          have := u2.mpr ((hp r hm n hmn).resolve_left e)
          rw [this]
          exact iteF ⟨_, rfl, rfl⟩
      · rintro σ H4 ⟨x4, rfl, rfl⟩
        exact ⟨_, _, rfl, s13⟩
    · rintro σ H2 ⟨x3, x4, rfl, sm⟩
      exact k H2 sm
end
end Q3

set_option Elab.async false
set_option linter.all false
set_option maxRecDepth 100000
set_option maxHeartbeats 4000000
/-! _reach, check_plan -/
namespace Q3
open PySem PySem.Spec PyProof.Rows L2
abbrev fK (F : List Str) : List (Key × V) := F.map fun x => (Sum.inr x, V.bl true)
theorem fK_keys (F : List Str) : (fK F).map (·.1) = F.map (Sum.inr : Str → Key) := by rw [List.map_map]; rfl
theorem fK_put {F : List Str} {p : Str} (h : p ∉ F) : putK (fK F) (Sum.inr p : Key) (V.bl true) = fK (F ++ [p]) := by
  have : valV (fK F) (Sum.inr p : Key) = none := by
    have h1 := val_names (fK_keys F) p
    rw [decide_eq_false h] at h1
    cases e : valV (fK F) (Sum.inr p : Key) with
    | none => rfl
    | some v => rw [e] at h1; cases h1
  rw [putK_new _ this]
  simp
theorem getLast_map {α β : Type} (f : α → β) (l : List α) : (l.map f).getLast? = l.getLast?.map f := List.getLast?_map
section
variable {P : Program} {w : World} {K : PySem.W.Frag} {mg : Str → Option Value} {base : Heap} {f fP fR fT fU fM : Addr} {fd fdP fdR fdT fdU fdM : FuncData}
def spReach : Sp := fun vs H Q _ => ∃ d n R gs rk, vs = [.ref d, .str n] ∧ RulesAt H d R ∧ PlanOk R gs rk ∧ ∀ H' f F, Same H H' → H f = none → H' f = some (.dK (fK F)) → F.Nodup → (∀ x, x ∈ F ↔ Rc R n x) → Q (.ref f) H'
theorem ok_reach (F : Fun K "_reach" "_reach" sReach f fd) (GP : FnOk P w K mg base CX0 1 fP fdP ["rule"] spParts) (kP : PySem.W.keepIn K (.ref fP) = true) (bP : Binds K fdP ["rule"] []) (gP : mg "_parts" = some (.ref fP)) :
    FnOk P w K mg base CX0 2 f fd ["rules", "name"] spReach := by
  refine F.ok scReach (fun vs H Q E h => ?_) (fun cdv A outer s H vs Q E hr h => ?_)
  · obtain ⟨d, n, R, gs, rk, rfl, _⟩ := h
    rfl
  · obtain ⟨d, n, R, gs, rk, rfl, ru, ok, k⟩ := h
    have hu := hu_of hr
    have nd := scReach.nd
    refine ⟨_, pss_cons (ps_set (i := 2) nd rfl (.inl rfl) pe_dnewK)
      (pss_cons (ps_set (i := 3) nd rfl (.inl rfl) (pe_lst (pa_cons (pv 1) pa_nil)))
      (pss_cons (ps_while PassesOwn.never (pt_truth (pv 3) (by intro _; rfl))
        (pss_cons (ps_set (i := 4) nd rfl (.inl rfl) (pe_bm0 PySem.F.plainAttrs_list PySem.F.slot_list_pop PySem.F.type_list_pop mt_pop (pv 3)))
        (pss_cons (ps_if (pt_cmp (pc_dnotin hu (pv 4) (pv 0))) (pss_one ps_continue) pss_nil)
        (pss_one (ps_for PassesOwn.never rfl (pi_list (pe_call GP hr (by rfl) gP kP bP .nil pass0 (pa_cons (pe_dget hu (pv 0) (pv 4) (fun _ _ => rfl)) pa_nil))) (pg_name (i := 5) nd rfl (.inl rfl))
          (pss_one (ps_if (pt_cmp (pc_dnotin hu (pv 5) (pv 2)))
            (pss_cons (ps_dput hu (pv 2) (pv 5) pe_bl rfl)
            (pss_one (ps_expr (pe_bm PySem.F.plainAttrs_list PySem.F.slot_list_append PySem.F.type_list_append mt_append (pv 3) (pa_cons (pv 5) pa_nil))))) pss_nil)))))))
      (pss_one (ps_ret (pv 2))))), ?_⟩
    intro fa hfa
    have s1 : Same H (upd H fa (.dK [])) := Same.one hfa
    refine ⟨_, rfl, (by show 1 ≤ sizeLine; decide), fun wa hwa => ?_⟩
    have hwa0 := s1.free hwa
    have s2 : Same H (upd (upd H fa (.dK [])) wa (.lst [.str n])) := s1.trans (Same.one hwa)
    refine ⟨fun m σ H' => ∃ F W x4 x5, σ = [some (.ref d), some (.str n), some (.ref fa), some (.ref wa), x4, x5] ∧ Same H H' ∧ H' fa = some (.dK (fK F)) ∧ H' wa = some (.lst (W.map V.str)) ∧ RInv R n F W ∧ m = W.length + ((allParts R).length - F.length) ∧ m ≤ 40,
      ⟨_, [], [n], none, none, rfl, s2, upd_old upd_same hwa, upd_same, RInv.start, rfl, by have := allParts_le ok; show 1 + _ ≤ 40; omega⟩, ?_⟩
    rintro m σ H1 ⟨F, W, x4, x5, rfl, sm, eF, eW, I, rfl, m40⟩
    have fw : fa ≠ wa := ne_of eF eW (by intro z; cases z)
    refine ⟨_, rfl, _, .inl ⟨_, SqL.of eW, rfl⟩, ?_⟩
    cases hW : W.getLast? with
    | none =>
      have e0 : W = [] := List.getLast?_eq_none_iff.mp hW
      subst e0
      exact iteF ⟨_, rfl, k H1 fa F sm hfa eF I.nd I.all⟩
    | some item =>
      have e0 : W ≠ [] := fun q => by rw [q] at hW; cases hW
      have e2 : (!(W.map V.str).isEmpty) = true := by
        cases q : W with
        | nil => exact absurd q e0
        | cons a r => rfl
      rw [e2]
      have wl : W.length = W.dropLast.length + 1 := by
        have := List.length_pos_iff.mpr e0
        rw [List.length_dropLast]; omega
      refine iteT ⟨fun σ' H' => ∃ m', m' < W.length + ((allParts R).length - F.length) ∧ ∃ F W x4 x5, σ' = [some (.ref d), some (.str n), some (.ref fa), some (.ref wa), x4, x5] ∧ Same H H' ∧ H' fa = some (.dK (fK F)) ∧ H' wa = some (.lst (W.map V.str)) ∧ RInv R n F W ∧ m' = W.length + ((allParts R).length - F.length) ∧ m' ≤ 40, fun σ' H' q => q, ?_⟩
      refine ⟨_, rfl, .inl ⟨rfl, _, SqL.of eW⟩, wa, _, .str item, rfl, rfl, eW, ?_, ?_⟩
      · rw [← List.getLast?_eq_getElem?, List.getLast?_map, hW]; rfl
      have M := I.pop hW
      have eWd : (W.map V.str).dropLast = W.dropLast.map V.str := by rw [List.map_dropLast]
      rw [eWd]
      have sm1 : Same H (upd H1 wa (.lst (W.dropLast.map V.str))) := fun b o e => by rw [upd_ne (ne_of_none e hwa0)]; exact sm _ _ e
      have eF1 : (upd H1 wa (.lst (W.dropLast.map V.str))) fa = some (.dK (fK F)) := by rw [upd_ne fw]; exact eF
      have hle := M.le
      obtain ⟨o1, u1, u2⟩ := (ru.same sm1).get item
      refine ⟨_, rfl, _, rfl, _, o1, rfl, u1, _, rfl, ?_⟩
      by_cases hin : ∃ r ∈ R, r.t = item
      · rw [u2.mpr hin]
        obtain ⟨r, hr2, ht⟩ := hin
        obtain ⟨kvs, r1, r2, r3⟩ := ru.same sm1
        obtain ⟨ra, q1, q2⟩ := r3 r hr2
        refine iteF ⟨_, rfl, _, rfl, _, .ref ra, rfl, ?_, ?_⟩
        · have := DGet.k (k := Sum.inr r.t) r1
          rw [q1, ht] at this
          exact this
        refine ⟨ra, r, rfl, q2, Nat.le_trans (ok.src r hr2) (by decide), fun H3 q s3 nq eq => ?_⟩
        refine ⟨q, rfl, ⟨_, SqL.of eq⟩, for_list (K := K) (a := q) (xs := r.parts.map V.str) (fun i σ H4 => ∃ F' W' x5, σ = [some (.ref d), some (.str n), some (.ref fa), some (.ref wa), some (.str item), x5] ∧ Same H H4 ∧ H4 q = some (.lst (r.parts.map V.str)) ∧ H4 fa = some (.dK (fK F')) ∧ H4 wa = some (.lst (W'.map V.str)) ∧
            RMid R n item F' W' ∧ (∀ p ∈ r.parts.take i, p ∈ F') ∧ W'.length + ((allParts R).length - F'.length) = W.dropLast.length + ((allParts R).length - F.length)) ?_ ?_ ?_ ?_⟩
        · exact ⟨F, W.dropLast, _, rfl, sm1.trans s3, eq, s3 _ _ eF1, s3 _ _ upd_same, M, fun p hp => (by cases hp), rfl⟩
        · rintro i σ H4 _ ⟨F', W', x5', _, _, e, _⟩
          exact SqL.of e
        · rintro i x σ H4 hx ⟨F', W', x5', rfl, sm4, eq4, eF4, eW4, M4, pt4, ms4⟩
          rw [List.getElem?_map] at hx
          obtain ⟨p, hp, rfl⟩ := Option.map_eq_some_iff.mp hx
          have hmp : p ∈ r.parts := List.mem_of_getElem? hp
          have hle4 := M4.le
          have nqw : q ≠ wa := fun z => by rw [z, upd_same] at nq; cases nq
          have nqf : q ≠ fa := fun z => by rw [z, eF1] at nq; cases nq
          have tk : ∀ y ∈ r.parts.take (i + 1), y ∈ r.parts.take i ∨ y = p := fun y hy => by
            rw [List.take_add_one, hp] at hy
            rcases List.mem_append.mp hy with z | z
            · exact .inl z
            · exact .inr (List.mem_singleton.mp z)
          refine ⟨_, rfl, _, rfl, _, _, rfl, DGet.k (k := Sum.inr p) eF4, _, rfl, ?_⟩
          rw [val_names (fK_keys F') p]
          by_cases hpF : p ∈ F'
          · rw [decide_eq_true hpF]
            refine iteF ⟨F', W', _, rfl, sm4, eq4, eF4, eW4, M4, fun y hy => ?_, ms4⟩
            rcases tk y hy with z | z
            · exact pt4 y z
            · rw [z]; exact hpF
          · rw [decide_eq_false hpF]
            have h32 := allParts_le ok
            have M5 := M4.add hr2 ht hmp hpF
            have hle5 := M5.le
            rw [List.length_append] at hle5
            refine iteT ⟨_, rfl, _, rfl, _, _, rfl, DPut.k (k := Sum.inr p) eF4 (by rw [List.length_map, sizeLine_eq]; omega), ?_⟩
            have eW5 : (upd H4 fa (.dK (putK (fK F') (Sum.inr p) (.bl true)))) wa = some (.lst (W'.map V.str)) := by rw [upd_ne fw.symm]; exact eW4
            refine ⟨_, rfl, .inl ⟨rfl, _, SqL.of eW5⟩, _, rfl, wa, _, _, rfl, rfl, eW5, ?_, ?_⟩
            · rw [List.length_map, sizeLine_eq]; omega
            · refine ⟨F' ++ [p], W' ++ [p], _, rfl, fun b o e => ?_, ?_, ?_, ?_, M5, fun y hy => ?_, ?_⟩
              · rw [upd_ne (ne_of_none e hwa0), upd_ne (ne_of_none e hfa)]; exact sm4 _ _ e
              · rw [upd_ne nqw, upd_ne nqf]; exact eq4
              · rw [upd_ne fw, upd_same, fK_put hpF]
              · rw [upd_same, List.map_append]; rfl
              · rcases tk y hy with z | z
                · exact List.mem_append_left _ (pt4 y z)
                · rw [z]; simp
              · rw [List.length_append, List.length_append]
                show W'.length + 1 + ((allParts R).length - (F'.length + 1)) = _
                have : ([p] : List Str).length = 1 := rfl
                omega
        · rintro σ H4 ⟨F', W', x5', rfl, sm4, eq4, eF4, eW4, M4, pt4, ms4⟩
          refine ⟨_, ?_, F', W', _, _, rfl, sm4, eF4, eW4, M4.done fun r' hr' ht' p hp => ?_, rfl, ?_⟩
          · omega
          · have := ok.one hr' hr2 (ht'.trans ht.symm)
            subst this
            rw [List.length_map, List.take_length] at pt4
            exact pt4 p hp
          · omega
      · have hno : o1.isSome = false := by
          cases e : o1.isSome with
          | false => rfl
          | true => exact absurd (u2.mp e) hin
        rw [hno]
        refine iteT ⟨_, ?_, F, W.dropLast, _, _, rfl, sm1, eF1, upd_same, M.done fun r hr2 ht => absurd ⟨r, hr2, ht⟩ hin, rfl, ?_⟩
        · omega
        · omega
end
end Q3

set_option Elab.async false
set_option linter.all false
set_option maxRecDepth 100000
set_option maxHeartbeats 4000000
/-! check_plan, order_of, _check_name, part_of -/
namespace Q3
open PySem PySem.Spec PyProof.Rows L2
/-- a def of the module, by its name -/
structure FOk (P : Program) (w : World) (K : PySem.W.Frag) (mg : Str → Option Value) (base : Heap) (x : Str) (k : Nat) (ps : List Str) (sp : Sp) : Prop where
  ex : ∃ f fd, mg x = some (.ref f) ∧ FnOk P w K mg base CX0 k f fd ps sp ∧ PySem.W.keepIn K (.ref f) = true ∧ Binds K fd ps []
section
variable {X : Cx} {x : Str} {k : Nat} {ps : List Str} {sp : Sp} {p pos : Pos} {e : Expr} {es : List Expr} {t : TA}
theorem pe_callF (G : FOk X.prog X.w X.K X.mg X.base x k ps sp) (hr : Room k X.A) (hg : Gl X x) (ha : PA X (e :: es) t) (hdb : (x == ("__debug__" : Str)) = false := by decide)
    (he : starEach (e :: es) X.env = (false, eval e X.env) :: starEach es X.env := by rfl) (hpl : (backTo pos (starEach es X.env)).any (·.1) = false := by rfl) :
    PE X (.Call (.Name x p) (e :: es) [] pos) (tCall sp [] E0 t) := by
  obtain ⟨f, fd, m, F, hk, hb⟩ := G.ex
  exact pe_call F hr hg m hk hb .nil pass0 ha hdb he hpl
end
section
variable {P : Program} {w : World} {K : PySem.W.Frag} {mg : Str → Option Value} {base : Heap} {f : Addr} {fd : FuncData}
def spCheck : Sp := fun vs H Q _ => ∃ p g R gs rk, vs = [.ref p, .ref g] ∧ PlanAt H p R ∧ GivK H g gs ∧ PlanOk R gs rk ∧ ∀ H', Same H H' → Q .non H'
theorem ok_check (F : Fun K "check_plan" "check_plan" sCheckPlan f fd) (GT : FOk P w K mg base "_twice" 1 ["plan", "given"] spTwice) (GU : FOk P w K mg base "_rules_of" 1 ["plan"] spRulesOf)
    (GM : FOk P w K mg base "_missing" 2 ["plan", "given", "rules"] spMissing) (GR : FOk P w K mg base "_reach" 2 ["rules", "name"] spReach) : FnOk P w K mg base CX0 3 f fd ["plan", "given"] spCheck := by
  refine F.ok scCheckPlan (fun vs H Q E h => ?_) (fun cdv A outer s H vs Q E hr h => ?_)
  · obtain ⟨p, g, R, gs, rk, rfl, _⟩ := h
    rfl
  · obtain ⟨p, g, R, gs, rk, rfl, pl, gv, ok, k⟩ := h
    have hu := hu_of hr
    have hr1 : Room 1 _ := hr.mono (by decide)
    have nd := scCheckPlan.nd
    refine ⟨_, pss_cons (ps_set (i := 2) nd rfl (.inl rfl) (pe_callF GT hr1 (by rfl) (pa_cons (pv 0) (pa_cons (pv 1) pa_nil))))
      (pss_cons (ps_if (pt_cmpR op_notN (pv 2) pe_non (nomark _)) (pss_one ps_never) pss_nil)
      (pss_cons (ps_set (i := 3) nd rfl (.inl rfl) (pe_callF GU hr1 (by rfl) (pa_cons (pv 0) pa_nil)))
      (pss_cons (ps_set (i := 2) nd rfl (.inl rfl) (pe_callF GM hr (by rfl) (pa_cons (pv 0) (pa_cons (pv 1) (pa_cons (pv 3) pa_nil)))))
      (pss_cons (ps_if (pt_cmpR op_notN (pv 2) pe_non (nomark _)) (pss_one ps_never) pss_nil)
      (pss_one (ps_for PassesOwn.never rfl (pi_list (pv 0)) (pg_name (i := 4) nd rfl (.inl rfl))
        (pss_one (ps_if (pt_cmp (pc_din hu (pe_ix ix_tup (pv 4) pe_int (fun _ _ => rfl)) (pe_callF GR hr (by rfl) (pa_cons (pv 3) (pa_cons (pe_ix ix_tup (pv 4) pe_int (fun _ _ => rfl)) pa_nil))))) (pss_one ps_never) pss_nil)))))))), ?_⟩
    refine ⟨_, rfl, _, rfl, p, g, R, gs, rfl, pl, gv, ok.nd, ok.ng, ok.few, fun H1 s1 => ?_⟩
    refine ⟨_, rfl, rfl, _, rfl, iteNS rfl ?_⟩
    refine ⟨_, rfl, p, R, rfl, pl.same s1, ok.nd, ok.few, fun H2 d s2 nd2 ru => ?_⟩
    have s12 := s1.trans s2
    refine ⟨_, rfl, _, rfl, _, rfl, p, g, d, R, gs, rfl, pl.same s12, gv.same s12, ru, ok.pt, ok.src, fun H3 s3 => ?_⟩
    refine ⟨_, rfl, rfl, _, rfl, iteNS rfl ?_⟩
    obtain ⟨as, e1, pr⟩ := pl
    have s13 := s12.trans s3
    refine ⟨_, rfl, p, rfl, ⟨_, SqL.of (s13 _ _ e1)⟩, for_list (K := K) (a := p) (xs := as.map V.ref) (fun i σ H4 => ∃ x4, σ = [some (.ref p), some (.ref g), some .non, some (.ref d), x4] ∧ Same H3 H4) ⟨none, rfl, Same.refl H3⟩ ?_ ?_ ?_⟩
    · rintro i σ H4 _ ⟨x4, _, sm⟩
      exact SqL.of (sm _ _ (s13 _ _ e1))
    · rintro i x σ H4 hx ⟨x4, rfl, sm⟩
      rw [List.getElem?_map] at hx
      obtain ⟨a, ha, rfl⟩ := Option.map_eq_some_iff.mp hx
      obtain ⟨r, hr2, b, ra1, ra2⟩ := paired_get pr ha
      have hm : r ∈ R := List.mem_of_getElem? hr2
      have e5 := sm _ _ (s13 _ _ ra1)
      refine ⟨_, rfl, _, _, _, _, rfl, rfl, SqT.of e5, atI_nat (j := 0) rfl, _, rfl, _, rfl, _, _, _, _, rfl, rfl, SqT.of e5, atI_nat (j := 0) rfl, d, r.t, R, gs, rk, rfl, (ru.same s3).same sm, ok, fun H5 fa F s5 nf eF ndF hF => ?_⟩
      refine ⟨_, _, rfl, DGet.k (k := Sum.inr r.t) eF, _, rfl, ?_⟩
      rw [val_names (fK_keys F) r.t, decide_eq_false fun q => ?_]
      · exact iteF ⟨_, rfl, sm.trans s5⟩
      · have := ((hF r.t).mp q).lt ok
        omega
    · rintro σ H4 ⟨x4, rfl, sm⟩
      exact k H4 (s13.trans sm)
def spCheckName : Sp := fun vs H Q _ => ∃ p g n R gs rk, vs = [.ref p, .ref g, .str n] ∧ PlanAt H p R ∧ GivK H g gs ∧ PlanOk R gs rk ∧ (∃ r ∈ R, r.t = n) ∧ ∀ H', Same H H' → Q .non H'
theorem ok_checkName (F : Fun K "_check_name" "_check_name" sCheckName f fd) (GC : FOk P w K mg base "check_plan" 3 ["plan", "given"] spCheck) (GU : FOk P w K mg base "_rules_of" 1 ["plan"] spRulesOf) :
    FnOk P w K mg base CX0 4 f fd ["plan", "given", "name"] spCheckName := by
  refine F.ok scCheckName (fun vs H Q E h => ?_) (fun cdv A outer s H vs Q E hr h => ?_)
  · obtain ⟨p, g, n, R, gs, rk, rfl, _⟩ := h
    rfl
  · obtain ⟨p, g, n, R, gs, rk, rfl, pl, gv, ok, hn, k⟩ := h
    have hu := hu_of hr
    have hr1 : Room 1 _ := hr.mono (by decide)
    refine ⟨_, pss_cons (ps_expr (pe_callF GC hr (by rfl) (pa_cons (pv 0) (pa_cons (pv 1) pa_nil))))
      (pss_one (ps_if (PW.pt (pw_and (pt_cmp (pc_dnotin hu (pv 2) (pv 1))) (pw_and1 (pt_cmp (pc_dnotin hu (pv 2) (pe_callF GU hr1 (by rfl) (pa_cons (pv 0) pa_nil))))))) (pss_one ps_never) pss_nil)), ?_⟩
    refine ⟨_, rfl, _, rfl, p, g, R, gs, rk, rfl, pl, gv, ok, fun H1 s1 => ?_⟩
    obtain ⟨o1, g1, g2⟩ := (gv.same s1).get n
    refine ⟨_, rfl, _, rfl, _, o1, rfl, g1, _, rfl, ?_⟩
    obtain ⟨r, hr2, ht⟩ := id hn
    have hng := ok.ng r hr2
    rw [ht] at hng
    rw [g2, decide_eq_false hng]
    refine iteT ⟨_, rfl, _, rfl, p, R, rfl, pl.same s1, ok.nd, ok.few, fun H2 d s2 nd2 ru => ?_⟩
    obtain ⟨o2, u1, u2⟩ := ru.get n
    refine ⟨_, o2, rfl, u1, _, rfl, ?_⟩
    rw [u2.mpr hn]
    exact iteF (k H2 (s1.trans s2))
def spOrder : Sp := fun vs H Q _ => ∃ p g R gs rk, vs = [.ref p, .ref g] ∧ PlanAt H p R ∧ GivK H g gs ∧ PlanOk R gs rk ∧ gs.length ≤ 1000 ∧ gs.Nodup ∧
  ∀ H' o ord, Same H H' → H o = none → H' o = some (.lst (ord.map V.str)) → OrdOk R gs ord → ord.length = R.length → Q (.ref o) H'
def spPart : Sp := fun vs H Q _ => ∃ p g l n R gs rk, vs = [.ref p, .ref g, .ref l] ∧ PlanAt H p R ∧ GivK H g gs ∧ PlanOk R gs rk ∧ H l = some (.lst [.str n]) ∧ (∃ r ∈ R, r.t = n) ∧
  ∀ H' q, ∀ S : Str → Bool, Same H H' → H q = none → (∀ x, S x = true ↔ x = n ∨ Rc R n x) → PlanAt H' q (R.filter fun r => S r.t) → Q (.ref q) H'
end
end Q3

set_option Elab.async false
set_option linter.all false
set_option maxRecDepth 100000
set_option maxHeartbeats 4000000
/-! order_of -/
namespace Q3
open PySem PySem.Spec PyProof.Rows L2
theorem all_in {l S : List Str} : ((l.map fun p => decide (p ∈ S)).all id) = true ↔ ∀ p ∈ l, p ∈ S := by
  rw [List.all_map, List.all_eq_true]
  exact ⟨fun h p hp => of_decide_eq_true (h p hp), fun h p hp => decide_eq_true (h p hp)⟩
section
variable {P : Program} {w : World} {K : PySem.W.Frag} {mg : Str → Option Value} {base : Heap} {f : Addr} {fd : FuncData}
theorem ok_order (F : Fun K "order_of" "order_of" sOrderOf f fd) (ml : mg "len" = none) (ma : mg "all" = none) (GC : FOk P w K mg base "check_plan" 3 ["plan", "given"] spCheck) (GP : FOk P w K mg base "_parts" 1 ["rule"] spParts) :
    FnOk P w K mg base CX0 4 f fd ["plan", "given"] spOrder := by
  refine F.ok scOrderOf (fun vs H Q E h => ?_) (fun cdv A outer s H vs Q E hr h => ?_)
  · obtain ⟨p, g, R, gs, rk, rfl, _⟩ := h
    rfl
  · obtain ⟨p, g, R, gs, rk, rfl, pl, gv, ok, hgl, ndg, k⟩ := h
    have hu := hu_of hr
    have hr1 : Room 1 _ := hr.mono (by decide)
    have nd := scOrderOf.nd
    refine ⟨_, pss_cons (ps_expr (pe_callF GC hr (by rfl) (pa_cons (pv 0) (pa_cons (pv 1) pa_nil))))
      (pss_cons (ps_set (i := 2) nd rfl (.inl rfl) (pe_lst pa_nil))
      (pss_cons (ps_set (i := 3) nd rfl (.inr rfl) (pe_dc (own := [("name", 5)]) (g := gName 5) (tt := tYes) (tk := tVar 5) (tv := tC (.bl true)) rfl nd (pi_keys (pv 1))
          (blkOk_by (N := ["plan", "given", "order", "ready", "rule", "name", "part"]) (sc := defScope sOrderOf) (by decide +kernel))
          (fun _ _ _ _ _ => pg_name (i := 5) nd rfl (Or.inl rfl)) (fun _ _ _ _ _ => pts_nil) (fun _ _ _ _ _ => pv 5) (fun _ _ _ _ _ => pe_bl)))
      (pss_cons (ps_while PassesOwn.never (pt_cmpR op_lt (pe_callB call_len_seq (by rfl) ml PySem.boot_len (pa_cons (pv 2) pa_nil)) (pe_callB call_len_seq (by rfl) ml PySem.boot_len (pa_cons (pv 0) pa_nil)) (nomark _))
        (pss_one (ps_for PassesOwn.never rfl (pi_list (pv 0)) (pg_name (i := 4) nd rfl (.inl rfl))
          (pss_one (ps_if (PW.pt (pw_and (pt_cmp (pc_dnotin hu (pe_ix ix_tup (pv 4) pe_int (fun _ _ => rfl)) (pv 3)))
              (pw_and1 (pt_val (pe_callB (cr_all rfl) (by rfl) ma (by decide +kernel) (pa_cons
                (pe_lc (own := [("part", 6)]) (g := gName 6) (tt := tYes) (te := tDIn (tVar 6) (tVar 3)) rfl nd (pi_list (pe_callF GP hr1 (by rfl) (pa_cons (pv 4) pa_nil)))
                  (blkOk_by (N := ["plan", "given", "order", "ready", "rule", "name", "part"]) (sc := defScope sOrderOf) (by decide +kernel))
                  (fun _ _ _ _ _ => pg_name (i := 6) nd rfl (Or.inl rfl)) (fun _ _ _ _ _ => pts_nil) (fun _ _ _ _ _ => pe_cmp (pc_din hu (pv 6) (pv 3)))) pa_nil))))))
            (pss_cons (ps_expr (pe_bm PySem.F.plainAttrs_list PySem.F.slot_list_append PySem.F.type_list_append mt_append (pv 2) (pa_cons (pe_ix ix_tup (pv 4) pe_int (fun _ _ => rfl)) pa_nil)))
            (pss_cons (ps_dput hu (pv 3) (pe_ix ix_tup (pv 4) pe_int (fun _ _ => rfl)) pe_bl rfl)
            (pss_one ps_break)))
            pss_nil)))))
      (pss_one (ps_ret (pv 2)))))), ?_⟩
    obtain ⟨as, e1, pr⟩ := id pl
    have lenR : (as.map V.ref).length = R.length := by rw [List.length_map, paired_len pr]
    refine ⟨_, rfl, _, rfl, p, g, R, gs, rk, rfl, pl, gv, ok, fun H1 s1 => ?_⟩
    refine ⟨Nat.zero_le _, fun o no => ?_⟩
    have s2 : Same H (upd H1 o (.lst [])) := s1.trans (Same.one no)
    obtain ⟨kvs, ob, g1, g2⟩ := gv.same s2
    have no0 := s1.free no
    have hkl : kvs.length = gs.length := by
      have := congrArg List.length g2
      simpa using this
    refine ⟨_, rfl, g, ob, rfl, .inl ⟨kvs, g1, fun D hD => dc_keys (fun i H3 => Same (upd H1 o (.lst [])) H3 ∧ H3 D = some (.dK (fK (gs.take i)))) ⟨Same.one hD, upd_same⟩ (fun i H3 _ q => q.1 _ _ g1) ?_ ?_⟩⟩
    · rintro i ky v H3 hi ⟨s3, e3⟩
      have hil := (List.getElem?_eq_some_iff.mp hi).1
      obtain ⟨n, hn⟩ : ∃ n, gs[i]? = some n := ⟨gs[i]'(by omega), List.getElem?_eq_getElem (by omega)⟩
      have ek : ky = Sum.inr n := by
        have h1 : (kvs.map (·.1))[i]? = some ky := by rw [List.getElem?_map, hi]; rfl
        rw [g2, List.getElem?_map, hn] at h1
        exact (Option.some.inj h1).symm
      subst ek
      refine ⟨rfl, ?_⟩
      refine ⟨_, rfl, fK (gs.take i), Sum.inr n, rfl, e3, ?_, fun b ob' hb => ?_, ?_⟩
      · rw [List.length_map, List.length_take, sizeLine_eq]; omega
      · rw [upd_ne (ne_of_none hb hD)]; exact s3 _ _ hb
      · rw [upd_same, fK_put, List.take_add_one, hn]
        · rfl
        · intro hin
          obtain ⟨j, hj⟩ := List.mem_iff_getElem?.mp hin
          rw [List.getElem?_take] at hj
          split at hj
          · have := nd_ix ndg hj hn
            omega
          · cases hj
    · rintro H3 ⟨s3, e3⟩
      rw [hkl, List.take_length] at e3
      have s13 := s2.trans s3
      have nD0 := s2.free hD
      have oD : o ≠ D := fun z => by rw [← z, upd_same] at hD; cases hD
      refine ⟨fun m σ H' => ∃ ord x4, σ = [some (.ref p), some (.ref g), some (.ref o), some (.ref D), x4, none, none] ∧ Same H H' ∧ H' o = some (.lst (ord.map V.str)) ∧ H' D = some (.dK (fK (gs ++ ord))) ∧ OrdOk R gs ord ∧ m = R.length - ord.length,
        ⟨_, [], none, rfl, s13, s3 _ _ upd_same, by rw [List.append_nil]; exact e3, OrdOk.nil, rfl⟩, ?_⟩
      rintro m σ H4 ⟨ord, x4, rfl, sm, eo, eD, O, rfl⟩
      have hle := O.le ok
      have := ok.few
      refine ⟨_, rfl, _, _, rfl, .inl (SqL.of eo), _, rfl, _, _, rfl, .inl (SqL.of (sm _ _ e1)), _, _, rfl, rfl, _, rfl, ?_⟩
      rw [lenR, List.length_map]
      by_cases hlt : ord.length < R.length
      · rw [decide_eq_true (by omega)]
        refine iteT ⟨fun σ' H' => ∃ m', m' < R.length - ord.length ∧ ∃ ord x4, σ' = [some (.ref p), some (.ref g), some (.ref o), some (.ref D), x4, none, none] ∧ Same H H' ∧ H' o = some (.lst (ord.map V.str)) ∧ H' D = some (.dK (fK (gs ++ ord))) ∧ OrdOk R gs ord ∧ m' = R.length - ord.length, fun σ' H' q => q, ?_⟩
        refine ⟨_, rfl, p, rfl, ⟨_, SqL.of (sm _ _ e1)⟩, for_list (K := K) (a := p) (xs := as.map V.ref) (fun i σ H5 => ∃ x4, σ = [some (.ref p), some (.ref g), some (.ref o), some (.ref D), x4, none, none] ∧ Same H4 H5 ∧
          ∀ r ∈ R.take i, ¬ (r.t ∉ ord ∧ ∀ q ∈ r.parts, q ∈ gs ∨ q ∈ ord)) ⟨_, rfl, Same.refl H4, fun r hr => by cases hr⟩ ?_ ?_ ?_⟩
        · rintro i σ H5 _ ⟨x4', _, s5, _⟩
          exact SqL.of (s5 _ _ (sm _ _ e1))
        · rintro i x σ H5 hx ⟨x4', rfl, s5, no5⟩
          rw [List.getElem?_map] at hx
          obtain ⟨a, ha, rfl⟩ := Option.map_eq_some_iff.mp hx
          obtain ⟨r, hr2, ra⟩ := paired_get pr ha
          have hm : r ∈ R := List.mem_of_getElem? hr2
          obtain ⟨b, ra1, ra2⟩ := (ra.same sm).same s5
          have tk : ¬ (r.t ∉ ord ∧ ∀ q ∈ r.parts, q ∈ gs ∨ q ∈ ord) → ∀ r' ∈ R.take (i + 1), ¬ (r'.t ∉ ord ∧ ∀ q ∈ r'.parts, q ∈ gs ∨ q ∈ ord) := fun hno r' hr' => by
            rcases mem_take_succ hr2 hr' with z | z
            · exact no5 r' z
            · rw [z]; exact hno
          refine ⟨_, rfl, _, _, _, _, rfl, rfl, SqT.of ra1, atI_nat (j := 0) rfl, _, rfl, _, _, rfl, DGet.k (k := Sum.inr r.t) (s5 _ _ eD), _, rfl, ?_⟩
          rw [val_names (fK_keys _) r.t]
          by_cases hin : r.t ∈ gs ++ ord
          · rw [decide_eq_true hin]
            refine iteF (iteF ⟨_, rfl, s5, tk fun q => ?_⟩)
            rcases List.mem_append.mp hin with z | z
            · exact ok.ng r hm z
            · exact q.1 z
          · rw [decide_eq_false hin]
            have hno : r.t ∉ ord := fun z => hin (List.mem_append_right _ z)
            refine iteT ⟨_, rfl, a, r, rfl, (ra.same sm).same s5, Nat.le_trans (ok.src r hm) (by decide), fun H6 q s6 nq eq => ?_⟩
            have s56 := s5.trans s6
            refine ⟨q, rfl, ⟨_, SqL.of eq⟩, fun L hL => lc_list (K := K) (a := q) (xs := r.parts.map V.str) (fun j H7 => Same H6 H7 ∧ H7 L = some (.lst (((r.parts.take j).map fun p => decide (p ∈ gs ++ ord)).map V.bl))) ⟨Same.one hL, upd_same⟩ (fun j H7 _ z => SqL.of (z.1 _ _ eq)) ?_ ?_⟩
            · rintro j y H7 hy ⟨s7, e7⟩
              rw [List.getElem?_map] at hy
              obtain ⟨n, hn, rfl⟩ := Option.map_eq_some_iff.mp hy
              have hjl := (List.getElem?_eq_some_iff.mp hn).1
              have h4 : r.parts.length ≤ 4 := by
                have := ok.src r hm
                show r.src.length + 1 ≤ 4
                omega
              refine ⟨rfl, ?_⟩
              refine ⟨_, rfl, _, rfl, _, _, rfl, DGet.k (k := Sum.inr n) (s7 _ _ (s56 _ _ eD)), _, e7, ?_, fun b' ob' hb => ?_, ?_⟩
              · rw [List.length_map, List.length_map, List.length_take, sizeLine_eq]; omega
              · rw [upd_ne (ne_of_none hb hL)]; exact s7 _ _ hb
              · rw [upd_same, val_names (fK_keys _) n, List.take_add_one, hn]
                simp
            · rintro H7 ⟨s7, e7⟩
              rw [List.length_map, List.take_length] at e7
              have s57 := s56.trans s7
              refine ⟨L, _, rfl, SqL.of e7, _, rfl, ?_⟩
              by_cases hall : ∀ q ∈ r.parts, q ∈ gs ++ ord
              · rw [all_in.mpr hall]
                have hpp : ∀ q ∈ r.parts, q ∈ gs ∨ q ∈ ord := fun q hq => List.mem_append.mp (hall q hq)
                have O2 := O.add ok hm hno hpp
                obtain ⟨b, rb1, rb2⟩ := (ra.same sm).same s57
                have eo7 := s57 _ _ eo
                refine iteT ⟨_, rfl, .inl ⟨rfl, _, SqL.of eo7⟩, _, rfl, _, _, _, _, rfl, rfl, SqT.of rb1, atI_nat (j := 0) rfl, _, _, _, rfl, rfl, eo7, ?_, ?_⟩
                · rw [List.length_map, sizeLine_eq]; omega
                have rb1' : (upd H7 o (.lst (ord.map V.str ++ [.str r.t]))) a = some _ := upd_kind rb1 eo7 (by intro z; cases z)
                have eD2 : (upd H7 o (.lst (ord.map V.str ++ [.str r.t]))) D = some (.dK (fK (gs ++ ord))) := by rw [upd_ne oD.symm]; exact s57 _ _ eD
                refine ⟨_, rfl, _, rfl, _, _, _, _, rfl, rfl, SqT.of rb1', atI_nat (j := 0) rfl, _, _, rfl, DPut.k (k := Sum.inr r.t) eD2 ?_, ?_⟩
                · rw [List.length_map, List.length_append, sizeLine_eq]; omega
                refine ⟨_, ?_, ord ++ [r.t], _, rfl, fun b' ob' hb => ?_, ?_, ?_, O2, rfl⟩
                · rw [List.length_append]
                  show R.length - (ord.length + 1) < _
                  omega
                · rw [upd_ne (ne_of_none hb nD0), upd_ne (ne_of_none hb no0)]; exact s57 _ _ (sm _ _ hb)
                · rw [upd_ne oD, upd_same, List.map_append]; rfl
                · rw [upd_same, fK_put hin, List.append_assoc]
              · have hall' : ¬ ((r.parts.map fun p => decide (p ∈ gs ++ ord)).all id) = true := fun z => hall (all_in.mp z)
                rw [Bool.not_eq_true] at hall'
                rw [hall']
                refine iteF ⟨_, rfl, s57, tk fun z => hall fun q hq => List.mem_append.mpr (z.2 q hq)⟩
        · rintro σ H5 ⟨x4', rfl, s5, no5⟩
          exfalso
          rw [lenR, List.take_length] at no5
          obtain ⟨r, hr2, h1, h2⟩ := O.next ok hlt
          exact no5 r hr2 ⟨h1, h2⟩
      · rw [decide_eq_false (by omega)]
        exact iteF ⟨_, rfl, k H4 o ord sm no0 eo O (by omega)⟩
end
end Q3

set_option Elab.async false
set_option linter.all false
set_option maxRecDepth 100000
set_option maxHeartbeats 4000000
/-! part_of -/
namespace Q3
open PySem PySem.Spec PyProof.Rows L2
/-- the copies of the rules: [(rule[0], rule[1], tuple(rule[2])) for ..] -/
theorem rule_copy {H : Hp} {a c : Addr} {r : Rl} (h : RuleAt H a r) {b : Addr} (e : H a = some (.tup [.str r.t, .str r.tool, .ref b])) (hc : H c = none) : RuleAt (upd H c (.tup [.str r.t, .str r.tool, .ref b])) c r := by
  obtain ⟨b', h1, h2⟩ := h
  rw [e] at h1
  cases h1
  exact ⟨b, upd_same, upd_old h2 hc⟩
theorem mem_fKput {F : List Str} {p : Str} : ∃ F', putK (fK F) (Sum.inr p : Key) (V.bl true) = fK F' ∧ F'.length ≤ F.length + 1 ∧ ∀ x, x ∈ F' ↔ x ∈ F ∨ x = p := by
  by_cases h : p ∈ F
  · refine ⟨F, ?_, Nat.le_succ _, fun x => ⟨.inl, fun q => q.elim id fun e => e ▸ h⟩⟩
    have h1 : valV (fK F) (Sum.inr p : Key) ≠ none := by
      have := val_names (fK_keys F) p
      rw [decide_eq_true h] at this
      intro z
      rw [z] at this
      cases this
    unfold putK
    rw [if_pos]
    · rw [List.map_map]
      apply List.map_congr_left
      intro x _
      show (if (Sum.inr x : Key) = Sum.inr p then ((Sum.inr x : Key), V.bl true) else (Sum.inr x, V.bl true)) = (Sum.inr x, V.bl true)
      split <;> rfl
    · rw [List.any_eq_true]
      exact ⟨(Sum.inr p, V.bl true), List.mem_map.mpr ⟨p, h, rfl⟩, decide_eq_true rfl⟩
  · refine ⟨F ++ [p], fK_put h, by rw [List.length_append]; exact Nat.le_refl _, fun x => ?_⟩
    rw [List.mem_append, List.mem_singleton]
theorem filter_succ {R : List Rl} {i : Nat} {r : Rl} (h : R[i]? = some r) (S : Rl → Bool) : (R.take (i + 1)).filter S = (R.take i).filter S ++ (if S r then [r] else []) := by
  rw [List.take_add_one, h, List.filter_append]
  congr 1
  show [r].filter S = _
  rw [List.filter_cons]
  split <;> rfl
structure TP (mg : Str → Option Value) : Prop where
  tuple : mg "tuple" = none
section
variable {P : Program} {w : World} {K : PySem.W.Frag} {mg : Str → Option Value} {base : Heap} {f : Addr} {fd : FuncData}
theorem ok_part (F : Fun K "part_of" "part_of" sPartOf f fd) (mt : mg "tuple" = none) (GC : FOk P w K mg base "check_plan" 3 ["plan", "given"] spCheck) (GU : FOk P w K mg base "_rules_of" 1 ["plan"] spRulesOf)
    (GN : FOk P w K mg base "_check_name" 4 ["plan", "given", "name"] spCheckName) (GR : FOk P w K mg base "_reach" 2 ["rules", "name"] spReach) :
    FnOk P w K mg base CX0 5 f fd ["plan", "given", "names"] spPart := by
  refine F.ok scPartOf (fun vs H Q E h => ?_) (fun cdv A outer s H vs Q E hr h => ?_)
  · obtain ⟨p, g, l, n, R, gs, rk, rfl, _⟩ := h
    rfl
  · obtain ⟨p, g, l, n, R, gs, rk, rfl, pl, gv, ok, el, hn, k⟩ := h
    have hu := hu_of hr
    have hr1 : Room 1 _ := hr.mono (by decide)
    have hr2 : Room 2 _ := hr.mono (by decide)
    have hr3 : Room 3 _ := hr.mono (by decide)
    have nd := scPartOf.nd
    refine ⟨_, pss_cons (ps_expr (pe_callF GC hr3 (by rfl) (pa_cons (pv 0) (pa_cons (pv 1) pa_nil))))
      (pss_cons (ps_set (i := 3) nd rfl (.inl rfl) (pe_callF GU hr1 (by rfl) (pa_cons (pv 0) pa_nil)))
      (pss_cons (ps_set (i := 4) nd rfl (.inr rfl) pe_dnewK)
      (pss_cons (ps_for PassesOwn.never rfl (pi_list (pv 2)) (pg_name (i := 5) nd rfl (.inl rfl))
        (pss_cons (ps_expr (pe_callF GN hr (by rfl) (pa_cons (pv 0) (pa_cons (pv 1) (pa_cons (pv 5) pa_nil)))))
        (pss_cons (ps_dput hu (pv 4) (pv 5) pe_bl rfl)
        (pss_one (ps_for PassesOwn.never rfl (pi_keys (pe_lkv (pe_callF GR hr2 (by rfl) (pa_cons (pv 3) (pa_cons (pv 5) pa_nil))))) (pg_name (i := 6) nd rfl (.inl rfl))
          (pss_one (ps_dput hu (pv 4) (pv 6) pe_bl rfl)))))))
      (pss_one (ps_ret (pe_lc (own := [("rule", 7)]) (g := gName 7) (tt := tB (tDIn (tOp (rIxT K) (tVar 7) (tC (.int 0))) (tVar 4)))
          (te := tTup (tCons (tOp (rIxT K) (tVar 7) (tC (.int 0))) (tCons (tOp (rIxT K) (tVar 7) (tC (.int 1))) (tCons (tCB (rTupK K) (tCons (tOp (rIxT K) (tVar 7) (tC (.int 2))) tNil)) tNil)))) rfl nd (pi_list (pv 0))
          (blkOk_by (N := ["plan", "given", "names", "rules", "wanted", "name", "item", "rule"]) (sc := defScope sPartOf) (by decide +kernel))
          (fun _ _ _ _ _ => pg_name (i := 7) nd rfl (Or.inl rfl)) (fun _ _ _ _ _ => pts_one (pt_cmp (pc_din hu (pe_ix (ix_tupK (K := K)) (pv 7) pe_int (fun _ _ => rfl)) (pv 4))))
          (fun _ _ _ _ _ => pe_tup (pa_cons (pe_ix (ix_tupK (K := K)) (pv 7) pe_int (fun _ _ => rfl)) (pa_cons (pe_ix (ix_tupK (K := K)) (pv 7) pe_int (fun _ _ => rfl))
            (pa_cons (pe_callTy (T := "tuple") (call_tupleK (K := K)) (by rfl) mt (by decide +kernel) (pa_cons (pe_ix (ix_tupK (K := K)) (pv 7) pe_int (fun _ _ => rfl)) pa_nil)) pa_nil)))))))))), ?_⟩
    obtain ⟨as, e1, pr⟩ := id pl
    have lenR : (as.map V.ref).length = R.length := by rw [List.length_map, paired_len pr]
    have few := ok.few
    refine ⟨_, rfl, _, rfl, p, g, R, gs, rk, rfl, pl, gv, ok, fun H1 s1 => ?_⟩
    refine ⟨_, rfl, p, R, rfl, pl.same s1, ok.nd, ok.few, fun H2 d s2 nd2 ru => ?_⟩
    intro wa nwa
    have s12 := s1.trans s2
    have nwa0 := s12.free nwa
    have s3 : Same H (upd H2 wa (.dK [])) := s12.trans (Same.one nwa)
    have dwa : d ≠ wa := fun z => by
      obtain ⟨kvs, q, _⟩ := ru
      rw [z, nwa] at q
      cases q
    refine ⟨_, rfl, l, rfl, ⟨_, SqL.of (s3 _ _ el)⟩, for_list (K := K) (a := l) (xs := [V.str n]) (fun i σ H3 => ∃ x5 x6 F, σ = [some (.ref p), some (.ref g), some (.ref l), some (.ref d), some (.ref wa), x5, x6, none] ∧ Same H H3 ∧ RulesAt H3 d R ∧ H3 wa = some (.dK (fK F)) ∧ F.length ≤ 100 ∧
      (i = 0 → F = []) ∧ (0 < i → ∀ x, x ∈ F ↔ x = n ∨ Rc R n x)) ?_ ?_ ?_ ?_⟩
    · exact ⟨none, none, [], rfl, s3, ru.same (Same.one nwa), upd_same, Nat.zero_le _, fun _ => rfl, fun z => absurd z (Nat.lt_irrefl 0)⟩
    · rintro i σ H3 _ ⟨x5, x6, F, _, sm, _⟩
      exact SqL.of (sm _ _ el)
    · rintro i x σ H3 hx ⟨x5, x6, F, rfl, sm, ru3, e3, hF, hF0, _⟩
      have hi0 : i = 0 := by
        have := (List.getElem?_eq_some_iff.mp hx).1
        simp at this
        omega
      subst hi0
      cases hx
      have hF1 := hF0 rfl
      subst hF1
      refine ⟨_, rfl, _, rfl, _, rfl, p, g, n, R, gs, rk, rfl, pl.same sm, gv.same sm, ok, hn, fun H4 s4 => ?_⟩
      have e4 := s4 _ _ e3
      refine ⟨_, rfl, _, rfl, _, _, rfl, DPut.k (k := Sum.inr n) e4 (by show 0 < sizeLine; decide), ?_⟩
      have sm5 : Same H (upd H4 wa (.dK (putK (fK []) (Sum.inr n) (.bl true)))) := fun b o hb => by rw [upd_ne (ne_of_none hb nwa0)]; exact s4 _ _ (sm _ _ hb)
      have ru5 : RulesAt (upd H4 wa (.dK (putK (fK []) (Sum.inr n) (.bl true)))) d R := by
        obtain ⟨kvs, r1, r2, r3⟩ := ru3.same s4
        refine ⟨kvs, by rw [upd_ne dwa]; exact r1, r2, fun r hr => ?_⟩
        obtain ⟨a, q1, b, q2, q3⟩ := r3 r hr
        exact ⟨a, q1, b, upd_kind q2 e4 (by intro z; cases z), upd_kind q3 e4 (by intro z; cases z)⟩
      refine ⟨_, rfl, _, rfl, d, n, R, gs, rk, rfl, ru5, ok, fun H6 fa F6 s6 nf eF ndF hF6 => ?_⟩
      have fwa : fa ≠ wa := fun z => by rw [z, upd_same] at nf; cases nf
      have fd' : fa ≠ d := fun z => by
        obtain ⟨kvs, q, _⟩ := ru5
        rw [z, q] at nf
        cases nf
      refine ⟨fa, _, rfl, eF, trivial, fun ob => ⟨fa, ob, rfl, .inl ⟨fK F6, upd_same, for_keys (fun j σ H7 => ∃ x6 F7, σ = [some (.ref p), some (.ref g), some (.ref l), some (.ref d), some (.ref wa), some (.str n), x6, none] ∧ Same H H7 ∧ RulesAt H7 d R ∧ H7 fa = some (.frz ob (.dK (fK F6))) ∧
        H7 wa = some (.dK (fK F7)) ∧ F7.length ≤ j + 1 ∧ ∀ x, x ∈ F7 ↔ x = n ∨ x ∈ F6.take j) ?_ ?_ ?_ ?_⟩⟩⟩
      · refine ⟨_, [n], rfl, fun b o hb => ?_, ?_, upd_same, ?_, Nat.le_refl _, fun x => ?_⟩
        · rw [upd_ne fun z => ?_]
          · exact s6 _ _ (sm5 _ _ hb)
          · rw [← z] at nf
            rw [sm5 _ _ hb] at nf
            cases nf
        · obtain ⟨kvs, r1, r2, r3⟩ := ru5.same s6
          refine ⟨kvs, by rw [upd_ne fd'.symm]; exact r1, r2, fun r hr => ?_⟩
          obtain ⟨a, q1, b, q2, q3⟩ := r3 r hr
          exact ⟨a, q1, b, upd_kind q2 eF (by intro z; cases z), upd_kind q3 eF (by intro z; cases z)⟩
        · rw [upd_ne fwa.symm, s6 _ _ upd_same]
          rfl
        · rw [List.mem_singleton]
          exact ⟨.inl, fun q => q.elim id fun z => by cases z⟩
      · rintro j σ H7 _ ⟨x6', F7, _, _, _, e, _⟩
        exact e
      · rintro j ky v σ H7 hj ⟨x6', F7, rfl, sm7, ru7, ef7, ew7, hl7, hm7⟩
        rw [List.getElem?_map] at hj
        obtain ⟨y, hy, hyk⟩ := Option.map_eq_some_iff.mp hj
        cases hyk
        have hj32 : j < 32 := by
          have h1 := (List.getElem?_eq_some_iff.mp hy).1
          have h2 := nodup_le (m := allParts R) ndF fun x hx => rc_parts ((hF6 x).mp hx)
          have h3 := allParts_le ok
          omega
        refine ⟨_, rfl, _, rfl, _, _, rfl, DPut.k (k := Sum.inr y) ew7 (by rw [List.length_map, sizeLine_eq]; omega), ?_⟩
        obtain ⟨F8, q1, q2, q3⟩ := mem_fKput (F := F7) (p := y)
        refine ⟨_, F8, rfl, fun b o hb => ?_, ?_, ?_, ?_, by omega, fun x => ?_⟩
        · rw [upd_ne (ne_of_none hb nwa0)]; exact sm7 _ _ hb
        · obtain ⟨kvs, r1, r2, r3⟩ := ru7
          refine ⟨kvs, by rw [upd_ne dwa]; exact r1, r2, fun r hr => ?_⟩
          obtain ⟨a, q1, b, q2, q3⟩ := r3 r hr
          exact ⟨a, q1, b, upd_kind q2 ew7 (by intro z; cases z), upd_kind q3 ew7 (by intro z; cases z)⟩
        · rw [upd_ne fwa]; exact ef7
        · rw [upd_same, q1]
        · rw [q3, hm7, List.take_add_one, hy]
          simp only [List.mem_append, Option.toList_some, List.mem_singleton, or_assoc]
      · rintro σ H7 ⟨x6', F7, rfl, sm7, ru7, ef7, ew7, hl7, hm7⟩
        rw [List.length_map] at hl7 hm7
        have h2 := nodup_le (m := allParts R) ndF fun x hx => rc_parts ((hF6 x).mp hx)
        have h3 := allParts_le ok
        refine ⟨_, _, F7, rfl, sm7, ru7, ew7, by omega, (fun z => (by cases z)), fun _ x => ?_⟩
        rw [hm7, List.take_length, hF6]
    · rintro σ H3 ⟨x5, x6, F, rfl, sm, ru3, e3, hF, _, hFm⟩
      have hFm' := hFm (Nat.zero_lt_succ 0)
      refine ⟨_, rfl, p, rfl, ⟨_, SqL.of (sm _ _ e1)⟩, fun D hD => lc_list (K := K) (a := p) (xs := as.map V.ref) (fun i H4 => ∃ bs, Same H3 H4 ∧ H4 D = some (.lst (bs.map V.ref)) ∧ bs.length ≤ i ∧ Paired (RuleAt H4) bs ((R.take i).filter fun r => decide (r.t ∈ F))) ?_ ?_ ?_ ?_⟩
      · exact ⟨[], Same.one hD, upd_same, Nat.le_refl _, .nil⟩
      · rintro i H4 _ ⟨bs, s4, _⟩
        exact SqL.of (s4 _ _ (sm _ _ e1))
      · rintro i x H4 hx ⟨bs, s4, e4, hb4, pr4⟩
        rw [List.getElem?_map] at hx
        obtain ⟨a, ha, rfl⟩ := Option.map_eq_some_iff.mp hx
        obtain ⟨r, hr2, ra⟩ := paired_get pr ha
        have ra4 := (ra.same sm).same s4
        obtain ⟨b, ra1, ra2⟩ := id ra4
        have hi := (List.getElem?_eq_some_iff.mp hr2).1
        refine ⟨rfl, ?_⟩
        refine ⟨_, rfl, _, _, _, _, rfl, rfl, SqT.of ra1, atI_nat (j := 0) rfl, _, rfl, _, _, rfl, DGet.k (k := Sum.inr r.t) (s4 _ _ e3), _, rfl, ?_⟩
        rw [val_names (fK_keys F) r.t]
        by_cases hin : r.t ∈ F
        · rw [decide_eq_true hin]
          refine iteT ⟨_, rfl, _, _, _, _, rfl, rfl, SqT.of ra1, atI_nat (j := 0) rfl, _, rfl, _, _, _, _, rfl, rfl, SqT.of ra1, atI_nat (j := 1) rfl, _, rfl, _, _, _, _, rfl, rfl, SqT.of ra1, atI_nat (j := 2) rfl, b, _, rfl, .inr ⟨SqT.of ra2, ?_⟩⟩
          refine ⟨(by show 3 ≤ sizeLine; decide), fun c hc => ⟨_, upd_old e4 hc, ?_, bs ++ [c], ?_, ?_, ?_, ?_⟩⟩
          · rw [List.length_map, sizeLine_eq]; omega
          · intro b' o' hb'
            rw [upd_ne (ne_of_none hb' hD)]
            exact upd_old (s4 _ _ hb') hc
          · rw [upd_same, List.map_append]; rfl
          · rw [List.length_append]; show bs.length + 1 ≤ i + 1; omega
          · have up : ∀ (b' : Addr) (o' : HO), (upd H4 c (.tup [.str r.t, .str r.tool, .ref b])) b' = some o' → (∀ xs, o' ≠ .lst xs) → (upd (upd H4 c (.tup [.str r.t, .str r.tool, .ref b])) D (.lst (bs.map V.ref ++ [.ref c]))) b' = some o' := fun b' o' h h' => by
              rw [upd_ne fun z => ?_]
              · exact h
              · rw [z, upd_old e4 hc] at h
                exact h' _ (Option.some.inj h).symm
            have upR : ∀ b' r', RuleAt (upd H4 c (.tup [.str r.t, .str r.tool, .ref b])) b' r' → RuleAt (upd (upd H4 c (.tup [.str r.t, .str r.tool, .ref b])) D (.lst (bs.map V.ref ++ [.ref c]))) b' r' := fun b' r' ⟨b2, q1, q2⟩ =>
              ⟨b2, up _ _ q1 (fun _ z => by cases z), up _ _ q2 (fun _ z => by cases z)⟩
            rw [filter_succ hr2, if_pos (decide_eq_true hin)]
            refine Paired.snoc (Paired.mapP pr4 fun b' r' q => upR _ _ (q.same (Same.one hc))) (upR _ _ (rule_copy ra4 ra1 hc))
        · rw [decide_eq_false hin]
          refine iteF ⟨bs, s4, e4, by omega, ?_⟩
          rw [filter_succ hr2, if_neg (by rw [decide_eq_false hin]; exact Bool.false_ne_true), List.append_nil]
          exact pr4
      · rintro H4 ⟨bs, s4, e4, _, pr4⟩
        rw [lenR, List.take_length] at pr4
        have hD0 := sm.free hD
        exact k H4 D (fun x => decide (x ∈ F)) (sm.trans s4) hD0 (fun x => by rw [decide_eq_true_eq]; exact hFm' x) ⟨bs, e4, pr4⟩
end
end Q3

set_option Elab.async false
set_option linter.all false
set_option maxRecDepth 100000
set_option maxHeartbeats 4000000
/-! a build in the heap; content, _made -/
namespace Q3
open PySem PySem.Spec PyProof.Rows L2
structure BA where
  ord : Addr
  pl : Addr
  giv : Addr
  don : Addr
def bF (A : BA) (fuel n : Int) : List (Str × V) := [("_order", V.ref A.ord), ("_fuel", V.int fuel), ("_plan", V.ref A.pl), ("_given", V.ref A.giv), ("_done", V.ref A.don), ("steps", V.int n)]
section
variable (A : BA) (fuel n z : Int)
theorem bk_order : (bF A fuel n).lookup ("_order" : Str) = some (V.ref A.ord) := by kernel_rfl
theorem bk_fuel : (bF A fuel n).lookup ("_fuel" : Str) = some (V.int fuel) := by kernel_rfl
theorem bk_plan : (bF A fuel n).lookup ("_plan" : Str) = some (V.ref A.pl) := by kernel_rfl
theorem bk_given : (bF A fuel n).lookup ("_given" : Str) = some (V.ref A.giv) := by kernel_rfl
theorem bk_done : (bF A fuel n).lookup ("_done" : Str) = some (V.ref A.don) := by kernel_rfl
theorem bk_steps : (bF A fuel n).lookup ("steps" : Str) = some (V.int n) := by kernel_rfl
theorem bk_content : (bF A fuel n).lookup ("content" : Str) = none := by kernel_rfl
theorem bk_made : (bF A fuel n).lookup ("_made" : Str) = none := by kernel_rfl
theorem bk_advance : (bF A fuel n).lookup ("advance" : Str) = none := by kernel_rfl
theorem bk_finish : (bF A fuel n).lookup ("finish" : Str) = none := by kernel_rfl
theorem bk_failed : (bF A fuel n).lookup ("failed" : Str) = none := by kernel_rfl
theorem bp_steps : putF "steps" (.int z) (bF A fuel n) = bF A fuel z := by kernel_rfl
end
structure TB (K : PySem.W.Frag) (C : Addr) : Prop where
  cl : Cls K C
  order : NoAttr K C "_order"
  fuel : NoAttr K C "_fuel"
  plan : NoAttr K C "_plan"
  given : NoAttr K C "_given"
  done : NoAttr K C "_done"
  steps : NoAttr K C "steps"
/-- an entry of the given items -/
def GEnt (H : Hp) (q : Str × List Int) (kv : Key × V) : Prop := kv.1 = Sum.inr q.1 ∧ ∃ a, kv.2 = .ref a ∧ H a = some (iL q.2)
/-- an entry of what was built -/
def DEnt (H : Hp) (φ : Val) (t : Str) (kv : Key × V) : Prop := kv.1 = Sum.inr t ∧ ((φ t = none ∧ kv.2 = .non) ∨ ∃ a l, φ t = some l ∧ kv.2 = .ref a ∧ H a = some (iL l))
theorem GEnt.to {H H' : Hp} {q : Str × List Int} {kv : Key × V} (h : GEnt H q kv) (k : ∀ b o, H b = some o → (∀ C dx fs, o ≠ .ins C dx fs) → (∀ kvs, o ≠ .dK kvs) → H' b = some o) : GEnt H' q kv := by
  obtain ⟨h1, a, h2, h3⟩ := h
  exact ⟨h1, a, h2, k _ _ h3 (fun _ _ _ z => by cases z) (fun _ z => by cases z)⟩
theorem DEnt.to {H H' : Hp} {φ : Val} {t : Str} {kv : Key × V} (h : DEnt H φ t kv) (k : ∀ b o, H b = some o → (∀ C dx fs, o ≠ .ins C dx fs) → (∀ kvs, o ≠ .dK kvs) → H' b = some o) : DEnt H' φ t kv := by
  obtain ⟨h1, h2⟩ := h
  refine ⟨h1, h2.imp id fun ⟨a, l, q1, q2, q3⟩ => ⟨a, l, q1, q2, k _ _ q3 (fun _ _ _ z => by cases z) (fun _ z => by cases z)⟩⟩
/-- what a build is about -/
structure BE where
  R : List Rl
  G : List (Str × List Int)
  rk : Str → Nat
  fuel : Nat
  φ : Val
  ord : List Str
def BE.gs (B : BE) : List Str := B.G.map (·.1)
structure BE.Ok (B : BE) : Prop where
  ok : PlanOk B.R B.gs B.rk
  sol : Sol B.R B.G B.fuel B.φ
  O : OrdOk B.R B.gs B.ord
  full : B.ord.length = B.R.length
  ndg : B.gs.Nodup
  fl : B.fuel ≤ 1000
structure BdAt (C : Addr) (H : Hp) (b : Addr) (A : BA) (B : BE) (k : Nat) : Prop where
  ob : ∃ dx n, H b = some (.ins C dx (bF A B.fuel n))
  ord : H A.ord = some (.lst (B.ord.map V.str))
  pl : PlanAt H A.pl B.R
  giv : ∃ kvs, H A.giv = some (.dK kvs) ∧ Paired (GEnt H) B.G kvs
  don : ∃ kvs, H A.don = some (.dK kvs) ∧ Paired (DEnt H B.φ) (B.ord.take k) kvs
  ne : A.giv ≠ A.don
  hk : k ≤ B.ord.length
section
variable {C : Addr} {H H' : Hp} {b : Addr} {A : BA} {B : BE} {k : Nat}
theorem BdAt.obE (h : BdAt C H b A B k) : H b = some (.ins C h.ob.choose (bF A B.fuel h.ob.choose_spec.choose)) := h.ob.choose_spec.choose_spec
/-- all but the build's own counter and table of what was built is as it was -/
def FrB (b : Addr) (A : BA) (H H' : Hp) : Prop := ∀ c o, H c = some o → c ≠ b → c ≠ A.don → H' c = some o
theorem FrB.refl (H : Hp) : FrB b A H H := fun _ _ e _ _ => e
theorem FrB.trans {H1 H2 : Hp} (x : FrB b A H H1) (y : FrB b A H1 H2) : FrB b A H H2 := fun c o e h1 h2 => y c o (x c o e h1 h2) h1 h2
theorem FrB.same (s : Same H H') : FrB b A H H' := fun c o e _ _ => s c o e
theorem BdAt.to (h : BdAt C H b A B k) (s : ∀ c o, H c = some o → H' c = some o) : BdAt C H' b A B k := by
  obtain ⟨dx, n, e⟩ := h.ob
  obtain ⟨kg, g1, g2⟩ := h.giv
  obtain ⟨kd, d1, d2⟩ := h.don
  exact ⟨⟨dx, n, s _ _ e⟩, s _ _ h.ord, h.pl.same s, ⟨kg, s _ _ g1, Paired.mapP g2 fun _ _ q => q.to fun _ _ e _ _ => s _ _ e⟩, ⟨kd, s _ _ d1, Paired.mapP d2 fun _ _ q => q.to fun _ _ e _ _ => s _ _ e⟩, h.ne, h.hk⟩
theorem PlanAt.to {p : Addr} {R : List Rl} (h : PlanAt H p R) (k : ∀ b o, H b = some o → (∀ C dx fs, o ≠ .ins C dx fs) → (∀ kvs, o ≠ .dK kvs) → H' b = some o) : PlanAt H' p R := by
  obtain ⟨as, h1, h2⟩ := h
  exact ⟨as, k _ _ h1 (fun _ _ _ z => by cases z) (fun _ z => by cases z), Paired.mapP h2 fun _ _ ⟨c, q1, q2⟩ => ⟨c, k _ _ q1 (fun _ _ _ z => by cases z) (fun _ z => by cases z), k _ _ q2 (fun _ _ _ z => by cases z) (fun _ z => by cases z)⟩⟩
theorem BdAt.putSteps (h : BdAt C H b A B k) (v : Int) : BdAt C (upd H b (.ins C h.ob.choose (putF "steps" (.int v) (bF A B.fuel h.ob.choose_spec.choose)))) b A B k := by
  have e := h.obE
  obtain ⟨kg, g1, g2⟩ := h.giv
  obtain ⟨kd, d1, d2⟩ := h.don
  have go : ∀ c o, H c = some o → (∀ C dx fs, o ≠ .ins C dx fs) → upd H b (.ins C h.ob.choose (putF "steps" (.int v) (bF A B.fuel h.ob.choose_spec.choose))) c = some o := set_keep e
  exact ⟨⟨_, v, by rw [upd_same, bp_steps]⟩, go _ _ h.ord (fun _ _ _ z => by cases z), h.pl.to fun c o q q1 _ => go c o q q1, ⟨kg, go _ _ g1 (fun _ _ _ z => by cases z), Paired.mapP g2 fun _ _ q => q.to fun c o e q1 _ => go c o e q1⟩,
    ⟨kd, go _ _ d1 (fun _ _ _ z => by cases z), Paired.mapP d2 fun _ _ q => q.to fun c o e q1 _ => go c o e q1⟩, h.ne, h.hk⟩
theorem FrB.steps {u : HO} : FrB b A H (upd H b u) := fun c o e h1 _ => by rw [upd_ne h1]; exact e
end
/-- what a name has so far -/
def curV (B : BE) (k : Nat) (n : Str) : Option (List Int) := if n ∈ B.gs ∨ n ∈ B.ord.take k then B.φ n else none
theorem paired_mem {α β : Type} {F : α → β → Prop} {l : List α} {m : List β} (h : Paired F l m) {a : α} (ha : a ∈ l) : ∃ b ∈ m, F a b := by
  induction h with
  | nil => cases ha
  | cons f _ ih =>
    rcases List.mem_cons.mp ha with e | e
    · exact ⟨_, List.mem_cons_self .., e ▸ f⟩
    · obtain ⟨c, h1, h2⟩ := ih e
      exact ⟨c, List.mem_cons_of_mem _ h1, h2⟩
theorem paired_keys {α : Type} {F : α → Key × V → Prop} {key : α → Str} (hF : ∀ a kv, F a kv → kv.1 = Sum.inr (key a)) {l : List α} {m : List (Key × V)} (h : Paired F l m) : m.map (·.1) = (l.map key).map (Sum.inr : Str → Key) := by
  induction h with
  | nil => rfl
  | cons f _ ih => rw [List.map_cons, List.map_cons, List.map_cons, ih, hF _ _ f]
theorem valV_mem {kvs : List (Key × V)} (nd : (kvs.map (·.1)).Nodup) {kv : Key × V} (h : kv ∈ kvs) : valV kvs kv.1 = some kv.2 := val_nodup nd kv h
theorem nodup_inr {l : List Str} (h : l.Nodup) : (l.map (Sum.inr : Str → Key)).Nodup := by
  unfold List.Nodup at h ⊢
  rw [List.pairwise_map]
  exact h.imp fun q z => q (Sum.inr.inj z)
section
variable {C : Addr} {H : Hp} {b : Addr} {A : BA} {B : BE} {k : Nat}
theorem BdAt.given (h : BdAt C H b A B k) (ok : B.Ok) {n : Str} : ∃ o, DGet H A.giv (.str n) o ∧ ((n ∉ B.gs ∧ o = none) ∨ (n ∈ B.gs ∧ ∃ a l, o = some (.ref a) ∧ B.φ n = some l ∧ H a = some (iL l))) := by
  obtain ⟨kvs, g1, g2⟩ := h.giv
  have hk : kvs.map (·.1) = B.gs.map (Sum.inr : Str → Key) := paired_keys (key := fun q : Str × List Int => q.1) (fun a kv f => f.1) g2
  refine ⟨_, DGet.k (k := Sum.inr n) g1, ?_⟩
  by_cases e : n ∈ B.gs
  · right
    refine ⟨e, ?_⟩
    obtain ⟨q, hq, rfl⟩ := List.mem_map.mp e
    obtain ⟨kv, m1, m2, a, m3, m4⟩ := paired_mem g2 hq
    have := valV_mem (by rw [hk]; exact nodup_inr ok.ndg) m1
    rw [m2, m3] at this
    exact ⟨a, q.2, this, ok.sol.g _ _ hq, m4⟩
  · left
    refine ⟨e, ?_⟩
    have := val_names hk n
    rw [decide_eq_false e] at this
    cases q : valV kvs (Sum.inr n : Key) with
    | none => rfl
    | some v => rw [q] at this; cases this
theorem BdAt.done (h : BdAt C H b A B k) (ok : B.Ok) {n : Str} : ∃ o, DGet H A.don (.str n) o ∧ IsD H A.don ∧ ((n ∉ B.ord.take k ∧ o = none) ∨ (n ∈ B.ord.take k ∧ ((B.φ n = none ∧ o = some .non) ∨ ∃ a l, o = some (.ref a) ∧ B.φ n = some l ∧ H a = some (iL l)))) := by
  obtain ⟨kvs, g1, g2⟩ := h.don
  have hk : kvs.map (·.1) = (B.ord.take k).map (Sum.inr : Str → Key) := by
    have := paired_keys (key := fun q => q) (fun a kv f => f.1) g2
    rwa [List.map_id'] at this
  refine ⟨_, DGet.k (k := Sum.inr n) g1, .inl ⟨kvs, .inl g1⟩, ?_⟩
  by_cases e : n ∈ B.ord.take k
  · right
    refine ⟨e, ?_⟩
    obtain ⟨kv, m1, m2, m3⟩ := paired_mem g2 e
    have := valV_mem (by rw [hk]; exact nodup_inr (ok.O.nd.sublist (List.take_sublist _ _))) m1
    rw [m2] at this
    rcases m3 with ⟨q1, q2⟩ | ⟨a, l, q1, q2, q3⟩
    · rw [q2] at this
      exact .inl ⟨q1, this⟩
    · rw [q2] at this
      exact .inr ⟨a, l, this, q1, q3⟩
  · left
    refine ⟨e, ?_⟩
    have := val_names hk n
    rw [decide_eq_false e] at this
    cases q : valV kvs (Sum.inr n : Key) with
    | none => rfl
    | some v => rw [q] at this; cases this
end
theorem inV_str (n : Str) (l : List Str) : inV (.str n) (l.map V.str) = decide (n ∈ l) := by
  unfold inV
  rw [List.any_map, Bool.eq_iff_iff, List.any_eq_true, decide_eq_true_eq]
  constructor
  · rintro ⟨x, hx, e⟩
    have : (x == n) = true := e
    rw [← eq_of_beq this]
    exact hx
  · intro h
    exact ⟨n, h, by show (n == n) = true; exact beq_self_eq_true n⟩
theorem flat_strs (l : List Str) : (l.map V.str).all flatV = true := by
  rw [List.all_map, List.all_eq_true]
  intro x _
  rfl
/-- a new list or None -/
def CV (H H' : Hp) (o : Option (List Int)) (v : V) : Prop := (o = none ∧ v = .non) ∨ ∃ a l, o = some l ∧ v = .ref a ∧ H a = none ∧ H' a = some (iL l)
def spContent (C : Addr) : Sp := fun vs H Q _ => ∃ b A B k n, vs = [.ref b, .str n] ∧ BdAt C H b A B k ∧ B.Ok ∧ (n ∈ B.gs ∨ n ∈ B.ord) ∧ ∀ H' v, Same H H' → CV H H' (curV B k n) v → Q v H'
def spMade (C : Addr) : Sp := fun vs H Q _ => ∃ b A B k s, ∃ r : Rl, vs = [.ref b, .str r.tool, .ref s] ∧ BdAt C H b A B k ∧ B.Ok ∧ H s = some (.tup (r.src.map V.str)) ∧ r.src.length ≤ 3 ∧ (∀ p ∈ r.parts, p ∈ B.gs ∨ p ∈ B.ord.take k) ∧
  ∀ H' v, BdAt C H' b A B k → FrB b A H H' → H' A.don = H A.don → CV H H' (madeF B.fuel B.φ r) v → Q v H'
section
variable {P : Program} {w : World} {K : PySem.W.Frag} {mg : Str → Option Value} {base : Heap} {f C : Addr} {fd : FuncData}
theorem ok_content (F : Fun K "content" "Build.content" sBuContent f fd) (T : TB K C) (ml : mg "list" = none) : FnOk P w K mg base CX0 1 f fd ["self", "name"] (spContent C) := by
  refine F.ok scBuContent (fun vs H Q E h => ?_) (fun cdv A outer s H vs Q E hr h => ?_)
  · obtain ⟨b, A, B, k, n, rfl, _⟩ := h
    rfl
  · obtain ⟨b, A', B, k, n, rfl, h, ok, hn, q⟩ := h
    have q0 : curV B k n = none → Q .non H := fun e => q H .non (Same.refl H) (.inl ⟨e, rfl⟩)
    have q1 : ∀ H' a l, curV B k n = some l → Same H H' → H a = none → H' a = some (iL l) → Q (.ref a) H' := fun H' a l e s n1 n2 => q H' _ s (.inr ⟨a, l, e, rfl, n1, n2⟩)
    have hu := hu_of hr
    have nd := scBuContent.nd
    refine ⟨_, pss_cons (ps_if (pt_cmp (pc_din hu (pv 1) (pe_fld (pv 0) rfl))) (pss_one (ps_ret (pe_callTy call_list_of (by rfl) ml (by decide +kernel) (pa_cons (pe_dget hu (pe_fld (pv 0) rfl) (pv 1) (fun _ _ => rfl)) pa_nil)))) pss_nil)
      (pss_cons (ps_if (pt_cmpR op_notIn_seq (pv 1) (pe_fld (pv 0) rfl) (by rfl)) (pss_one ps_never) pss_nil)
      (pss_cons (ps_set (i := 2) nd rfl (.inl rfl) (pe_dget1 hu (pe_fld (pv 0) rfl) (pv 1) ⟨rfl, rfl, rfl, rfl⟩))
      (pss_cons (ps_if (pt_cmpR op_isN (pv 2) pe_non (nomark _)) (pss_one (ps_ret pe_non)) pss_nil)
      (pss_one (ps_ret (pe_callTy call_list_of (by rfl) ml (by decide +kernel) (pa_cons (pv 2) pa_nil))))))), ?_⟩
    obtain ⟨o, g1, g2⟩ := h.given ok (n := n)
    refine ⟨_, rfl, _, rfl, _, _, _, _, _, rfl, h.obE, T.cl, T.given, bk_given .., _, o, rfl, g1, _, rfl, ?_⟩
    rcases g2 with ⟨hng, rfl⟩ | ⟨hg, a, l, rfl, e1, e2⟩
    · refine iteF ?_
      have ho := hn.resolve_left hng
      refine ⟨_, rfl, _, rfl, _, _, _, _, _, rfl, h.obE, T.cl, T.order, bk_order .., _, _, rfl, .inl (SqL.of h.ord), rfl, flat_strs _, _, rfl, ?_⟩
      show if (!inV (V.str n) (B.ord.map V.str)) = true then _ else _
      rw [inV_str, decide_eq_true ho]
      refine iteF ?_
      obtain ⟨o, d1, d2, d3⟩ := h.done ok (n := n)
      refine ⟨_, rfl, _, _, _, _, _, rfl, h.obE, T.cl, T.done, bk_done .., _, rfl, d2, _, rfl, o, d1, ?_⟩
      rcases d3 with ⟨hno, rfl⟩ | ⟨hin, ⟨e1, rfl⟩ | ⟨a, l, rfl, e1, e2⟩⟩
      · refine ⟨_, rfl, rfl, _, rfl, iteT (q0 ?_)⟩
        unfold curV
        rw [if_neg]
        rintro (z | z)
        · exact hng z
        · exact hno z
      · refine ⟨_, rfl, rfl, _, rfl, iteT (q0 ?_)⟩
        unfold curV
        rw [if_pos (.inr hin)]
        exact e1
      · refine ⟨_, rfl, rfl, _, rfl, iteF ⟨_, rfl, _, _, rfl, .inl (SqL.of e2), fun c hc => q1 _ c l ?_ (Same.one hc) hc upd_same⟩⟩
        unfold curV
        rw [if_pos (.inr hin)]
        exact e1
    · refine iteT ⟨_, rfl, _, _, _, _, _, rfl, h.obE, T.cl, T.given, bk_given .., _, rfl, _, _, rfl, g1, _, _, rfl, .inl (SqL.of e2), fun c hc => q1 _ c l ?_ (Same.one hc) hc upd_same⟩
      unfold curV
      rw [if_pos (.inl hg)]
      exact e1
end
end Q3

set_option Elab.async false
set_option linter.all false
set_option maxRecDepth 100000
set_option maxHeartbeats 4000000
/-! Build._made -/
namespace Q3
open PySem PySem.Spec PyProof.Rows L2
/-- a def with keywords, by its name; a method -/
structure FOkK (P : Program) (w : World) (K : PySem.W.Frag) (mg : Str → Option Value) (base : Heap) (x : Str) (k : Nat) (ps ks : List Str) (n : Nat) (sp : Sp) : Prop where
  ex : ∃ f fd, mg x = some (.ref f) ∧ FnOk P w K mg base CX0 k f fd ps sp ∧ PySem.W.keepIn K (.ref f) = true ∧ KBn K fd ps n ks (fun us ws => us ++ ws) (fun vs zs => vs ++ zs)
structure MOk (P : Program) (w : World) (K : PySem.W.Frag) (mg : Str → Option Value) (base : Heap) (C : Addr) (m : Str) (k : Nat) (ps : List Str) (sp : Sp) : Prop where
  ex : ∃ f fd, Meth K C m f ∧ FnOk P w K mg base CX0 k f fd ps sp ∧ Binds K fd ps []
section
variable {X : Cx} {x m : Str} {k n : Nat} {C : Addr} {ps ks : List Str} {sp : Sp} {p pos apos : Pos} {e o : Expr} {es : List Expr} {kws : List Keyword} {ta : TE} {t tk : TA}
theorem pe_callFK (G : FOkK X.prog X.w X.K X.mg X.base x k ps ks n sp) (hr : Room k X.A) (hg : Gl X x) (ha : PA X (e :: es) t) (hkw : PK X kws tk)
    (hall : (backToKw pos (keywordEach kws X.env)).all (·.1.isSome) = true := by rfl) (hks : (backToKw pos (keywordEach kws X.env)).filterMap (·.1) = ks := by rfl)
    (hdb : (x == ("__debug__" : Str)) = false := by decide) (he : starEach (e :: es) X.env = (false, eval e X.env) :: starEach es X.env := by rfl)
    (hpl : ((backTo pos (starEach (e :: es) X.env)).any (·.1) || (backToKw pos (keywordEach kws X.env)).any (·.1.isNone)) = false := by rfl) :
    PE X (.Call (.Name x p) (e :: es) kws pos) (tCallN n ks.length sp (fun vs zs => vs ++ zs) E0 t tk) := by
  obtain ⟨f, fd, mm, F, hk, hb⟩ := G.ex
  exact pe_callN F hr hg mm hk hb pass0 ha hkw hall hks hdb he hpl
theorem pe_methF {pl : Sem Bool} (G : MOk X.prog X.w X.K X.mg X.base C m k ps sp) (c : Cls X.K C) (hr : Room k X.A) (he : PE X o ta) (ha : PA X (e :: es) t)
    (hst : starEach (e :: es) X.env = (false, eval e X.env) :: starEach es X.env := by rfl) (hpl : (backTo pos (starEach es X.env)).any (·.1) = false := by rfl)
    (ht : eval (.Call (.Attribute o m apos) (e :: es) [] pos) X.env = (do
      let ov ← eval o X.env
      standAt apos.atName
      let (f, first) ← holding [ov] (getMethod ov m pl)
      callWith pos f first (backTo pos (starEach (e :: es) X.env)) (backToKw pos (keywordEach [] X.env))) := by rfl) :
    PE X (.Call (.Attribute o m apos) (e :: es) [] pos) (tMeth C m sp [] E0 ta t) := by
  obtain ⟨f, fd, mm, F, hb⟩ := G.ex
  exact pe_meth he c mm F hr hb .nil pass0 ha hst hpl ht
theorem pe_methF0 {pl : Sem Bool} (G : MOk X.prog X.w X.K X.mg X.base C m k ps sp) (c : Cls X.K C) (hr : Room k X.A) (he : PE X o ta)
    (ht : eval (.Call (.Attribute o m apos) [] [] pos) X.env = (do
      let ov ← eval o X.env
      standAt apos.atName
      let (f, first) ← holding [ov] (getMethod ov m pl)
      callWith pos f first (backTo pos (starEach [] X.env)) (backToKw pos (keywordEach [] X.env))) := by rfl) :
    PE X (.Call (.Attribute o m apos) [] [] pos) (tMeth C m sp [] E0 ta tNil) := by
  obtain ⟨f, fd, mm, F, hb⟩ := G.ex
  exact pe_meth0 he c mm F hr hb .nil pass0 ht
end
theorem catF_snoc {φ : Val} {n : Str} {a b : List Int} : ∀ {l : List Str}, catF φ l = some a → φ n = some b → ∀ {l' : List Str}, l' = l ++ [n] → catF φ l' = some (a ++ b)
  | [], h1, h2, _, rfl => by
    cases h1
    show (match φ n with | none => none | some l => (catF φ []).map (l ++ ·)) = _
    rw [h2]
    simp [catF]
  | m :: r, h1, h2, _, rfl => by
    unfold catF at h1
    cases e : φ m with
    | none => rw [e] at h1; cases h1
    | some l =>
      rw [e] at h1
      obtain ⟨c, hc, rfl⟩ := Option.map_eq_some_iff.mp h1
      have := catF_snoc hc h2 rfl
      show (match φ m with | none => none | some l => (catF φ (r ++ [n])).map (l ++ ·)) = _
      rw [e, this]
      simp
theorem catF_none {φ : Val} {n : Str} (h : φ n = none) : ∀ {l : List Str}, n ∈ l → catF φ l = none
  | m :: r, hm => by
    unfold catF
    cases e : φ m with
    | none => rfl
    | some l =>
      have : n ∈ r := by
        rcases List.mem_cons.mp hm with z | z
        · rw [z, e] at h; cases h
        · exact z
      rw [catF_none h this]
      rfl
section
variable {P : Program} {w : World} {K : PySem.W.Frag} {mg : Str → Option Value} {base : Heap} {f C : Addr} {fd : FuncData}
theorem ok_made (F : Fun K "_made" "Build._made" sBuMade f fd) (T : TB K C) (GC : MOk P w K mg base C "content" 1 ["self", "name"] (spContent C)) (GR : FOkK P w K mg base "run" 5 ["image", "numbers", "fuel"] ["fuel"] 2 (spRun K)) :
    FnOk P w K mg base CX0 6 f fd ["self", "tool", "sources"] (spMade C) := by
  refine F.ok scBuMade (fun vs H Q E h => ?_) (fun cdv A outer s H vs Q E hr h => ?_)
  · obtain ⟨b, A, B, k, s, r, rfl, _⟩ := h
    rfl
  · obtain ⟨b, A', B, k, sa, r, rfl, h, ok, es, hsl, hp, q⟩ := h
    have hu := hu_of hr
    have hr1 : Room 1 _ := hr.mono (by decide)
    have nd := scBuMade.nd
    refine ⟨_, pss_cons (ps_set (i := 3) nd rfl (.inl rfl) (pe_methF GC T.cl hr1 (pv 0) (pa_cons (pv 1) pa_nil)))
      (pss_cons (ps_set (i := 4) nd rfl (.inl rfl) (pe_lst pa_nil))
      (pss_cons (ps_for PassesOwn.never rfl (pi_tup (pv 2)) (pg_name (i := 5) nd rfl (.inl rfl))
        (pss_cons (ps_set (i := 6) nd rfl (.inl rfl) (pe_methF GC T.cl hr1 (pv 0) (pa_cons (pv 5) pa_nil)))
        (pss_cons (ps_if (pt_cmpR op_isN (pv 6) pe_non (nomark _)) (pss_one (ps_ret pe_non)) pss_nil)
        (pss_one (ps_expr (pe_bm PySem.F.plainAttrs_list PySem.F.slot_list_extend PySem.F.type_list_extend mt_extend (pv 4) (pa_cons (pv 6) pa_nil)))))))
      (pss_cons (ps_if (pt_cmpR op_isN (pv 3) pe_non (nomark _)) (pss_one (ps_ret pe_non)) pss_nil)
      (pss_cons (ps_asg (pe_callFK GR hr (by rfl) (pa_cons (pv 3) (pa_cons (pv 4) pa_nil)) (pk_cons (pe_fld (pv 0) rfl) pk_nil)) (pg_tup rfl (pgs_cons (pg_name (i := 7) nd rfl (.inl rfl)) (pgs_cons (pg_name (i := 8) nd rfl (.inl rfl)) (pgs_cons (pg_name (i := 9) nd rfl (.inl rfl)) pgs_nil)))))
      (pss_cons (ps_fldaug (pv 0) (pv 9) in_add)
      (pss_cons (ps_if (pt_val (pv 7)) (pss_one (ps_ret (pv 8))) pss_nil)
      (pss_one (ps_ret pe_non)))))))), ?_⟩
    have cur : ∀ p ∈ r.parts, curV B k p = B.φ p := fun p hpp => by
      unfold curV
      rw [if_pos (hp p hpp)]
    have kn : ∀ p ∈ r.parts, p ∈ B.gs ∨ p ∈ B.ord := fun p hpp => (hp p hpp).imp id fun z => List.take_subset _ _ z
    refine ⟨_, rfl, _, _, _, rfl, h.obE, bk_content .., _, rfl, b, A', B, k, r.tool, rfl, h, ok, kn _ (List.mem_cons_self ..), fun H1 x3 s1 cv3 => ?_⟩
    rw [cur _ (List.mem_cons_self ..)] at cv3
    refine ⟨Nat.zero_le _, fun nl hnl => ?_⟩
    have hnl0 := s1.free hnl
    have s2 : Same H1 (upd H1 nl (.lst [])) := Same.one hnl
    refine ⟨_, rfl, sa, rfl, ⟨_, SqT.of (s2 _ _ (s1 _ _ es))⟩, for_tup (K := K) (a := sa) (xs := r.src.map V.str) (fun i σ H2 => ∃ num x5 x6, σ = [some (.ref b), some (.str r.tool), some (.ref sa), some x3, some (.ref nl), x5, x6, none, none, none] ∧ Same H1 H2 ∧ H2 nl = some (iL num) ∧ catF B.φ (r.src.take i) = some num) ?_ ?_ ?_ ?_⟩
    · exact ⟨[], none, none, rfl, s2, upd_same, rfl⟩
    · rintro i σ H2 _ ⟨num, x5, x6, _, sm, _⟩
      exact SqT.of (sm _ _ (s1 _ _ es))
    · rintro i x σ H2 hx ⟨num, x5, x6, rfl, sm, en, ec⟩
      rw [List.getElem?_map] at hx
      obtain ⟨n, hn, rfl⟩ := Option.map_eq_some_iff.mp hx
      have hmn : n ∈ r.src := List.mem_of_getElem? hn
      have hmp : n ∈ r.parts := List.mem_cons_of_mem _ hmn
      have h2 := h.to (s1.trans sm)
      refine ⟨_, rfl, _, _, _, rfl, h2.obE, bk_content .., _, rfl, b, A', B, k, n, rfl, h2, ok, kn _ hmp, fun H3 x6' s3 cv6 => ?_⟩
      rw [cur _ hmp] at cv6
      rcases cv6 with ⟨e6, rfl⟩ | ⟨a6, l6, e6, rfl, n6, f6⟩
      · refine ⟨_, rfl, rfl, _, rfl, iteT (q _ _ (h2.to s3) (FrB.same ((s1.trans sm).trans s3)) ?_ (.inl ⟨?_, rfl⟩))⟩
        · obtain ⟨kd, d1, _⟩ := h.don
          rw [d1, s3 _ _ (sm _ _ (s1 _ _ d1))]
        · unfold madeF
          rw [catF_none e6 hmn]
      · have hln := catF_len ok.sol.z ec
        have hl6 := ok.sol.z _ _ e6
        refine ⟨_, rfl, rfl, _, rfl, iteF ⟨_, rfl, .inl ⟨rfl, _, SqL.of (s3 _ _ en)⟩, _, rfl, nl, a6, _, _, rfl, rfl, s3 _ _ en, f6, ?_, ?_⟩⟩
        · rw [List.length_map, List.length_map, sizeLine_eq]
          have : (r.src.take i).length ≤ 3 := by rw [List.length_take]; omega
          omega
        · refine ⟨num ++ l6, _, _, rfl, fun c o hc => ?_, ?_, ?_⟩
          · rw [upd_ne (ne_of_none hc hnl)]; exact s3 _ _ (sm _ _ hc)
          · rw [upd_same]
            show some (HO.lst (List.map V.int num ++ List.map V.int l6)) = some (.lst ((num ++ l6).map V.int))
            rw [List.map_append]
          · exact catF_snoc ec e6 (by rw [List.take_add_one, hn]; rfl)
    · rintro σ H2 ⟨num, x5, x6, rfl, sm, en, ec⟩
      rw [List.length_map, List.take_length] at ec
      have hln := catF_len ok.sol.z ec
      have s12 := s1.trans sm
      have h2 := h.to s12
      obtain ⟨kd, d1, _⟩ := id h.don
      rcases cv3 with ⟨e3, rfl⟩ | ⟨a3, l3, e3, rfl, n3, f3⟩
      · refine ⟨_, rfl, rfl, _, rfl, iteT (q _ _ h2 (FrB.same s12) (by rw [d1, s12 _ _ d1]) (.inl ⟨?_, rfl⟩))⟩
        unfold madeF
        rw [ec, e3]
      · have hl3 := ok.sol.z _ _ e3
        refine ⟨_, rfl, rfl, _, rfl, iteF ⟨_, rfl, _, rfl, _, rfl, _, _, _, _, _, rfl, h2.obE, T.cl, T.fuel, bk_fuel .., rfl, rfl, a3, nl, l3, num, B.fuel, rfl, sm _ _ f3, en, by omega, by omega, ok.fl, fun H3 t o s3 nt no et eo => ?_⟩⟩
        have h3 := h2.to s3
        refine ⟨t, _, rfl, SqT.of et, rfl, _, _, rfl, _, _, rfl, _, _, rfl, rfl, ?_⟩
        refine ⟨_, rfl, _, _, _, _, _, rfl, h3.obE, T.cl, T.steps, bk_steps .., _, rfl, _, _, rfl, rfl, _, _, h3.obE, (by show 6 < 1000; decide), ?_⟩
        have h4 := h3.putSteps (h3.ob.choose_spec.choose + ((runF l3 num B.fuel).steps : Nat))
        have e4 := h3.obE
        obtain ⟨kd3, d3, _⟩ := id h3.don
        have s13 := s12.trans s3
        have em : madeF B.fuel B.φ r = if (runF l3 num B.fuel).ended then some (runF l3 num B.fuel).out else none := by
          unfold madeF
          rw [ec, e3]
        have dd : (upd H3 b (.ins C h3.ob.choose (putF "steps" (.int (h3.ob.choose_spec.choose + ((runF l3 num B.fuel).steps : Nat))) (bF A' B.fuel h3.ob.choose_spec.choose)))) A'.don = H A'.don := by
          rw [upd_ne (ne_of d3 e4 (by intro z; cases z)), d1, s13 _ _ d1]
        refine ⟨_, rfl, _, rfl, ?_⟩
        cases he : (runF l3 num B.fuel).ended with
        | true =>
          rw [he, if_pos rfl] at em
          refine iteT ⟨_, rfl, q _ _ h4 ((FrB.same s13).trans FrB.steps) dd (.inr ⟨o, _, em, rfl, s12.free no, ?_⟩)⟩
          exact upd_kind eo e4 (by intro z; cases z)
        | false =>
          rw [he, if_neg Bool.false_ne_true] at em
          exact iteF (q _ _ h4 ((FrB.same s13).trans FrB.steps) dd (.inl ⟨em, rfl⟩))
end
end Q3

set_option Elab.async false
set_option linter.all false
set_option maxRecDepth 100000
set_option maxHeartbeats 4000000
/-! Build.advance, finish, failed -/
namespace Q3
open PySem PySem.Spec PyProof.Rows L2
section
variable {C : Addr} {H H' : Hp} {b : Addr} {A : BA} {B : BE} {k : Nat}
theorem BdAt.donLen (h : BdAt C H b A B k) : ∃ kvs, H A.don = some (.dK kvs) ∧ kvs.length = k ∧ Paired (DEnt H B.φ) (B.ord.take k) kvs := by
  obtain ⟨kvs, d1, d2⟩ := h.don
  refine ⟨kvs, d1, ?_, d2⟩
  have := paired_len d2
  rw [List.length_take] at this
  have := h.hk
  omega
theorem BdAt.putDone (h : BdAt C H b A B k) (ok : B.Ok) {t : Str} (ht : B.ord[k]? = some t) {kvs : List (Key × V)} (e : H A.don = some (.dK kvs)) {v : V} (hv : (B.φ t = none ∧ v = .non) ∨ ∃ a l, B.φ t = some l ∧ v = .ref a ∧ H a = some (iL l)) :
    BdAt C (upd H A.don (.dK (putK kvs (Sum.inr t) v))) b A B (k + 1) := by
  obtain ⟨dx, n, e1⟩ := h.ob
  obtain ⟨kg, g1, g2⟩ := h.giv
  obtain ⟨kd, d1, d2, d3⟩ := h.donLen
  rw [e] at d1
  cases d1
  have hk : kvs.map (·.1) = (B.ord.take k).map (Sum.inr : Str → Key) := by
    have := paired_keys (key := fun q => q) (fun a kv f => f.1) d3
    rwa [List.map_id'] at this
  have hno : t ∉ B.ord.take k := fun z => by
    obtain ⟨j, hj⟩ := List.mem_iff_getElem?.mp z
    rw [List.getElem?_take] at hj
    split at hj
    · have := nd_ix ok.O.nd hj ht
      omega
    · cases hj
  have hnone : valV kvs (Sum.inr t : Key) = none := by
    have := val_names hk t
    rw [decide_eq_false hno] at this
    cases q : valV kvs (Sum.inr t : Key) with
    | none => rfl
    | some v => rw [q] at this; cases this
  have go : ∀ c o, H c = some o → (∀ C dx fs, o ≠ .ins C dx fs) → (∀ kvs, o ≠ .dK kvs) → (upd H A.don (.dK (putK kvs (Sum.inr t) v))) c = some o := fun c o q _ q2 => by
    rw [upd_ne fun z => ?_]
    · exact q
    · rw [z, e] at q
      exact q2 _ (Option.some.inj q).symm
  have hlt := (List.getElem?_eq_some_iff.mp ht).1
  refine ⟨⟨dx, n, by rw [upd_ne (ne_of e1 e (by intro z; cases z))]; exact e1⟩, go _ _ h.ord (fun _ _ _ z => by cases z) (fun _ z => by cases z), h.pl.to go, ⟨kg, by rw [upd_ne h.ne]; exact g1, Paired.mapP g2 fun _ _ q => q.to go⟩, ⟨_, upd_same, ?_⟩, h.ne, hlt⟩
  have key : Paired (DEnt (upd H A.don (.dK (putK kvs (Sum.inr t) v))) B.φ) (B.ord.take k ++ [t]) (kvs ++ [(Sum.inr t, v)]) := Paired.snoc (Paired.mapP d3 fun _ _ q => q.to go) ⟨rfl, hv.imp id fun ⟨a, l, q1, q2, q3⟩ => ⟨a, l, q1, q2, go _ _ q3 (fun _ _ _ z => by cases z) (fun _ z => by cases z)⟩⟩
  have e3 : B.ord.take (k + 1) = B.ord.take k ++ [t] := by rw [List.take_add_one, ht]; rfl
  rw [e3]
  exact Eq.mp (congrArg (fun z => Paired (DEnt (upd H A.don (.dK (putK kvs (Sum.inr t) v))) B.φ) (B.ord.take k ++ [t]) z) (putK_new v hnone).symm) key
theorem FrB.done {u : HO} : FrB b A H (upd H A.don u) := fun c o e _ h2 => by rw [upd_ne h2]; exact e
end
def spBAdv (C : Addr) : Sp := fun vs H Q _ => ∃ b A B k, vs = [.ref b] ∧ BdAt C H b A B k ∧ B.Ok ∧ (k = B.ord.length → Q .non H) ∧ ∀ t H', B.ord[k]? = some t → BdAt C H' b A B (k + 1) → FrB b A H H' → Q (.str t) H'
def spFinish (C : Addr) : Sp := fun vs H Q _ => ∃ b A B, vs = [.ref b] ∧ BdAt C H b A B 0 ∧ B.Ok ∧ ∀ H' n, BdAt C H' b A B B.ord.length → FrB b A H H' → Q (.int n) H'
def spFailed (C : Addr) : Sp := fun vs H Q _ => ∃ b A B, vs = [.ref b] ∧ BdAt C H b A B B.ord.length ∧ B.Ok ∧
  ∀ H' l ys, (∀ c o, H c = some o → c ≠ A.don → H' c = some o) → H l = none → H' l = some (.lst (ys.map V.str)) → ys.Perm (B.ord.filter fun t => (B.φ t).isNone) → sortedS ys = true → Q (.ref l) H'
section
variable {P : Program} {w : World} {K : PySem.W.Frag} {mg : Str → Option Value} {base : Heap} {f C : Addr} {fd : FuncData}
theorem ok_badv (F : Fun K "advance" "Build.advance" sBuAdvance f fd) (T : TB K C) (ml : mg "len" = none) (GM : MOk P w K mg base C "_made" 6 ["self", "tool", "sources"] (spMade C)) :
    FnOk P w K mg base CX0 7 f fd ["self"] (spBAdv C) := by
  refine F.ok scBuAdvance (fun vs H Q E h => ?_) (fun cdv A outer s H vs Q E hr h => ?_)
  · obtain ⟨b, A, B, k, rfl, _⟩ := h
    rfl
  · obtain ⟨b, A', B, k, rfl, h, ok, q0, q1⟩ := h
    have hu := hu_of hr
    have nd := scBuAdvance.nd
    refine ⟨_, pss_cons (ps_if (pt_cmpR op_eq (pe_callB call_lenD (by rfl) ml PySem.boot_len (pa_cons (pe_fld (pv 0) rfl) pa_nil)) (pe_callB call_len_seq (by rfl) ml PySem.boot_len (pa_cons (pe_fld (pv 0) rfl) pa_nil)) (nomark _)) (pss_one (ps_ret pe_non)) pss_nil)
      (pss_cons (ps_set (i := 1) nd rfl (.inl rfl) (pe_ix ix_list (pe_fld (pv 0) rfl) (pe_callB call_lenD (by rfl) ml PySem.boot_len (pa_cons (pe_fld (pv 0) rfl) pa_nil)) (fun _ _ => rfl)))
      (pss_cons (ps_for PassesOwn.never rfl (pi_list (pe_fld (pv 0) rfl)) (pg_tup rfl (pgs_cons (pg_name (i := 2) nd rfl (.inl rfl)) (pgs_cons (pg_name (i := 3) nd rfl (.inl rfl)) (pgs_cons (pg_name (i := 4) nd rfl (.inl rfl)) pgs_nil))))
        (pss_one (ps_if (pt_cmpR op_eq (pv 2) (pv 1) (nomark _)) (pss_one (ps_dput hu (pe_fld (pv 0) rfl) (pv 1) (pe_methF GM T.cl hr (pv 0) (pa_cons (pv 3) (pa_cons (pv 4) pa_nil))) rfl)) pss_nil)))
      (pss_one (ps_ret (pv 1))))), ?_⟩
    obtain ⟨kvs, d1, dl, d3⟩ := h.donLen
    refine ⟨_, rfl, _, _, _, _, _, rfl, h.obE, T.cl, T.done, bk_done .., _, _, rfl, d1, _, rfl, _, _, _, _, _, rfl, h.obE, T.cl, T.order, bk_order .., _, _, rfl, .inl (SqL.of h.ord), rfl, _, rfl, ?_⟩
    rw [List.length_map, dl, dec_vint]
    by_cases ek : k = B.ord.length
    · rw [decide_eq_true (by omega)]
      exact iteT (q0 ek)
    · have hk := h.hk
      rw [decide_eq_false (by omega)]
      obtain ⟨t, ht⟩ : ∃ t, B.ord[k]? = some t := ⟨B.ord[k]'(by omega), List.getElem?_eq_getElem (by omega)⟩
      refine iteF ⟨_, rfl, _, _, _, _, _, rfl, h.obE, T.cl, T.order, bk_order .., _, rfl, _, _, _, _, _, rfl, h.obE, T.cl, T.done, bk_done .., _, _, rfl, d1, _, _, _, _, rfl, rfl, SqL.of h.ord, at_of (j := k) (v := .str t) (by rw [dl]) (by rw [List.getElem?_map, ht]; rfl), ?_⟩
      obtain ⟨as, e1, pr⟩ := id h.pl
      have lenR : (as.map V.ref).length = B.R.length := by rw [List.length_map, paired_len pr]
      have hb := h.obE
      have stay : ∀ {H2 : Hp}, FrB b A' H H2 → ∀ c o, H c = some o → (∀ C dx fs, o ≠ .ins C dx fs) → (∀ kvs, o ≠ .dK kvs) → H2 c = some o := fun {H2} fr c o e n1 n2 => fr c o e (fun z => by rw [z, hb] at e; exact n1 _ _ _ (Option.some.inj e).symm) (fun z => by rw [z, d1] at e; exact n2 _ (Option.some.inj e).symm)
      refine ⟨_, rfl, _, _, _, _, _, rfl, h.obE, T.cl, T.plan, bk_plan .., A'.pl, rfl, ⟨_, SqL.of e1⟩, for_list (K := K) (a := A'.pl) (xs := as.map V.ref) (fun i σ H2 => ∃ x2 x3 x4, σ = [some (.ref b), some (.str t), x2, x3, x4] ∧ FrB b A' H H2 ∧
        (((∀ r ∈ B.R.take i, r.t ≠ t) ∧ BdAt C H2 b A' B k) ∨ ((∃ r ∈ B.R.take i, r.t = t) ∧ BdAt C H2 b A' B (k + 1)))) ?_ ?_ ?_ ?_⟩
      · exact ⟨none, none, none, rfl, FrB.refl H, .inl ⟨fun r hr => (by cases hr), h⟩⟩
      · rintro i σ H2 _ ⟨x2, x3, x4, _, fr, _⟩
        exact SqL.of (stay fr _ _ e1 (fun _ _ _ z => by cases z) (fun _ z => by cases z))
      · rintro i x σ H2 hx ⟨x2, x3, x4, rfl, fr, st⟩
        rw [List.getElem?_map] at hx
        obtain ⟨a, ha, rfl⟩ := Option.map_eq_some_iff.mp hx
        obtain ⟨r, hr2, c, ra1, ra2⟩ := paired_get pr ha
        have hm : r ∈ B.R := List.mem_of_getElem? hr2
        have ra1' := stay fr _ _ ra1 (fun _ _ _ z => by cases z) (fun _ z => by cases z)
        have ra2' := stay fr _ _ ra2 (fun _ _ _ z => by cases z) (fun _ z => by cases z)
        refine ⟨_, _, rfl, SqT.of ra1', rfl, _, _, rfl, _, _, rfl, _, _, rfl, rfl, ?_⟩
        refine ⟨_, rfl, _, rfl, rfl, _, rfl, ?_⟩
        by_cases et : r.t = t
        · rw [decide_eq_true (by rw [et])]
          have h2 : BdAt C H2 b A' B k := by
            rcases st with ⟨_, q⟩ | ⟨⟨r', hr', e'⟩, _⟩
            · exact q
            · exact absurd (e'.trans et.symm) (nodup_take ok.ok.nd hr2 r' hr')
          refine iteT ⟨_, rfl, _, _, _, rfl, h2.obE, bk_made .., _, rfl, _, rfl, b, A', B, k, c, r, rfl, h2, ok, ra2', ok.ok.src r hm, fun p hp => ok.O.top k r hm (by rw [ht, et]) p hp, fun H3 v h3 f3 ed cv => ?_⟩
          obtain ⟨kv2, d21, d2l, d23⟩ := h3.donLen
          refine ⟨_, rfl, _, _, _, _, _, rfl, h3.obE, T.cl, T.done, bk_done .., _, rfl, _, _, rfl, DPut.k (k := Sum.inr t) d21 ?_, ?_⟩
          · have := ok.O.le ok.ok
            have := ok.ok.few
            rw [sizeLine_eq]
            omega
          have hv : (B.φ t = none ∧ v = .non) ∨ ∃ a l, B.φ t = some l ∧ v = .ref a ∧ H3 a = some (iL l) := by
            rw [← et, ok.sol.r r hm]
            exact cv.imp id fun ⟨a, l, q1, q2, _, q4⟩ => ⟨a, l, q1, q2, q4⟩
          refine ⟨_, _, _, rfl, fr.trans (f3.trans FrB.done), .inr ⟨⟨r, ?_, et⟩, h3.putDone ok ht d21 hv⟩⟩
          rw [List.take_add_one, hr2]
          simp
        · rw [decide_eq_false (by intro z; exact et (V.str.inj z))]
          refine iteF ⟨_, _, _, rfl, fr, st.imp (fun ⟨q1, q2⟩ => ⟨fun r' hr' => ?_, q2⟩) fun ⟨⟨r', q1, q2⟩, q3⟩ => ⟨⟨r', by rw [List.take_add_one]; exact List.mem_append_left _ q1, q2⟩, q3⟩⟩
          rcases mem_take_succ hr2 hr' with z | z
          · exact q1 r' z
          · rw [z]; exact et
      · rintro σ H2 ⟨x2, x3, x4, rfl, fr, st⟩
        rw [lenR, List.take_length] at st
        refine ⟨_, rfl, q1 t H2 ht ?_ fr⟩
        rcases st with ⟨q, _⟩ | ⟨_, q⟩
        · obtain ⟨r, hr2, e⟩ := ok.O.tg t (List.mem_of_getElem? ht)
          exact absurd e (q r hr2)
        · exact q
theorem ok_finish (F : Fun K "finish" "Build.finish" sBuFinish f fd) (T : TB K C) (GA : MOk P w K mg base C "advance" 7 ["self"] (spBAdv C)) : FnOk P w K mg base CX0 8 f fd ["self"] (spFinish C) := by
  refine F.ok scBuFinish (fun vs H Q E h => ?_) (fun cdv A outer s H vs Q E hr h => ?_)
  · obtain ⟨b, A, B, rfl, _⟩ := h
    rfl
  · obtain ⟨b, A', B, rfl, h, ok, q⟩ := h
    have nd := scBuFinish.nd
    refine ⟨_, pss_cons (ps_set (i := 1) nd rfl (.inl rfl) pe_int)
      (pss_cons (ps_while PassesOwn.never (pt_cmpR op_notN (pe_methF0 GA T.cl hr (pv 0)) pe_non (nomark _)) (pss_one (ps_aug (i := 1) nd rfl (.inl rfl) pe_int ip_add)))
      (pss_one (ps_ret (pv 1)))), ?_⟩
    refine ⟨fun m σ H' => ∃ k, ∃ n : Int, σ = [some (.ref b), some (.int n)] ∧ BdAt C H' b A' B k ∧ FrB b A' H H' ∧ m = B.ord.length - k, ⟨_, 0, 0, rfl, h, FrB.refl H, rfl⟩, ?_⟩
    rintro m σ H1 ⟨k, n, rfl, h1, fr, rfl⟩
    have hk := h1.hk
    refine ⟨_, rfl, _, _, _, rfl, h1.obE, bk_advance .., b, A', B, k, rfl, h1, ok, fun e => ⟨rfl, _, rfl, iteNS rfl ⟨_, rfl, q H1 n (e ▸ h1) fr⟩⟩, fun t H2 ht h2 f2 => ⟨rfl, _, rfl, ?_⟩⟩
    have hlt := (List.getElem?_eq_some_iff.mp ht).1
    exact ⟨fun σ' H' => ∃ m', m' < B.ord.length - k ∧ ∃ k, ∃ n : Int, σ' = [some (.ref b), some (.int n)] ∧ BdAt C H' b A' B k ∧ FrB b A' H H' ∧ m' = B.ord.length - k, fun σ' H' z => z, ⟨_, rfl, _, _, rfl, rfl, _, by omega, k + 1, n + 1, rfl, h2, fr.trans f2, rfl⟩⟩
theorem ok_failed (F : Fun K "failed" "Build.failed" sBuFailed f fd) (T : TB K C) (ms : mg "sorted" = none) : FnOk P w K mg base CX0 1 f fd ["self"] (spFailed C) := by
  refine F.ok scBuFailed (fun vs H Q E h => ?_) (fun cdv A outer s H vs Q E hr h => ?_)
  · obtain ⟨b, A, B, rfl, _⟩ := h
    rfl
  · obtain ⟨b, A', B, rfl, h, ok, q⟩ := h
    have hu := hu_of hr
    have nd := scBuFailed.nd
    refine ⟨_, pss_one (ps_ret (pe_callB cr_sortedS (by rfl) ms (by decide +kernel) (pa_cons (pe_lc (own := [("name", 1)]) (g := gName 1)
        (tt := tTest (tOp (fun x y H Q => y = .non ∧ Q (.bl (decide (x = .non))) H) (tDGet (tFld K (tVar 0) "_done") (tVar 1)) (tC .non))) (te := tVar 1) rfl nd (pi_keys (pe_lkv (pe_fld (pv 0) rfl)))
        (blkOk_by (N := ["self", "name"]) (sc := defScope sBuFailed) (by decide +kernel)) (fun _ _ _ _ _ => pg_name (i := 1) nd rfl (Or.inl rfl))
        (fun _ _ _ _ _ => pts_one (pt_cmpR op_isN (pe_dget hu (pe_fldK (K := K) (pv 0) rfl) (pv 1) (fun _ _ => rfl)) pe_non (nomark _))) (fun _ _ _ _ _ => pv 1)) pa_nil))), ?_⟩
    obtain ⟨kvs, d1, dl, d3⟩ := h.donLen
    rw [List.take_length] at d3
    have hlen := ok.O.le ok.ok
    have few := ok.ok.few
    have hb := h.obE
    have hk : kvs.map (·.1) = B.ord.map (Sum.inr : Str → Key) := by
      have := paired_keys (key := fun q => q) (fun a kv f => f.1) d3
      rwa [List.map_id'] at this
    refine ⟨_, rfl, _, _, _, _, _, rfl, h.obE, T.cl, T.done, bk_done .., _, _, rfl, d1, trivial, fun ob => ⟨A'.don, ob, rfl, .inl ⟨kvs, upd_same, fun D hD => lc_keys (fun i H1 => Same (upd H A'.don (.frz ob (.dK kvs))) H1 ∧ H1 D = some (.lst (((B.ord.take i).filter fun t => (B.φ t).isNone).map V.str))) ⟨Same.one hD, upd_same⟩ (fun i H1 _ z => z.1 _ _ upd_same) ?_ ?_⟩⟩⟩
    · rintro i ky v H1 hi ⟨s1, e1⟩
      have hil := (List.getElem?_eq_some_iff.mp hi).1
      have lk : kvs.length = B.ord.length := by omega
      obtain ⟨t, ht⟩ : ∃ t, B.ord[i]? = some t := ⟨B.ord[i]'(by omega), List.getElem?_eq_getElem (by omega)⟩
      obtain ⟨kv, hkv, hd⟩ := paired_get d3 ht
      rw [hi] at hkv
      cases hkv
      obtain ⟨ek, ev⟩ := hd
      cases (show ky = Sum.inr t from ek)
      have e2 : (upd H A'.don (.frz ob (.dK kvs))) b = some (.ins C h.ob.choose (bF A' B.fuel h.ob.choose_spec.choose)) := by rw [upd_ne (ne_of hb d1 (by intro z; cases z))]; exact hb
      have hv : valV kvs (Sum.inr t : Key) = some v := valV_mem (by rw [hk]; exact nodup_inr ok.O.nd) (List.mem_of_getElem? hi)
      have hlt : ((B.ord.take i).filter fun t => (B.φ t).isNone).length < 100 := by
        have := List.length_filter_le (fun t => (B.φ t).isNone) (B.ord.take i)
        rw [List.length_take] at this
        omega
      refine ⟨rfl, ?_⟩
      refine ⟨_, rfl, _, _, _, _, _, rfl, s1 _ _ e2, T.cl, T.done, bk_done .., _, rfl, _, v, rfl, .inl ⟨kvs, Sum.inr t, .inr ⟨ob, s1 _ _ upd_same⟩, rfl, hv.symm⟩, rfl, _, rfl, ?_⟩
      have fs : ((B.ord.take (i + 1)).filter fun t => (B.φ t).isNone) = ((B.ord.take i).filter fun t => (B.φ t).isNone) ++ (if (B.φ t).isNone then [t] else []) := by
        rw [List.take_add_one, ht, List.filter_append]
        congr 1
        show [t].filter _ = _
        rw [List.filter_cons]
        split <;> rfl
      rcases ev with ⟨e3, e4⟩ | ⟨a, l, e3, e4, _⟩
      · cases (show v = .non from e4)
        refine iteT ⟨_, rfl, _, e1, by rw [List.length_map, sizeLine_eq]; omega, fun c o hc => ?_, ?_⟩
        · rw [upd_ne (ne_of_none hc hD)]; exact s1 _ _ hc
        · rw [upd_same, fs, e3, List.map_append]
          rfl
      · cases (show v = .ref a from e4)
        refine iteF ⟨s1, ?_⟩
        rw [fs, e3]
        simpa using e1
    · rintro H1 ⟨s1, e1⟩
      have lk : kvs.length = B.ord.length := by omega
      rw [lk, List.take_length] at e1
      refine ⟨D, _, rfl, SqL.of e1, ?_, fun ys l pm so hl => ?_⟩
      · have := List.length_filter_le (fun t => (B.φ t).isNone) B.ord
        omega
      · have hl1 := s1.free hl
        have hlA : l ≠ A'.don := fun z => by rw [z, upd_same] at hl1; cases hl1
        rw [upd_ne hlA] at hl1
        refine q _ l ys (fun c o hc hcn => ?_) hl1 upd_same pm so
        rw [upd_ne (ne_of_none hc hl1)]
        exact s1 _ _ (by rw [upd_ne hcn]; exact hc)
end
end Q3

set_option Elab.async false
set_option linter.all false
set_option maxRecDepth 100000
set_option maxHeartbeats 4000000
/-! Build.__init__ -/
namespace Q3
open PySem PySem.Spec PyProof.Rows L2
/-- the given items, locked -/
def GivAt (H : Hp) (g : Addr) (G : List (Str × List Int)) : Prop := ∃ kvs o, H g = some (.frz o (.dK kvs)) ∧ Paired (GEnt H) G kvs
theorem GivAt.same {H H' : Hp} {g : Addr} {G : List (Str × List Int)} (h : GivAt H g G) (s : ∀ c o, H c = some o → (∀ C dx fs, o ≠ .ins C dx fs) → (∀ kvs, o ≠ .dK kvs) → H' c = some o) : GivAt H' g G := by
  obtain ⟨kvs, o, h1, h2⟩ := h
  exact ⟨kvs, o, s _ _ h1 (fun _ _ _ z => by cases z) (fun _ z => by cases z), Paired.mapP h2 fun _ _ q => q.to s⟩
theorem GivAt.keys {H : Hp} {g : Addr} {G : List (Str × List Int)} (h : GivAt H g G) : GivK H g (G.map (·.1)) := by
  obtain ⟨kvs, o, h1, h2⟩ := h
  exact ⟨kvs, o, h1, paired_keys (key := fun q : Str × List Int => q.1) (fun _ _ q => q.1) h2⟩
def spBInit (C : Addr) : Sp := fun vs H Q _ => ∃ p dx a g R G rk, ∃ fuel : Nat, vs = [.ref p, .ref a, .ref g, .int fuel] ∧ H p = some (.ins C dx []) ∧ PlanAt H a R ∧ GivAt H g G ∧ PlanOk R (G.map (·.1)) rk ∧ G.length ≤ 1000 ∧ (G.map (·.1)).Nodup ∧ fuel ≤ 1000 ∧
  ∀ H' A ord, (∀ φ, Sol R G fuel φ → BdAt C H' p A ⟨R, G, rk, fuel, φ, ord⟩ 0) → OrdOk R (G.map (·.1)) ord → ord.length = R.length → (∀ c o, H c = some o → c ≠ p → H' c = some o) → H A.don = none → Q .non H'
section
variable {P : Program} {w : World} {K : PySem.W.Frag} {mg : Str → Option Value} {base : Heap} {f C : Addr} {fd : FuncData}
theorem ok_binit (F : Fun K "__init__" "Build.__init__" sBuInit f fd) (T : TB K C) (mt : mg "tuple" = none) (ml : mg "list" = none) (GO : FOk P w K mg base "order_of" 4 ["plan", "given"] spOrder) :
    FnOk P w K mg base CX0 5 f fd ["self", "plan", "given", "fuel"] (spBInit C) := by
  refine F.ok scBuInit (fun vs H Q E h => ?_) (fun cdv A outer s H vs Q E hr h => ?_)
  · obtain ⟨p, dx, a, g, R, G, rk, fuel, rfl, _⟩ := h
    rfl
  · obtain ⟨p, dx, a, g, R, G, rk, fuel, rfl, hp, pl, gv, ok, hgl, ndg, hf, k⟩ := h
    have hu := hu_of hr
    have nd := scBuInit.nd
    refine ⟨_, pss_cons (ps_fld (pv 0) (pe_callF GO hr (by rfl) (pa_cons (pv 1) (pa_cons (pv 2) pa_nil))) rfl)
      (pss_cons (ps_if (pt_cmpR op_lt (pv 3) pe_int (nomark _)) (pss_one ps_never) pss_nil)
      (pss_cons (ps_fld (pv 0) (pv 3) rfl)
      (pss_cons (ps_fld (pv 0) (pe_lc (own := [("rule", 4)]) (g := gName 4) (tt := tYes)
          (te := tTup (tCons (tOp (rIxT K) (tVar 4) (tC (.int 0))) (tCons (tOp (rIxT K) (tVar 4) (tC (.int 1))) (tCons (tCB (rTupK K) (tCons (tOp (rIxT K) (tVar 4) (tC (.int 2))) tNil)) tNil)))) rfl nd (pi_list (pv 1))
          (blkOk_by (N := ["self", "plan", "given", "fuel", "rule", "name"]) (sc := defScope sBuInit) (by decide +kernel))
          (fun _ _ _ _ _ => pg_name (i := 4) nd rfl (Or.inl rfl)) (fun _ _ _ _ _ => pts_nil)
          (fun _ _ _ _ _ => pe_tup (pa_cons (pe_ix (ix_tupK (K := K)) (pv 4) pe_int (fun _ _ => rfl)) (pa_cons (pe_ix (ix_tupK (K := K)) (pv 4) pe_int (fun _ _ => rfl))
            (pa_cons (pe_callTy (T := "tuple") (call_tupleK (K := K)) (by rfl) mt (by decide +kernel) (pa_cons (pe_ix (ix_tupK (K := K)) (pv 4) pe_int (fun _ _ => rfl)) pa_nil)) pa_nil))))) rfl)
      (pss_cons (ps_fld (pv 0) (pe_dc (own := [("name", 5)]) (g := gName 5) (tt := tYes) (tk := tVar 5) (tv := tCB (rLstK K) (tCons (tDGet (tVar 2) (tVar 5)) tNil)) rfl nd (pi_keys (pv 2))
          (blkOk_by (N := ["self", "plan", "given", "fuel", "rule", "name"]) (sc := defScope sBuInit) (by decide +kernel))
          (fun _ _ _ _ _ => pg_name (i := 5) nd rfl (Or.inl rfl)) (fun _ _ _ _ _ => pts_nil) (fun _ _ _ _ _ => pv 5)
          (fun _ _ _ _ _ => pe_callTy (T := "list") (call_listK (K := K)) (by rfl) ml (by decide +kernel) (pa_cons (pe_dget hu (pv 2) (pv 5) (fun _ _ => rfl)) pa_nil))) rfl)
      (pss_cons (ps_fld (pv 0) pe_dnewK rfl)
      (pss_one (ps_fld (pv 0) pe_int rfl))))))), ?_⟩
    have I0 := Ini.start hp
    refine ⟨_, rfl, _, rfl, a, g, R, G.map (·.1), rk, rfl, pl, gv.keys, ok, by rw [List.length_map]; exact hgl, ndg, fun H1 o ord s1 n1 eo O ol => ?_⟩
    have I1 := I0.call s1 n1 eo
    refine ⟨_, rfl, _, _, _, _, rfl, I1.ob, T.cl, T.order, (by show 0 < 1000; decide), ?_⟩
    have I2 := I1.set (putF "_order" (.ref o) [])
    refine ⟨_, rfl, _, _, rfl, rfl, _, rfl, ?_⟩
    rw [decide_eq_false (by omega)]
    refine iteF ⟨_, rfl, _, rfl, _, _, _, _, rfl, I2.ob, T.cl, T.fuel, (by show 1 < 1000; decide), ?_⟩
    have I3 := I2.set (putF "_fuel" (.int fuel) (putF "_order" (.ref o) []))
    have go : ∀ {H' : Hp} {fs : List (Str × V)} {L : List (Addr × HO)}, Ini H H' p dx C fs L → ∀ c o, H c = some o → (∀ C dx fs, o ≠ .ins C dx fs) → H' c = some o := fun {H' fs L} I c o e q => I.keep c o e fun z => by
      rw [z, hp] at e
      exact q _ _ _ (Option.some.inj e).symm
    obtain ⟨as, e1, pr⟩ := id pl
    have lenR : (as.map V.ref).length = R.length := by rw [List.length_map, paired_len pr]
    have few := ok.few
    refine ⟨_, rfl, a, rfl, ⟨_, SqL.of (go I3 _ _ e1 (fun _ _ _ z => by cases z))⟩, fun D hD => lc_list (K := K) (a := a) (xs := as.map V.ref) (fun i H4 => ∃ bs, Same (upd (upd H1 p (.ins C dx (putF "_order" (.ref o) []))) p (.ins C dx (putF "_fuel" (.int fuel) (putF "_order" (.ref o) [])))) H4 ∧ H4 D = some (.lst (bs.map V.ref)) ∧ bs.length ≤ i ∧ Paired (RuleAt H4) bs (R.take i)) ?_ ?_ ?_ ?_⟩
    · exact ⟨[], Same.one hD, upd_same, Nat.le_refl _, .nil⟩
    · rintro i H4 _ ⟨bs, s4, _⟩
      exact SqL.of (s4 _ _ (go I3 _ _ e1 (fun _ _ _ z => by cases z)))
    · rintro i x H4 hx ⟨bs, s4, e4, hb4, pr4⟩
      rw [List.getElem?_map] at hx
      obtain ⟨a', ha, rfl⟩ := Option.map_eq_some_iff.mp hx
      obtain ⟨r, hr2, b, rb1, rb2⟩ := paired_get pr ha
      have ra1 := s4 _ _ (go I3 _ _ rb1 (fun _ _ _ z => by cases z))
      have ra2 := s4 _ _ (go I3 _ _ rb2 (fun _ _ _ z => by cases z))
      have ra4 : RuleAt H4 a' r := ⟨b, ra1, ra2⟩
      have hi := (List.getElem?_eq_some_iff.mp hr2).1
      refine ⟨rfl, ?_⟩
      refine ⟨_, rfl, _, _, _, _, rfl, rfl, SqT.of ra1, atI_nat (j := 0) rfl, _, rfl, _, _, _, _, rfl, rfl, SqT.of ra1, atI_nat (j := 1) rfl, _, rfl, _, _, _, _, rfl, rfl, SqT.of ra1, atI_nat (j := 2) rfl, b, _, rfl, .inr ⟨SqT.of ra2, ?_⟩⟩
      refine ⟨(by show 3 ≤ sizeLine; decide), fun c hc => ⟨_, upd_old e4 hc, ?_, bs ++ [c], ?_, ?_, ?_, ?_⟩⟩
      · rw [List.length_map, sizeLine_eq]; omega
      · intro b' o' hb'
        rw [upd_ne (ne_of_none hb' hD)]
        exact upd_old (s4 _ _ hb') hc
      · rw [upd_same, List.map_append]; rfl
      · rw [List.length_append]; show bs.length + 1 ≤ i + 1; omega
      · have up : ∀ (b' : Addr) (o' : HO), (upd H4 c (.tup [.str r.t, .str r.tool, .ref b])) b' = some o' → (∀ xs, o' ≠ .lst xs) → (upd (upd H4 c (.tup [.str r.t, .str r.tool, .ref b])) D (.lst (bs.map V.ref ++ [.ref c]))) b' = some o' := fun b' o' h h' => by
          rw [upd_ne fun z => ?_]
          · exact h
          · rw [z, upd_old e4 hc] at h
            exact h' _ (Option.some.inj h).symm
        have upR : ∀ b' r', RuleAt (upd H4 c (.tup [.str r.t, .str r.tool, .ref b])) b' r' → RuleAt (upd (upd H4 c (.tup [.str r.t, .str r.tool, .ref b])) D (.lst (bs.map V.ref ++ [.ref c]))) b' r' := fun b' r' ⟨b2, q1, q2⟩ =>
          ⟨b2, up _ _ q1 (fun _ z => by cases z), up _ _ q2 (fun _ z => by cases z)⟩
        rw [List.take_add_one, hr2]
        refine Paired.snoc (Paired.mapP pr4 fun b' r' q => upR _ _ (q.same (Same.one hc))) (upR _ _ (rule_copy ra4 ra1 hc))
    · rintro H4 ⟨bs, s4, e4, _, pr4⟩
      rw [lenR, List.take_length] at pr4
      have I4 := I3.call s4 hD e4
      have pl4 : PlanAt H4 D R := ⟨bs, e4, pr4⟩
      refine ⟨_, rfl, _, _, _, _, rfl, I4.ob, T.cl, T.plan, (by show 2 < 1000; decide), ?_⟩
      have I5 := I4.set (putF "_plan" (.ref D) (putF "_fuel" (.int fuel) (putF "_order" (.ref o) [])))
      have pl5 := pl4.to fun c u q q1 _ => set_keep (fs' := putF "_plan" (.ref D) (putF "_fuel" (.int fuel) (putF "_order" (.ref o) []))) I4.ob c u q q1
      obtain ⟨kvs, og, g1, g2⟩ := id gv
      have hkv : kvs.length = G.length := (paired_len g2).symm
      have ndk : (kvs.map (·.1)).Nodup := by
        rw [paired_keys (key := fun q : Str × List Int => q.1) (fun _ _ q => q.1) g2]
        exact nodup_inr ndg
      refine ⟨_, rfl, g, og, rfl, .inl ⟨kvs, go I5 _ _ g1 (fun _ _ _ z => by cases z), fun D2 hD2 => dc_keys (fun i H6 => ∃ kg, Same (upd H4 p (.ins C dx (putF "_plan" (.ref D) (putF "_fuel" (.int fuel) (putF "_order" (.ref o) []))))) H6 ∧ H6 D2 = some (.dK kg) ∧ kg.length ≤ i ∧ Paired (GEnt H6) (G.take i) kg) ?_ ?_ ?_ ?_⟩⟩
      · exact ⟨[], Same.one hD2, upd_same, Nat.le_refl _, .nil⟩
      · rintro i H6 _ ⟨kg, s6, _⟩
        exact s6 _ _ (go I5 _ _ g1 (fun _ _ _ z => by cases z))
      · rintro i ky v H6 hi ⟨kg, s6, e6, hl6, pr6⟩
        have hil := (List.getElem?_eq_some_iff.mp hi).1
        obtain ⟨q, hq⟩ : ∃ q, G[i]? = some q := ⟨G[i]'(by omega), List.getElem?_eq_getElem (by omega)⟩
        obtain ⟨kv, hkv2, ek, av, ev, ea⟩ := paired_get g2 hq
        rw [hi] at hkv2
        cases hkv2
        cases (show ky = Sum.inr q.1 from ek)
        cases (show v = .ref av from ev)
        have ea6 := s6 _ _ (go I5 _ _ ea (fun _ _ _ z => by cases z))
        have g6 := s6 _ _ (go I5 _ _ g1 (fun _ _ _ z => by cases z))
        have hv : valV kvs (Sum.inr q.1 : Key) = some (.ref av) := valV_mem ndk (List.mem_of_getElem? hi)
        refine ⟨rfl, ?_⟩
        refine ⟨_, rfl, _, rfl, _, rfl, _, .ref av, rfl, .inl ⟨kvs, Sum.inr q.1, .inr ⟨og, g6⟩, rfl, hv.symm⟩, av, _, rfl, .inl (SqL.of ea6), fun c hc => ?_⟩
        have hno : valV kg (Sum.inr q.1 : Key) = none := by
          have hk6 : kg.map (·.1) = ((G.take i).map (·.1)).map (Sum.inr : Str → Key) := paired_keys (key := fun q : Str × List Int => q.1) (fun _ _ q => q.1) pr6
          have := val_names hk6 q.1
          rw [decide_eq_false fun z => ?_] at this
          · cases z : valV kg (Sum.inr q.1 : Key) with
            | none => rfl
            | some v => rw [z] at this; cases this
          · rw [List.map_take] at z
            obtain ⟨j, hj⟩ := List.mem_iff_getElem?.mp z
            rw [List.getElem?_take] at hj
            split at hj
            · have hq' : (G.map (·.1))[i]? = some q.1 := by rw [List.getElem?_map, hq]; rfl
              have := nd_ix ndg hj hq'
              omega
            · cases hj
        refine ⟨kg, Sum.inr q.1, rfl, upd_old e6 hc, by rw [sizeLine_eq]; omega, kg ++ [(Sum.inr q.1, .ref c)], ?_, ?_, ?_, ?_⟩
        · intro b' o' hb'
          rw [upd_ne (ne_of_none hb' hD2)]
          exact upd_old (s6 _ _ hb') hc
        · rw [upd_same, putK_new _ hno]
        · rw [List.length_append]; show kg.length + 1 ≤ i + 1; omega
        · have up : ∀ (b' : Addr) (o' : HO), (upd H6 c (iL q.2)) b' = some o' → (∀ kvs, o' ≠ .dK kvs) → (upd (upd H6 c (iL q.2)) D2 (.dK (putK kg (Sum.inr q.1) (.ref c)))) b' = some o' := fun b' o' h h' => by
            rw [upd_ne fun z => ?_]
            · exact h
            · rw [z, upd_old e6 hc] at h
              exact h' _ (Option.some.inj h).symm
          rw [List.take_add_one, hq]
          exact Paired.snoc (Paired.mapP pr6 fun b' r' z => (z.to fun c' o' e _ _ => upd_old e hc).to fun c' o' e _ q2 => up _ _ e q2) ⟨rfl, c, rfl, up _ _ upd_same (fun _ z => by cases z)⟩
      · rintro H6 ⟨kg, s6, e6, hl6, pr6⟩
        rw [hkv, List.take_length] at pr6
        have I6 := I5.call s6 hD2 e6
        have pl6 := pl5.same s6
        refine ⟨_, rfl, _, _, _, _, rfl, I6.ob, T.cl, T.given, (by show 3 < 1000; decide), ?_⟩
        have I7 := I6.set (putF "_given" (.ref D2) (putF "_plan" (.ref D) (putF "_fuel" (.int fuel) (putF "_order" (.ref o) []))))
        have k7 := set_keep (fs' := putF "_given" (.ref D2) (putF "_plan" (.ref D) (putF "_fuel" (.int fuel) (putF "_order" (.ref o) [])))) I6.ob
        intro l3 n3
        have I8 := I7.lay n3 (.dK [])
        refine ⟨_, rfl, _, _, _, _, rfl, I8.ob, T.cl, T.done, (by show 4 < 1000; decide), ?_⟩
        have I9 := I8.set (putF "_done" (.ref l3) (putF "_given" (.ref D2) (putF "_plan" (.ref D) (putF "_fuel" (.int fuel) (putF "_order" (.ref o) [])))))
        have k9 := set_keep (fs' := putF "_done" (.ref l3) (putF "_given" (.ref D2) (putF "_plan" (.ref D) (putF "_fuel" (.int fuel) (putF "_order" (.ref o) []))))) I8.ob
        refine ⟨_, rfl, _, _, _, _, rfl, I9.ob, T.cl, T.steps, (by show 5 < 1000; decide), ?_⟩
        have I10 := I9.set (putF "steps" (.int 0) (putF "_done" (.ref l3) (putF "_given" (.ref D2) (putF "_plan" (.ref D) (putF "_fuel" (.int fuel) (putF "_order" (.ref o) []))))))
        have k10 := set_keep (fs' := putF "steps" (.int 0) (putF "_done" (.ref l3) (putF "_given" (.ref D2) (putF "_plan" (.ref D) (putF "_fuel" (.int fuel) (putF "_order" (.ref o) [])))))) I9.ob
        have ef : putF "steps" (.int 0) (putF "_done" (.ref l3) (putF "_given" (.ref D2) (putF "_plan" (.ref D) (putF "_fuel" (.int fuel) (putF "_order" (.ref o) []))))) = bF ⟨o, D, D2, l3⟩ fuel 0 := by kernel_rfl
        have kk : ∀ c u, H6 c = some u → (∀ C dx fs, u ≠ .ins C dx fs) → _ := fun c u e n1 => k10 c u (k9 c u (upd_old (u := .dK []) (k7 c u e n1) n3) n1) n1
        refine k _ ⟨o, D, D2, l3⟩ ord (fun φ _ => ⟨⟨dx, 0, by rw [I10.ob, ef]⟩, ?_, pl6.to fun c u e n1 _ => kk c u e n1, ⟨kg, kk _ _ e6 (fun _ _ _ z => by cases z), Paired.mapP pr6 fun _ _ z => z.to fun c u e n1 _ => kk c u e n1⟩, ⟨[], ?_, .nil⟩, ?_, Nat.zero_le _⟩) O ol I10.keep ?_
        · exact (I10.new (o, .lst (ord.map V.str)) (by simp)).1
        · exact (I10.new (l3, .dK []) (by simp)).1
        · intro z
          have h7 : List.Pairwise (fun x y : Addr => x ≠ y) [l3, D2, D, o] := I10.nd
          exact (List.pairwise_cons.mp h7).1 D2 (by simp) z.symm
        · exact (I10.new (l3, .dK []) (by simp)).2
end
end Q3

set_option Elab.async false
set_option linter.all false
set_option maxRecDepth 100000
set_option maxHeartbeats 4000000
/-! build_all -/
namespace Q3
open PySem PySem.Spec PyProof.Rows L2
/-- an entry of the contents -/
def CEnt (H : Hp) (φ : Val) (t : Str) (kv : Key × V) : Prop := kv.1 = Sum.inr t ∧ ∃ a l, φ t = some l ∧ kv.2 = .ref a ∧ H a = some (iL l)
theorem CEnt.to {H H' : Hp} {φ : Val} {t : Str} {kv : Key × V} (h : CEnt H φ t kv) (k : ∀ b o, H b = some o → (∀ C dx fs, o ≠ .ins C dx fs) → (∀ kvs, o ≠ .dK kvs) → H' b = some o) : CEnt H' φ t kv := by
  obtain ⟨h1, a, l, h2, h3, h4⟩ := h
  exact ⟨h1, a, l, h2, h3, k _ _ h4 (fun _ _ _ z => by cases z) (fun _ z => by cases z)⟩
def okT (φ : Val) (R : List Rl) : List Str := (R.map Rl.t).filter fun t => (φ t).isSome
def badT (φ : Val) (R : List Rl) : List Str := (R.map Rl.t).filter fun t => (φ t).isNone
/-- what build_all gives -/
structure ResAt (H : Hp) (t : Addr) (c l : Addr) (φ : Val) (R : List Rl) (ys : List Str) : Prop where
  tp : H t = some (.tup [.ref c, .ref l])
  ct : ∃ kvs, H c = some (.dK kvs) ∧ Paired (CEnt H φ) (okT φ R) kvs
  fl : H l = some (.lst (ys.map V.str))
  pm : ys.Perm (badT φ R)
  so : sortedS ys = true
def spBuildAll : Sp := fun vs H Q _ => ∃ a g R G rk, ∃ fuel : Nat, ∃ φ, vs = [.ref a, .ref g, .int fuel] ∧ PlanAt H a R ∧ GivAt H g G ∧ PlanOk R (G.map (·.1)) rk ∧ G.length ≤ 1000 ∧ (G.map (·.1)).Nodup ∧ fuel ≤ 1000 ∧ Sol R G fuel φ ∧
  ∀ H' t c l ys, Same H H' → ResAt H' t c l φ R ys → H c = none → Q (.ref t) H'
theorem okT_succ {R : List Rl} {i : Nat} {r : Rl} (h : R[i]? = some r) (φ : Val) : okT φ (R.take (i + 1)) = okT φ (R.take i) ++ (if (φ r.t).isSome then [r.t] else []) := by
  unfold okT
  rw [List.take_add_one, h, List.map_append, List.filter_append]
  congr 1
  show [r.t].filter _ = _
  rw [List.filter_cons]
  split <;> rfl
theorem okT_mem {φ : Val} {R : List Rl} {t : Str} (h : t ∈ okT φ R) : ∃ r ∈ R, r.t = t := List.mem_map.mp (List.mem_filter.mp h).1
theorem okT_len {φ : Val} {R : List Rl} : (okT φ R).length ≤ R.length := by
  have := List.length_filter_le (fun t => (φ t).isSome) (R.map Rl.t)
  rwa [List.length_map] at this
theorem BdAt.other {C : Addr} {H : Hp} {b : Addr} {A : BA} {B : BE} {k : Nat} (h : BdAt C H b A B k) {c : Addr} {kc u : List (Key × V)} (e : H c = some (.dK kc)) (n1 : c ≠ A.giv) (n2 : c ≠ A.don) : BdAt C (upd H c (.dK u)) b A B k := by
  obtain ⟨dx, n, e1⟩ := h.ob
  obtain ⟨kg, g1, g2⟩ := h.giv
  obtain ⟨kd, d1, d2⟩ := h.don
  have go : ∀ c' o, H c' = some o → (∀ C dx fs, o ≠ .ins C dx fs) → (∀ kvs, o ≠ .dK kvs) → (upd H c (.dK u)) c' = some o := fun c' o q _ q2 => by
    rw [upd_ne fun z => ?_]
    · exact q
    · rw [z, e] at q
      exact q2 _ (Option.some.inj q).symm
  exact ⟨⟨dx, n, by rw [upd_ne (ne_of e1 e (by intro z; cases z))]; exact e1⟩, go _ _ h.ord (fun _ _ _ z => by cases z) (fun _ z => by cases z), h.pl.to go, ⟨kg, by rw [upd_ne n1.symm]; exact g1, Paired.mapP g2 fun _ _ q => q.to go⟩, ⟨kd, by rw [upd_ne n2.symm]; exact d1, Paired.mapP d2 fun _ _ q => q.to go⟩, h.ne, h.hk⟩
theorem ord_perm {R : List Rl} {gs ord : List Str} {rk : Str → Nat} (O : OrdOk R gs ord) (ok : PlanOk R gs rk) (ol : ord.length = R.length) : ord.Perm (R.map Rl.t) :=
  (List.perm_ext_iff_of_nodup O.nd ok.nd).mpr fun t => ⟨fun h => by
    obtain ⟨r, h1, h2⟩ := O.tg t h
    exact List.mem_map.mpr ⟨r, h1, h2⟩, fun h => by
    obtain ⟨r, h1, h2⟩ := List.mem_map.mp h
    rw [← h2]
    exact O.full ok ol r h1⟩
section
variable {P : Program} {w : World} {K : PySem.W.Frag} {mg : Str → Option Value} {base : Heap} {f fI C : Addr} {fd fdI : FuncData}
theorem ok_buildAll (F : Fun K "build_all" "build_all" sBuildAll f fd) (T : TB K C) (M : Mk K C fI) (mgC : mg "Build" = some (.ref C)) (GI : FnOk P w K mg base CX0 5 fI fdI ["self", "plan", "given", "fuel"] (spBInit C))
    (kI : KBn K fdI ["self", "plan", "given", "fuel"] 3 ["fuel"] (fun us ws => us ++ ws) (fun vs zs => vs ++ zs)) (GF : MOk P w K mg base C "finish" 8 ["self"] (spFinish C)) (GC : MOk P w K mg base C "content" 1 ["self", "name"] (spContent C)) (GX : MOk P w K mg base C "failed" 1 ["self"] (spFailed C)) :
    FnOk P w K mg base CX0 9 f fd ["plan", "given", "fuel"] spBuildAll := by
  refine F.ok scBuildAll (fun vs H Q E h => ?_) (fun cdv A outer s H vs Q E hr h => ?_)
  · obtain ⟨a, g, R, G, rk, fuel, φ, rfl, _⟩ := h
    rfl
  · obtain ⟨a, g, R, G, rk, fuel, φ, rfl, pl, gv, ok, hgl, ndg, hf, sol, k⟩ := h
    have hu := hu_of hr
    have hr1 : Room 1 _ := hr.mono (by decide)
    have hr6 : Room 6 _ := hr.mono (by decide)
    have nd := scBuildAll.nd
    refine ⟨_, pss_cons (ps_set (i := 3) nd rfl (.inl rfl) (pe_makeK M GI hr6 rfl mgC kI pass0 (pa_cons (pv 0) (pa_cons (pv 1) pa_nil)) (pk_cons (pv 2) pk_nil)))
      (pss_cons (ps_expr (pe_methF0 GF T.cl hr (pv 3)))
      (pss_cons (ps_set (i := 4) nd rfl (.inl rfl) pe_dnewK)
      (pss_cons (ps_for PassesOwn.never rfl (pi_list (pv 0)) (pg_name (i := 5) nd rfl (.inl rfl))
        (pss_cons (ps_set (i := 6) nd rfl (.inl rfl) (pe_methF GC T.cl hr1 (pv 3) (pa_cons (pe_ix ix_tup (pv 5) pe_int (fun _ _ => rfl)) pa_nil)))
        (pss_one (ps_if (pt_cmpR op_notN (pv 6) pe_non (nomark _)) (pss_one (ps_dput hu (pv 4) (pe_ix ix_tup (pv 5) pe_int (fun _ _ => rfl)) (pv 6) rfl)) pss_nil))))
      (pss_one (ps_ret (pe_tup (pa_cons (pv 4) (pa_cons (pe_methF0 GX T.cl hr1 (pv 3)) pa_nil)))))))), ?_⟩
    refine ⟨_, rfl, _, rfl, _, rfl, rfl, rfl, fun x dx nx ndx nex => ?_⟩
    have old : ∀ {c : Addr} {o : HO}, H c = some o → (upd (upd H dx (.own x)) x (.ins C dx [])) c = some o := fun {c o} e => by
      rw [upd_ne (ne_of_none e nx)]
      exact upd_old e ndx
    refine ⟨x, dx, a, g, R, G, rk, fuel, rfl, upd_same, pl.same (fun c o e => old e), gv.same (fun c o e _ _ => old e), ok, hgl, ndg, hf, fun H1 A ord bd O ol kp nA => ⟨rfl, ?_⟩⟩
    have nA0 : H A.don = none := by
      cases q : H A.don with
      | none => rfl
      | some o => rw [old q] at nA; cases nA
    have s1 : Same H H1 := fun c o e => kp c o (old e) (ne_of_none e nx)
    have h1 := bd φ sol
    have bok : (⟨R, G, rk, fuel, φ, ord⟩ : BE).Ok := ⟨ok, sol, O, ol, ndg, hf⟩
    refine ⟨_, rfl, _, _, _, rfl, h1.obE, bk_finish .., x, A, ⟨R, G, rk, fuel, φ, ord⟩, rfl, h1, bok, fun H2 n h2 f2 => ?_⟩
    have s2 : Same H H2 := fun c o e => f2 c o (s1 c o e) (ne_of_none e nx) (ne_of_none e nA0)
    intro ca nca
    have h3 := h2.to (H' := upd H2 ca (.dK [])) fun c o e => upd_old e nca
    have s3 : Same H (upd H2 ca (.dK [])) := fun c o e => upd_old (s2 _ _ e) nca
    have nca0 : H ca = none := s2.free nca
    have don3 : ∃ o, H2 A.don = some o := let ⟨kvs, d, _⟩ := h2.don; ⟨_, d⟩
    have cag : ca ≠ A.giv := fun z => by
      obtain ⟨kvs, d, _⟩ := h2.giv
      rw [← z, nca] at d
      cases d
    have cad : ca ≠ A.don := fun z => by
      obtain ⟨o, d⟩ := don3
      rw [← z, nca] at d
      cases d
    obtain ⟨as, e1, pr⟩ := id pl
    have lenR : (as.map V.ref).length = R.length := by rw [List.length_map, paired_len pr]
    have few := ok.few
    refine ⟨_, rfl, a, rfl, ⟨_, SqL.of (s3 _ _ e1)⟩, for_list (K := K) (a := a) (xs := as.map V.ref) (fun i σ H4 => ∃ x5 x6 kc, σ = [some (.ref a), some (.ref g), some (.int fuel), some (.ref x), some (.ref ca), x5, x6] ∧ Same H H4 ∧ BdAt C H4 x A ⟨R, G, rk, fuel, φ, ord⟩ ord.length ∧ H4 ca = some (.dK kc) ∧ Paired (CEnt H4 φ) (okT φ (R.take i)) kc) ?_ ?_ ?_ ?_⟩
    · exact ⟨none, none, [], rfl, s3, h3, upd_same, .nil⟩
    · rintro i σ H4 _ ⟨x5, x6, kc, _, sm, _⟩
      exact SqL.of (sm _ _ e1)
    · rintro i y σ H4 hx ⟨x5, x6, kc, rfl, sm, h4, e4, pr4⟩
      rw [List.getElem?_map] at hx
      obtain ⟨a', ha, rfl⟩ := Option.map_eq_some_iff.mp hx
      obtain ⟨r, hr2, b, rb1, rb2⟩ := paired_get pr ha
      have hm : r ∈ R := List.mem_of_getElem? hr2
      have ra1 := sm _ _ rb1
      have hi := (List.getElem?_eq_some_iff.mp hr2).1
      have hin : r.t ∈ ord := O.full ok ol r hm
      refine ⟨_, rfl, _, _, _, rfl, h4.obE, bk_content .., _, rfl, _, _, _, _, rfl, rfl, SqT.of ra1, atI_nat (j := 0) rfl, x, A, ⟨R, G, rk, fuel, φ, ord⟩, ord.length, r.t, rfl, h4, bok, .inr hin, fun H5 v s5 cv => ?_⟩
      have e5 := s5 _ _ e4
      have ra5 := s5 _ _ ra1
      have cur : curV ⟨R, G, rk, fuel, φ, ord⟩ ord.length r.t = φ r.t := by
        unfold curV
        rw [if_pos (.inr (by show r.t ∈ ord.take ord.length; rw [List.take_length]; exact hin))]
      rw [cur] at cv
      have prlen : kc.length = (okT φ (R.take i)).length := (paired_len pr4).symm
      have ll : (okT φ (R.take i)).length ≤ 8 := by
        have := okT_len (φ := φ) (R := R.take i)
        rw [List.length_take] at this
        omega
      rcases cv with ⟨q1, rfl⟩ | ⟨va, l, q1, rfl, q2, q3⟩
      · refine ⟨_, rfl, rfl, _, rfl, iteNS rfl ⟨_, _, kc, rfl, sm.trans s5, h4.to s5, e5, ?_⟩⟩
        rw [okT_succ hr2, q1]
        show Paired _ (_ ++ []) kc
        rw [List.append_nil]
        exact Paired.mapP pr4 fun _ _ z => z.to fun c o e _ _ => s5 c o e
      · refine ⟨_, rfl, rfl, _, rfl, iteT ⟨_, rfl, _, rfl, _, rfl, _, _, _, _, rfl, rfl, SqT.of ra5, atI_nat (j := 0) rfl, _, _, rfl, DPut.k (k := Sum.inr r.t) e5 (by rw [sizeLine_eq]; omega), ?_⟩⟩
        have hno : valV kc (Sum.inr r.t : Key) = none := by
          have hk6 : kc.map (·.1) = (okT φ (R.take i)).map (Sum.inr : Str → Key) := by
            have := paired_keys (key := fun q : Str => q) (fun _ _ q => q.1) pr4
            rwa [List.map_id'] at this
          have := val_names hk6 r.t
          rw [decide_eq_false fun z => ?_] at this
          · cases z : valV kc (Sum.inr r.t : Key) with
            | none => rfl
            | some v => rw [z] at this; cases this
          · obtain ⟨r', m1, m2⟩ := okT_mem z
            exact nodup_take ok.nd hr2 r' m1 m2
        have up : ∀ c o, H5 c = some o → (∀ C dx fs, o ≠ .ins C dx fs) → (∀ kvs, o ≠ .dK kvs) → (upd H5 ca (.dK (putK kc (Sum.inr r.t) (.ref va)))) c = some o := fun c o e _ n2 => by
          rw [upd_ne fun z => ?_]
          · exact e
          · rw [z, e5] at e
            exact n2 _ (Option.some.inj e).symm
        refine ⟨_, _, kc ++ [(Sum.inr r.t, .ref va)], rfl, fun c o e => by rw [upd_ne (ne_of_none e nca0)]; exact s5 _ _ (sm _ _ e), ?_, by rw [upd_same, putK_new _ hno], ?_⟩
        · have h5 := h4.to s5
          exact h5.other e5 cag cad
        · rw [okT_succ hr2, q1]
          exact Paired.snoc (Paired.mapP pr4 fun _ _ z => (z.to fun c o e _ _ => s5 c o e).to up) ⟨rfl, va, l, q1, rfl, up _ _ q3 (fun _ _ _ z => by cases z) (fun _ z => by cases z)⟩
    · rintro σ H4 ⟨x5, x6, kc, rfl, sm, h4, e4, pr4⟩
      rw [lenR, List.take_length] at pr4
      refine ⟨_, rfl, _, rfl, _, _, _, rfl, h4.obE, bk_failed .., x, A, ⟨R, G, rk, fuel, φ, ord⟩, rfl, h4, bok, fun H5 l ys s5 nl el pm so => ?_⟩
      refine ⟨(by show 2 ≤ sizeLine; decide), fun t nt => ?_⟩
      have up : ∀ {c o}, H4 c = some o → c ≠ A.don → (upd H5 t (.tup [.ref ca, .ref l])) c = some o := fun {c o} e q => upd_old (s5 c o e q) nt
      have don4 : ∃ kvs, H4 A.don = some (.dK kvs) := let ⟨kvs, d, _⟩ := h4.don; ⟨_, d⟩
      have dn : ∀ c o, H4 c = some o → (∀ kvs, o ≠ .dK kvs) → c ≠ A.don := fun c o e q z => by
        obtain ⟨kvs, d⟩ := don4
        rw [z, d] at e
        exact q _ (Option.some.inj e).symm
      refine k _ t ca l ys (fun c o e => up (sm _ _ e) (ne_of_none e nA0)) ⟨upd_same, ⟨kc, up e4 cad, Paired.mapP pr4 fun _ _ z => z.to fun c o e _ q => up e (dn c o e q)⟩, upd_old el nt, ?_, so⟩ nca0
      exact pm.trans ((ord_perm O ok ol).filter _)
end
end Q3

set_option Elab.async false
set_option linter.all false
set_option maxRecDepth 100000
set_option maxHeartbeats 4000000
/-! the law's cells and values -/
namespace Q3
open PySem PySem.Spec PyProof.Rows L2
structure TL (mg : Str → Option Value) : Prop where
  len : mg "len" = none
  range : mg "range" = none
  int : mg "int" = none
  tuple : mg "tuple" = none
  list : mg "list" = none
section
variable {P : Program} {w : World} {K : PySem.W.Frag} {mg : Str → Option Value} {base : Heap} {f : Addr} {fd : FuncData}
def spCell (K : PySem.W.Frag) : Sp := fun vs H Q _ => ∃ a, ∃ ns : List Int, ∃ k : Nat, vs = [.ref a, .int k] ∧ SqL K H a (ns.map V.int) ∧ ns.length ≤ 63 ∧ Q (.int (ns.getD k 0)) H
theorem ok_cell (F : Fun K "_law_cell" "_law_cell" sLcell f fd) (T : TL mg) : FnOk P w K mg base CX0 1 f fd ["_law_script", "_law_k"] (spCell K) := by
  refine F.ok scLcell (fun vs H Q E h => ?_) (fun cdv A outer s H vs Q E hr h => ?_)
  · obtain ⟨a, ns, k, rfl, _⟩ := h
    rfl
  · obtain ⟨a, ns, k, rfl, hS, hl, q⟩ := h
    refine ⟨_, pss_cons (ps_if (pt_cmpR op_lt (pv 1) (pe_callB call_len_seq (by rfl) T.len PySem.boot_len (pa_cons (pv 0) pa_nil)) (nomark _)) (pss_one (ps_ret (pe_ix ix_list (pv 0) (pv 1) (fun _ _ => rfl)))) pss_nil)
      (pss_one (ps_ret pe_int)), ?_⟩
    refine ⟨_, rfl, _, rfl, _, _, rfl, .inl hS, _, _, rfl, rfl, _, rfl, ?_⟩
    rw [List.length_map]
    by_cases hk : k < ns.length
    · rw [decide_eq_true (by omega)]
      refine iteT ⟨_, rfl, _, rfl, _, _, _, .int ns[k], rfl, rfl, hS, atI_nat (j := k) ?_, ?_⟩
      · rw [List.getElem?_map, List.getElem?_eq_getElem hk]; rfl
      · have : ns.getD k 0 = ns[k] := by rw [List.getD_eq_getElem?_getD, List.getElem?_eq_getElem hk]; rfl
        rw [this] at q
        exact q
    · rw [decide_eq_false (by omega)]
      have : ns.getD k 0 = 0 := by rw [List.getD_eq_getElem?_getD, List.getElem?_eq_none (by omega)]; rfl
      rw [this] at q
      exact iteF q
def spValues : Sp := fun vs H Q _ => ∃ c : Int, ∃ n z : Nat, vs = [.int c, .int n, .int z] ∧ n ≤ 1000 ∧ 0 < z ∧ z < 1000 ∧ ∀ H' l vals, Same H H' → H l = none → H' l = some (iL vals) → vals.length = n → (∀ v ∈ vals, 0 ≤ v ∧ v < (z : Int)) → Q (.ref l) H'
theorem ok_values (F : Fun K "_law_values" "_law_values" sLvalues f fd) (T : TL mg) : FnOk P w K mg base CX0 1 f fd ["_law_cell_here", "_law_count", "_law_size"] spValues := by
  refine F.ok scLvalues (fun vs H Q E h => ?_) (fun cdv A outer s H vs Q E hr h => ?_)
  · obtain ⟨c, n, z, rfl, _⟩ := h
    rfl
  · obtain ⟨c, n, z, rfl, hn, hz, hz2, q⟩ := h
    have nd := scLvalues.nd
    refine ⟨_, pss_cons (ps_set (i := 3) nd rfl (.inl rfl) (pe_lst pa_nil))
      (pss_cons (ps_set (i := 4) nd rfl (.inl rfl) (pv 0))
      (pss_cons (ps_for PassesOwn.never rfl (pi_range1 rfl T.range (pa_cons (pv 1) pa_nil)) (pg_name (i := 5) nd rfl (.inl rfl))
        (pss_one (ps_if (pt_cmpR op_ge (pv 4) (pe_op op_pow pe_int pe_int) (nomark _))
          (pss_cons (ps_expr (pe_bm PySem.F.plainAttrs_list PySem.F.slot_list_append PySem.F.type_list_append mt_append (pv 3) (pa_cons (pe_op op_mod (pe_callTy call_int1 (by rfl) T.int (by decide +kernel) (pa_cons (pv 4) pa_nil)) (pv 2)) pa_nil)))
          (pss_one (ps_set (i := 4) nd rfl (.inl rfl) (pe_op op_fdiv (pv 4) (pv 2)))))
          (pss_cons (ps_set (i := 6) nd rfl (.inl rfl) (pe_op op_mod (pe_op op_add (pe_op op_add (pe_op op_mul (pe_op op_mod (pe_callTy call_int1 (by rfl) T.int (by decide +kernel) (pa_cons (pv 0) pa_nil)) pe_int) pe_int) (pe_op op_mul (pv 5) pe_int)) pe_int) pe_int))
          (pss_one (ps_expr (pe_bm PySem.F.plainAttrs_list PySem.F.slot_list_append PySem.F.type_list_append mt_append (pv 3) (pa_cons (pe_op op_mod (pe_op op_mod (pe_op op_mul (pv 6) pe_int) pe_int) (pv 2)) pa_nil))))))))
      (pss_one (ps_ret (pv 3))))), ?_⟩
    refine ⟨Nat.zero_le _, fun l hl => ⟨_, rfl, ⟨_, rfl, n, rfl, by omega, by omega, ?_⟩⟩⟩
    refine for_range (fun i σ H' => ∃ x4 x5 x6 vals, σ = [some (.int c), some (.int n), some (.int z), some (.ref l), some (.int x4), x5, x6] ∧ H' = upd H l (iL vals) ∧ vals.length = i ∧ ∀ v ∈ vals, 0 ≤ v ∧ v < (z : Int)) ?_ ?_ ?_
    · exact ⟨c, none, none, [], rfl, rfl, rfl, fun v h => (List.not_mem_nil h).elim⟩
    · rintro i σ H' hi ⟨x4, x5, x6, vals, rfl, rfl, rfl, hv⟩
      have e0 : (upd H l (iL vals)) l = some (iL vals) := upd_same
      have add : ∀ v : Int, 0 ≤ v → v < (z : Int) → (upd (upd H l (iL vals)) l (.lst (vals.map V.int ++ [.int v]))) = upd H l (iL (vals ++ [v])) ∧ (vals ++ [v]).length = vals.length + 1 ∧ ∀ u ∈ vals ++ [v], 0 ≤ u ∧ u < (z : Int) := fun v h1 h2 => by
        refine ⟨?_, by rw [List.length_append]; rfl, fun u hu => ?_⟩
        · funext b
          by_cases e : b = l
          · rw [e, upd_same, upd_same]
            show _ = some (HO.lst ((vals ++ [v]).map V.int))
            rw [List.map_append]
            rfl
          · rw [upd_ne e, upd_ne e, upd_ne e]
        · rcases List.mem_append.mp hu with h | h
          · exact hv u h
          · rw [List.mem_singleton.mp h]; exact ⟨h1, h2⟩
      have ll : (vals.map V.int).length < sizeLine := by rw [List.length_map, sizeLine_eq]; omega
      refine ⟨_, rfl, _, _, rfl, rfl, ⟨by decide, by decide, by decide⟩, _, _, rfl, rfl, _, rfl, ?_⟩
      by_cases hx : (10 : Int) ^ (12 : Int).toNat ≤ x4
      · rw [decide_eq_true hx]
        have hb := add (x4 % (z : Int)) (Int.emod_nonneg _ (by omega)) (Int.emod_lt_of_pos _ (by omega))
        refine iteT ⟨_, rfl, .inl ⟨rfl, _, SqL.of e0⟩, _, rfl, .inl ⟨_, rfl, _, rfl, _, _, rfl, rfl, (by omega), l, _, _, rfl, rfl, e0, ll, ?_⟩⟩
        refine ⟨_, rfl, _, rfl, _, _, rfl, rfl, ⟨by omega, by omega⟩, ?_⟩
        exact ⟨_, _, _, _, rfl, hb.1, hb.2.1, hb.2.2⟩
      · rw [decide_eq_false hx]
        refine iteF ⟨_, rfl, .inl ⟨_, rfl, _, _, rfl, rfl, (by omega), _, _, rfl, rfl, .inr ⟨by decide, by decide⟩, _, rfl, _, _, rfl, rfl, .inr ⟨by decide, by decide⟩, _, _, rfl, rfl, _, _, rfl, rfl, _, _, rfl, rfl, (by omega), ?_⟩⟩
        refine ⟨_, rfl, .inl ⟨rfl, _, SqL.of e0⟩, _, rfl, _, _, rfl, rfl, .inr ⟨by decide, by decide⟩, _, _, rfl, rfl, (by omega), _, rfl, _, _, rfl, rfl, (by omega), l, _, _, rfl, rfl, e0, ll, ?_⟩
        refine ⟨_, _, _, _, rfl, (add _ ?_ ?_).1, (add _ ?_ ?_).2.1, (add _ ?_ ?_).2.2⟩
        all_goals first | exact Int.emod_nonneg _ (by omega) | exact Int.emod_lt_of_pos _ (by omega)
    · rintro σ H' ⟨x4, x5, x6, vals, rfl, rfl, e, hv⟩
      exact ⟨_, rfl, q _ l vals (Same.one hl) hl upd_same (by omega) hv⟩
end
end Q3

set_option Elab.async false
set_option linter.all false
set_option maxRecDepth 100000
set_option maxHeartbeats 4000000
/-! the law's names -/
namespace Q3
open PySem PySem.Spec PyProof.Rows L2
def lets : List Nat := (Str.ofString "abcdefghijklmnoprstuvwxyz").cps.toList
abbrev qS : Str := "q"
def nmS (b L a : Nat) : Str := repS qS b ++ ⟨#[L]⟩ ++ repS qS a
def fstO (s : Str) : Option Nat := s.cps.toList.find? fun c => decide (c ≠ 113)
theorem app_cps (x y : Str) : (x ++ y).cps.toList = x.cps.toList ++ y.cps.toList := by
  show (x.cps ++ y.cps).toList = _
  rw [Array.toList_append]
theorem rep_cps (n : Nat) : (repS qS n).cps.toList = List.replicate n 113 := by
  have e : qS.cps.toList = [113] := by decide +kernel
  show ((List.replicate n qS.cps.toList).flatten.toArray).toList = _
  rw [e, List.flatten_replicate_singleton]
theorem len_app (x y : Str) : (x ++ y).length = x.length + y.length := by
  show (x ++ y).cps.size = x.cps.size + y.cps.size
  rw [← Array.length_toList, app_cps, List.length_append, Array.length_toList, Array.length_toList]
theorem len_rep (n : Nat) : (repS qS n).length = n := by
  show (repS qS n).cps.size = n
  rw [← Array.length_toList, rep_cps, List.length_replicate]
theorem fst_rep (n L : Nat) (r : List Nat) (h : L ≠ 113) : (List.replicate n 113 ++ ([L] ++ r)).find? (fun c => decide (c ≠ 113)) = some L := by
  induction n with
  | zero =>
    show (L :: r).find? _ = _
    rw [List.find?_cons_of_pos (by simpa using h)]
  | succ n ih =>
    rw [List.replicate_succ, List.cons_append, List.find?_cons_of_neg (by simp)]
    exact ih
theorem fst_nm {b L a : Nat} (h : L ≠ 113) : fstO (nmS b L a) = some L := by
  unfold fstO nmS
  rw [app_cps, app_cps, rep_cps, rep_cps, List.append_assoc]
  exact fst_rep _ _ _ h
def nmK (vals : List Int) (k : Nat) : Str := nmS (vals.getD k 0 % 7).toNat (lets.getD ((vals.getD 24 0 + 7 * (k : Int)) % 25).toNat 0) (vals.getD (12 + k) 0 % 6).toNat
theorem lets_ne : ∀ i < 25, lets.getD i 0 ≠ 113 := by decide +kernel
theorem lets_two : ∀ r < 25, ∀ i < 12, ∀ j < 12, i ≠ j → lets.getD ((r + 7 * i) % 25) 0 ≠ lets.getD ((r + 7 * j) % 25) 0 := by decide +kernel
theorem idx_eq {v : Int} (h : 0 ≤ v) (k : Nat) : ((v + 7 * (k : Int)) % 25).toNat = ((v % 25).toNat + 7 * k) % 25 := by omega
theorem nm_nodup {vals : List Int} (h : 0 ≤ vals.getD 24 0) : ((List.range 12).map (nmK vals)).Nodup := by
  unfold List.Nodup
  rw [List.pairwise_map]
  refine List.Pairwise.imp_of_mem (R := fun a b => a ≠ b) (fun {a b} ha hb hne e => ?_) List.nodup_range
  have hr : ((vals.getD 24 0) % 25).toNat < 25 := by omega
  have h1 := lets_ne (((vals.getD 24 0 % 25).toNat + 7 * a) % 25) (Nat.mod_lt _ (by decide))
  have h2 := lets_ne (((vals.getD 24 0 % 25).toNat + 7 * b) % 25) (Nat.mod_lt _ (by decide))
  have e2 := congrArg fstO e
  unfold nmK at e2
  rw [idx_eq h a, idx_eq h b, fst_nm h1, fst_nm h2] at e2
  exact lets_two _ hr a (List.mem_range.mp ha) b (List.mem_range.mp hb) hne (Option.some.inj e2)
theorem nm_cps {vals : List Int} {k : Nat} : ∀ c ∈ (nmK vals k).cps.toList, c < 1114112 := by
  intro c hc
  unfold nmK nmS at hc
  rw [app_cps, app_cps, rep_cps, rep_cps] at hc
  have hL : ∀ i : Nat, lets.getD i 0 < 1114112 := fun i => by
    by_cases h : i < 25
    · have h2 : ∀ i < 25, lets.getD i 0 < 1114112 := by decide +kernel
      exact h2 i h
    · have h3 : lets.length = 25 := by decide +kernel
      rw [List.getD_eq_getElem?_getD, List.getElem?_eq_none (by omega)]
      decide
  rcases List.mem_append.mp hc with h | h
  · rcases List.mem_append.mp h with h | h
    · rw [List.eq_of_mem_replicate h]; decide
    · have : c = lets.getD ((vals.getD 24 0 + 7 * (k : Int)) % 25).toNat 0 := List.mem_singleton.mp h
      rw [this]; exact hL _
  · rw [List.eq_of_mem_replicate h]; decide
theorem getD_at {l : List Int} {i : Nat} (h : i < l.length) : (l.map V.int)[i]? = some (V.int (l.getD i 0)) := by
  rw [List.getElem?_map, List.getD_eq_getElem?_getD, List.getElem?_eq_getElem h]
  rfl
theorem getD_opt {l : List Nat} {i : Nat} (h : i < l.length) : l[i]? = some (l.getD i 0) := by
  rw [List.getD_eq_getElem?_getD, List.getElem?_eq_getElem h]
  rfl
theorem getD_mem {l : List Int} {i : Nat} (h : i < l.length) : l.getD i 0 ∈ l := by
  rw [List.getD_eq_getElem?_getD, List.getElem?_eq_getElem h]
  exact List.getElem_mem h
section
variable {P : Program} {w : World} {K : PySem.W.Frag} {mg : Str → Option Value} {base : Heap} {f : Addr} {fd : FuncData}
def spNames : Sp := fun vs H Q _ => ∃ c : Int, vs = [.int c] ∧ ∀ (H' : Hp) (l : Addr) (names : List Str), Same H H' → H l = none → H' l = some (.lst (names.map V.str)) → names.length = 12 → names.Nodup → (∀ x ∈ names, ∀ c ∈ x.cps.toList, c < 1114112) → Q (.ref l) H'
theorem ok_names (F : Fun K "_law_names" "_law_names" sLnames f fd) (T : TL mg) (GV : FOk P w K mg base "_law_values" 1 ["_law_cell_here", "_law_count", "_law_size"] spValues) : FnOk P w K mg base CX0 2 f fd ["_law_cell_here"] spNames := by
  refine F.ok scLnames (fun vs H Q E h => ?_) (fun cdv A outer s H vs Q E hr h => ?_)
  · obtain ⟨c, rfl, _⟩ := h
    rfl
  · obtain ⟨c, rfl, q⟩ := h
    have nd := scLnames.nd
    refine ⟨_, pss_cons (ps_set (i := 1) nd rfl (.inl rfl) pe_str)
      (pss_cons (ps_set (i := 2) nd rfl (.inl rfl) (pe_callF GV hr (by rfl) (pa_cons (pv 0) (pa_cons pe_int (pa_cons pe_int pa_nil)))))
      (pss_cons (ps_set (i := 3) nd rfl (.inl rfl) (pe_lst pa_nil))
      (pss_cons (ps_for PassesOwn.never rfl (pi_range1 rfl T.range (pa_cons pe_int pa_nil)) (pg_name (i := 4) nd rfl (.inl rfl))
        (pss_cons (ps_set (i := 5) nd rfl (.inl rfl) (pe_op op_mod (pe_ix ix_list (pv 2) (pv 4) (fun _ _ => rfl)) pe_int))
        (pss_cons (ps_set (i := 6) nd rfl (.inl rfl) (pe_op op_mod (pe_ix ix_list (pv 2) (pe_op op_add pe_int (pv 4)) (fun _ _ => rfl)) pe_int))
        (pss_one (ps_expr (pe_bm PySem.F.plainAttrs_list PySem.F.slot_list_append PySem.F.type_list_append mt_append (pv 3) (pa_cons
          (pe_op op_add_str (pe_op op_add_str (pe_op op_mul_si pe_str (pv 5)) (pe_ix ix_str (pv 1) (pe_op op_mod (pe_op op_add (pe_ix ix_list (pv 2) pe_int (fun _ _ => rfl)) (pe_op op_mul pe_int (pv 4))) pe_int) (fun _ _ => rfl))) (pe_op op_mul_si pe_str (pv 6))) pa_nil)))))))
      (pss_one (ps_ret (pv 3)))))), ?_⟩
    refine ⟨_, rfl, c, 25, 97, rfl, by decide, by decide, by decide, fun H1 lv vals s1 nv ev hv hb => ?_⟩
    refine ⟨Nat.zero_le _, fun l hl => ⟨12, rfl, by decide, by decide, ?_⟩⟩
    have hl0 := s1.free hl
    have nvl : lv ≠ l := fun z => by rw [← z, ev] at hl; cases hl
    refine for_range (fun i σ H' => ∃ x4 x5 x6, σ = [some (.int c), some (.str "abcdefghijklmnoprstuvwxyz"), some (.ref lv), some (.ref l), x4, x5, x6] ∧ H' = upd H1 l (.lst (((List.range i).map (nmK vals)).map V.str))) ?_ ?_ ?_
    · exact ⟨none, none, none, rfl, rfl⟩
    · rintro i σ H' hi ⟨x4, x5, x6, rfl, rfl⟩
      have hi12 : i < 12 := hi
      have e0 : (upd H1 l (.lst (((List.range i).map (nmK vals)).map V.str))) l = some (.lst (((List.range i).map (nmK vals)).map V.str)) := upd_same
      have ev1 : (upd H1 l (.lst (((List.range i).map (nmK vals)).map V.str))) lv = some (iL vals) := by rw [upd_ne nvl]; exact ev
      have b1 := hb _ (getD_mem (l := vals) (i := i) (by omega))
      have b2 := hb _ (getD_mem (l := vals) (i := 12 + i) (by omega))
      have b3 := hb _ (getD_mem (l := vals) (i := 24) (by omega))
      refine ⟨_, rfl, _, rfl, _, _, _, _, rfl, rfl, SqL.of ev1, at_of (j := i) (by omega) (getD_at (by omega)), _, _, rfl, rfl, (by show (0 : Int) < 7; decide), ?_⟩
      refine ⟨_, rfl, _, rfl, _, _, rfl, rfl, _, _, _, _, rfl, rfl, SqL.of ev1, at_of (j := 12 + i) (by omega) (getD_at (by omega)), _, _, rfl, rfl, (by show (0 : Int) < 6; decide), ?_⟩
      have hq : (qS : Str).length ≤ 100 := by decide +kernel
      have hj : ((vals.getD 24 0 + 7 * ((0 : Int) + (i : Nat))) % 25).toNat < 25 := by omega
      have hlet : lets[((vals.getD 24 0 + 7 * ((0 : Int) + (i : Nat))) % 25).toNat]? = some (lets.getD ((vals.getD 24 0 + 7 * ((0 : Int) + (i : Nat))) % 25).toNat 0) := by
        have : lets.length = 25 := by decide +kernel
        exact getD_opt (by omega)
      have hat : atI lets ((vals.getD 24 0 + 7 * ((0 : Int) + (i : Nat))) % 25) = some (lets.getD ((vals.getD 24 0 + 7 * ((0 : Int) + (i : Nat))) % 25).toNat 0) := by
        generalize hg : (vals.getD 24 0 + 7 * ((0 : Int) + (i : Nat))) % 25 = g at hlet hj ⊢
        have hg0 : 0 ≤ g := by omega
        have eg : g = ((g.toNat : Nat) : Int) := by omega
        rw [eg, Int.toNat_natCast]
        exact atI_nat hlet
      refine ⟨_, rfl, .inl ⟨rfl, _, SqL.of e0⟩, _, rfl, _, _, rfl, rfl, (by omega), (by omega), hq, _, rfl, _, rfl, _, _, _, _, rfl, rfl, SqL.of ev1, atI_nat (j := 24) (getD_at (by omega)), _, rfl, _, _, rfl, rfl, .inl ⟨by decide, by decide⟩, _, _, rfl, rfl, _, _, rfl, rfl, (by show (0 : Int) < 25; decide),
        _, (vals.getD 24 0 + 7 * ((0 : Int) + (i : Nat))) % 25, lets.getD ((vals.getD 24 0 + 7 * ((0 : Int) + (i : Nat))) % 25).toNat 0, rfl, rfl, (by decide +kernel), ?_, _, _, rfl, rfl, ?_, _, rfl, _, _, rfl, rfl, (by omega), (by omega), hq, _, _, rfl, rfl, ?_, l, _, _, rfl, rfl, e0, (by rw [List.length_map, List.length_map, List.length_range, sizeLine_eq]; omega), ?_⟩
      · exact hat
      · rw [len_rep]
        show _ + 1 ≤ sizeLine
        rw [sizeLine_eq]; omega
      · rw [len_app, len_rep, len_rep]
        show _ + 1 + _ ≤ sizeLine
        rw [sizeLine_eq]; omega
      · refine ⟨_, _, _, rfl, ?_⟩
        funext b
        by_cases e : b = l
        · rw [e, upd_same, upd_same, List.range_succ, List.map_append, List.map_append]
          show some (HO.lst (_ ++ [V.str (repS qS _ ++ ⟨#[lets.getD ((vals.getD 24 0 + 7 * ((0 : Int) + (i : Nat))) % 25).toNat 0]⟩ ++ repS qS _)])) = some (HO.lst (_ ++ [V.str (nmK vals i)]))
          rw [Int.zero_add]
          rfl
        · rw [upd_ne e, upd_ne e, upd_ne e]
    · rintro σ H' ⟨x4, x5, x6, rfl, rfl⟩
      exact ⟨_, rfl, q _ l _ (s1.trans (Same.one hl)) hl0 upd_same (by simp) (nm_nodup (hb _ (getD_mem (by omega))).1) (fun x hx => by
        obtain ⟨k, _, rfl⟩ := List.mem_map.mp hx
        exact nm_cps)⟩
end
end Q3

set_option Elab.async false
set_option linter.all false
set_option maxRecDepth 100000
set_option maxHeartbeats 4000000
/-! the law's given items -/
namespace Q3
open PySem PySem.Spec PyProof.Rows L2
def copyL : List Int := [0, 44, 0, 1, 1, 34, 0, 2, 2, 35, 0, 3, 3, 60, 0, 4, 4, 63, 5, 9, 5, 46, 0, 0]
def tailL : List Int := [5, 34, 0, 6, 6, 43, 0, 7, 7, 46, 0, 0]
def doubleL : List Int := copyL.take 20 ++ tailL
def loopL : List Int := [0, 32, 0, 0]
def nmD (names : List Str) (i : Nat) : Str := names.getD i ""
def givL (names : List Str) (nums : List Int) : List (Str × List Int) := [(nmD names 0, copyL), (nmD names 1, doubleL), (nmD names 2, loopL), (nmD names 3, []), (nmD names 4, nums)]
theorem nmD_at {names : List Str} {i : Nat} (h : i < names.length) : (names.map V.str)[i]? = some (V.str (nmD names i)) := by
  unfold nmD
  rw [List.getElem?_map, List.getD_eq_getElem?_getD, List.getElem?_eq_getElem h]
  rfl
theorem nmD_opt {names : List Str} {i : Nat} (h : i < names.length) : names[i]? = some (nmD names i) := by
  unfold nmD
  rw [List.getD_eq_getElem?_getD, List.getElem?_eq_getElem h]
  rfl
theorem nmD_ne {names : List Str} (nd : names.Nodup) {i j : Nat} (hi : i < names.length) (hj : j < names.length) (h : i ≠ j) : nmD names i ≠ nmD names j := fun e => by
  have h1 := nmD_opt hi
  have h2 := nmD_opt hj
  rw [e] at h1
  exact h (nd_ix nd h1 h2)
theorem mergeK_go : ∀ {kvs acc : List (Key × V)}, (acc.map (·.1) ++ kvs.map (·.1)).Nodup → mergeK acc kvs = acc ++ kvs
  | [], acc, _ => by simp [mergeK]
  | kv :: r, acc, h => by
    have hn : valV acc kv.1 = none := by
      cases e : valV acc kv.1 with
      | none => rfl
      | some v =>
        have hm := valV_in e
        have h2 := (List.nodup_append.mp h).2.2 _ hm kv.1 (by simp)
        exact absurd rfl h2
    have ih := mergeK_go (kvs := r) (acc := acc ++ [kv]) (by simpa using h)
    unfold mergeK at ih ⊢
    rw [List.foldl_cons, putK_new _ hn, ih]
    simp
section
variable {P : Program} {w : World} {K : PySem.W.Frag} {mg : Str → Option Value} {base : Heap} {f : Addr} {fd : FuncData}
def spGiven (K : PySem.W.Frag) : Sp := fun vs H Q _ => ∃ a, ∃ c : Int, ∃ names : List Str, vs = [.ref a, .int c] ∧ H a = some (.lst (names.map V.str)) ∧ names.length = 12 ∧ names.Nodup ∧
  ∀ (H' : Hp) (g : Addr) (nums : List Int) kvs, Same H H' → H g = none → H' g = some (.dK kvs) → Paired (GEnt H') (givL names nums) kvs → (∀ v ∈ nums, -1 ≤ v ∧ v ≤ 10) → nums.length ≤ 6 → Q (.ref g) H'
theorem ok_given (F : Fun K "_law_given" "_law_given" sLgiven f fd) (T : TL mg) (GV : FOk P w K mg base "_law_values" 1 ["_law_cell_here", "_law_count", "_law_size"] spValues) : FnOk P w K mg base CX0 2 f fd ["_law_names_here", "_law_cell_here"] (spGiven K) := by
  refine F.ok scLgiven (fun vs H Q E h => ?_) (fun cdv A outer s H vs Q E hr h => ?_)
  · obtain ⟨a, c, names, rfl, _⟩ := h
    rfl
  · obtain ⟨a, c, names, rfl, ea, ln, nn, q⟩ := h
    have nd := scLgiven.nd
    refine ⟨_, pss_cons (ps_set (i := 2) nd rfl (.inl rfl) (pe_lst (pa_cons pe_int (pa_cons pe_int (pa_cons pe_int (pa_cons pe_int (pa_cons pe_int (pa_cons pe_int (pa_cons pe_int (pa_cons pe_int (pa_cons pe_int (pa_cons pe_int (pa_cons pe_int (pa_cons pe_int (pa_cons pe_int (pa_cons pe_int (pa_cons pe_int (pa_cons pe_int (pa_cons pe_int (pa_cons pe_int (pa_cons pe_int (pa_cons pe_int (pa_cons pe_int (pa_cons pe_int (pa_cons pe_int (pa_cons pe_int pa_nil))))))))))))))))))))))))))
      (pss_cons (ps_set (i := 3) nd rfl (.inl rfl) (pe_op op_cat (pe_slice sl_list (pv 2) po_none (po_some pe_int)) (pe_lst (pa_cons pe_int (pa_cons pe_int (pa_cons pe_int (pa_cons pe_int (pa_cons pe_int (pa_cons pe_int (pa_cons pe_int (pa_cons pe_int (pa_cons pe_int (pa_cons pe_int (pa_cons pe_int (pa_cons pe_int pa_nil)))))))))))))))
      (pss_cons (ps_setLc (i := 4) (own := [("_law_value", 5)]) (g := gName 5) (tt := tYes) (te := tOp (rI0 fun i j => .int (i - j)) (tVar 5) (tC (.int 1))) rfl nd rfl rfl (sw_true rfl rfl rfl rfl)
          (pi_list (pe_callF GV hr (by rfl) (pa_cons (pv 1) (pa_cons (pe_op op_mod (pv 1) pe_int) (pa_cons pe_int pa_nil)))))
          (blkOk_by (N := ["_law_names_here", "_law_cell_here", "_law_copy", "_law_double", "_law_numbers", "_law_value"]) (sc := defScope sLgiven) (by decide +kernel))
          (fun _ _ _ _ _ => pg_name (i := 5) nd rfl (Or.inl rfl)) (fun _ _ _ _ _ => pts_nil) (fun _ _ _ _ _ => pe_op op_sub (pv 5) pe_int))
      (pss_one (ps_ret (pe_disp (pps_cons (pe_ix ix_list (pv 0) pe_int (fun _ _ => rfl)) (pv 2) (pps_cons (pe_ix ix_list (pv 0) pe_int (fun _ _ => rfl)) (pv 3)
        (pps_cons (pe_ix ix_list (pv 0) pe_int (fun _ _ => rfl)) (pe_lst (pa_cons pe_int (pa_cons pe_int (pa_cons pe_int (pa_cons pe_int pa_nil))))) (pps_cons (pe_ix ix_list (pv 0) pe_int (fun _ _ => rfl)) (pe_lst pa_nil) (pps_cons (pe_ix ix_list (pv 0) pe_int (fun _ _ => rfl)) (pv 4) pps_nil)))))
        rfl rfl (by intro z; cases z) (by decide)))))), ?_⟩
    refine ⟨(by show 24 ≤ sizeLine; decide), fun lc nc => ?_⟩
    have s1 : Same H (upd H lc (iL copyL)) := Same.one nc
    have ec : (upd H lc (iL copyL)) lc = some (iL copyL) := upd_same
    refine ⟨_, rfl, _, rfl, _, _, rfl, SqL.of ec, fun lt nt => ?_⟩
    have s2 := s1.trans (Same.one (u := .lst (cutV (copyL.map V.int) none (some 20))) nt)
    have et : cutV (copyL.map V.int) none (some 20) = (copyL.take 20).map V.int := by decide +kernel
    refine ⟨(by show 12 ≤ sizeLine; decide), fun lx nx => ?_⟩
    have s3 := s2.trans (Same.one (u := iL tailL) nx)
    refine ⟨lt, lx, _, _, rfl, rfl, upd_old upd_same nx, upd_same, (by decide +kernel), fun ld nd2 => ?_⟩
    have ed : cutV (copyL.map V.int) none (some 20) ++ tailL.map V.int = doubleL.map V.int := by decide +kernel
    have s4 := s3.trans (Same.one (u := .lst (cutV (copyL.map V.int) none (some 20) ++ tailL.map V.int)) nd2)
    refine ⟨_, rfl, _, rfl, _, _, rfl, rfl, (by show (0 : Int) < 7; decide), c, (c % 7).toNat, 12, (by rw [Int.toNat_of_nonneg (Int.emod_nonneg _ (by decide))]; rfl), (by omega), by decide, by decide, fun H5 lv vals s5 nv ev hv hb => ?_⟩
    have s45 := s4.trans s5
    refine ⟨lv, rfl, ⟨_, SqL.of ev⟩, fun D hD => lc_list (K := K) (a := lv) (xs := vals.map V.int) (fun i H6 => Same H5 H6 ∧ H6 D = some (iL ((vals.take i).map fun v => v - 1))) ?_ ?_ ?_ ?_⟩
    · exact ⟨Same.one hD, upd_same⟩
    · rintro i H6 _ ⟨s6, _⟩
      exact SqL.of (s6 _ _ ev)
    · rintro i x H6 hx ⟨s6, e6⟩
      rw [List.getElem?_map] at hx
      obtain ⟨v, hv2, rfl⟩ := Option.map_eq_some_iff.mp hx
      have hi := (List.getElem?_eq_some_iff.mp hv2).1
      refine ⟨rfl, ?_⟩
      refine ⟨_, rfl, _, _, rfl, rfl, _, e6, ?_, ?_, ?_⟩
      · rw [List.length_map, List.length_map, List.length_take, sizeLine_eq]; omega
      · intro b o hb'
        rw [upd_ne (ne_of_none hb' hD)]
        exact s6 _ _ hb'
      · rw [upd_same, List.take_add_one, hv2]
        show _ = some (HO.lst _)
        rw [List.map_append, List.map_append]
        rfl
    · rintro H6 ⟨s6, e6⟩
      rw [List.length_map, List.take_length] at e6
      have s46 := s45.trans s6
      intro p np
      have s7 := s46.trans (Same.one (u := .dK []) np)
      have np0 := s46.free np
      have hL : ∀ {H' : Hp}, Same H H' → SqL K H' a (names.map V.str) := fun s => SqL.of (s _ _ ea)
      refine ⟨_, rfl, _, _, _, _, rfl, rfl, hL s7, atI_nat (j := 0) (nmD_at (by omega)), _, rfl, _, rfl, _, _, _, _, rfl, rfl, hL s7, atI_nat (j := 1) (nmD_at (by omega)), _, rfl, _, rfl, _, _, _, _, rfl, rfl, hL s7, atI_nat (j := 2) (nmD_at (by omega)), ?_⟩
      refine ⟨(by show 4 ≤ sizeLine; decide), fun la na => ?_⟩
      have s8 := s7.trans (Same.one (u := iL loopL) na)
      refine ⟨_, rfl, _, _, _, _, rfl, rfl, hL s8, atI_nat (j := 3) (nmD_at (by omega)), (by show 0 ≤ sizeLine; decide), fun lb nb => ?_⟩
      have s9 := s8.trans (Same.one (u := iL []) nb)
      refine ⟨_, rfl, _, _, _, _, rfl, rfl, hL s9, atI_nat (j := 4) (nmD_at (by omega)), _, rfl, ?_⟩
      have ec6 : H6 lc = some (iL copyL) := s6 _ _ (s5 _ _ (upd_old (upd_old (upd_old ec nt) nx) nd2))
      have ed6 : H6 ld = some (iL doubleL) := by
        refine s6 _ _ (s5 _ _ ?_)
        rw [upd_same]
        show some (HO.lst (cutV (copyL.map V.int) none (some 20) ++ tailL.map V.int)) = some (HO.lst (doubleL.map V.int))
        rw [ed]
      have pla : la ≠ p := fun z => by rw [z, upd_same] at na; cases na
      have plb : lb ≠ p := fun z => by rw [z, upd_old upd_same na] at nb; cases nb
      have nd5 : (([(Sum.inr (nmD names 0), .ref lc), (Sum.inr (nmD names 1), .ref ld), (Sum.inr (nmD names 2), .ref la), (Sum.inr (nmD names 3), .ref lb), (Sum.inr (nmD names 4), .ref D)] : List (Key × V)).map (·.1)).Nodup := by
        have h : ∀ i j, i < 5 → j < 5 → i ≠ j → (Sum.inr (nmD names i) : Key) ≠ Sum.inr (nmD names j) := fun i j hi hj hne e => nmD_ne nn (by omega) (by omega) hne (Sum.inr.inj e)
        simp only [List.map_cons, List.map_nil, List.nodup_cons, List.mem_cons, List.not_mem_nil, or_false, not_or]
        refine ⟨⟨h 0 1 (by decide) (by decide) (by decide), h 0 2 (by decide) (by decide) (by decide), h 0 3 (by decide) (by decide) (by decide), h 0 4 (by decide) (by decide) (by decide)⟩, ⟨h 1 2 (by decide) (by decide) (by decide), h 1 3 (by decide) (by decide) (by decide), h 1 4 (by decide) (by decide) (by decide)⟩, ⟨h 2 3 (by decide) (by decide) (by decide), h 2 4 (by decide) (by decide) (by decide)⟩, h 3 4 (by decide) (by decide) (by decide), fun z => z, List.nodup_nil⟩
      refine ⟨upd_old (upd_old upd_same na) nb, [(Sum.inr (nmD names 0), .ref lc), (Sum.inr (nmD names 1), .ref ld), (Sum.inr (nmD names 2), .ref la), (Sum.inr (nmD names 3), .ref lb), (Sum.inr (nmD names 4), .ref D)], rfl, (by show 5 ≤ 15; decide), ?_⟩
      rw [mergeK_go (acc := []) (by simpa using nd5)]
      have up : ∀ c o, H6 c = some o → (upd (upd (upd (upd H6 p (.dK [])) la (iL loopL)) lb (iL [])) p (.dK ([] ++ [(Sum.inr (nmD names 0), .ref lc), (Sum.inr (nmD names 1), .ref ld), (Sum.inr (nmD names 2), .ref la), (Sum.inr (nmD names 3), .ref lb), (Sum.inr (nmD names 4), .ref D)]))) c = some o := fun c o e => by
        rw [upd_ne (ne_of_none e np)]
        exact upd_old (upd_old (upd_old e np) na) nb
      refine q _ p (vals.map fun v => v - 1) _ (fun c o e => up _ _ (s46 _ _ e)) np0 upd_same (.cons ⟨rfl, lc, rfl, up _ _ ec6⟩ (.cons ⟨rfl, ld, rfl, up _ _ ed6⟩ (.cons ⟨rfl, la, rfl, by rw [upd_ne pla]; exact upd_old upd_same nb⟩ (.cons ⟨rfl, lb, rfl, by rw [upd_ne plb]; exact upd_same⟩ (.cons ⟨rfl, D, rfl, up _ _ e6⟩ .nil))))) (fun v hv3 => ?_) ?_
      · obtain ⟨u, hu, rfl⟩ := List.mem_map.mp hv3
        have := hb u hu
        omega
      · rw [List.length_map]; omega
end
end Q3

set_option Elab.async false
set_option linter.all false
set_option maxRecDepth 100000
set_option maxHeartbeats 4000000
/-! the law's plan -/
namespace Q3
open PySem PySem.Spec PyProof.Rows L2
def knownL (names : List Str) (k : Nat) : List Str := (names.drop 4).take (1 + k)
def rowL (vals : List Int) (k : Nat) : List Int := (vals.drop (6 * k)).take 6
theorem cut_nat {α : Type} (g : α → V) {l : List α} {a b : Nat} (ha : a ≤ b) (hb : b ≤ l.length) {x y : Int} (ex : x = (a : Nat)) (ey : y = (b : Nat)) : cutV (l.map g) (some x) (some y) = ((l.drop a).take (b - a)).map g := by
  subst ex ey
  unfold cutV
  rw [HT.sIx_nat, HT.sIx_nat, List.length_map, Nat.min_eq_left (by omega), Nat.min_eq_left (by omega), ← List.map_drop, ← List.map_take]
theorem cut_known {names : List Str} {k : Nat} (ln : names.length = 12) (hk : k < 7) : cutV (names.map V.str) (some 4) (some (5 + (0 + (k : Int)))) = (knownL names k).map V.str := by
  rw [cut_nat V.str (a := 4) (b := 5 + k) (x := 4) (y := 5 + (0 + (k : Int))) (by omega) (by omega) rfl (by omega)]
  unfold knownL
  congr 2
  omega
theorem cut_row {vals : List Int} {k n : Nat} (lv : vals.length = 6 * n) (hk : k < n) : cutV (vals.map V.int) (some (6 * (0 + (k : Int)))) (some (6 * (0 + (k : Int)) + 6)) = (rowL vals k).map V.int := by
  rw [cut_nat V.int (a := 6 * k) (b := 6 * k + 6) (x := 6 * (0 + (k : Int))) (y := 6 * (0 + (k : Int)) + 6) (by omega) (by omega) (by omega) (by omega)]
  unfold rowL
  congr 2
  omega
theorem rowL_len {vals : List Int} {k n : Nat} (lv : vals.length = 6 * n) (hk : k < n) : (rowL vals k).length = 6 := by
  unfold rowL
  rw [List.length_take, List.length_drop]
  omega
theorem rowL_mem {vals : List Int} {k : Nat} {v : Int} (h : v ∈ rowL vals k) : v ∈ vals := List.mem_of_mem_drop (List.mem_of_mem_take h)
theorem knownL_len {names : List Str} {k : Nat} (ln : names.length = 12) (hk : k < 7) : (knownL names k).length = 1 + k := by
  unfold knownL
  rw [List.length_take, List.length_drop]
  omega
theorem knownL_at {names : List Str} {k j : Nat} (ln : names.length = 12) (hk : k < 7) (hj : j < 1 + k) : (knownL names k)[j]? = some (nmD names (4 + j)) := by
  unfold knownL
  rw [List.getElem?_take, if_pos hj, List.getElem?_drop]
  exact nmD_opt (by omega)
theorem kn_mod {names : List Str} {k : Nat} (ln : names.length = 12) (hk : k < 7) {x : Int} (hx : 0 ≤ x) : atI ((knownL names k).map V.str) (x % (((knownL names k).map V.str).length : Int)) = some (V.str (nmD names (4 + (x % (((knownL names k).map V.str).length : Int)).toNat))) ∧
    (x % (((knownL names k).map V.str).length : Int)).toNat ≤ k ∧ (0 : Int) < (((knownL names k).map V.str).length : Int) := by
  have e : (((knownL names k).map V.str).length : Int) = 1 + k := by
    rw [List.length_map, knownL_len ln hk]
    omega
  rw [e]
  have h1 : 0 ≤ x % (1 + (k : Int)) := Int.emod_nonneg _ (by omega)
  have h2 : x % (1 + (k : Int)) < 1 + k := Int.emod_lt_of_pos _ (by omega)
  generalize x % (1 + (k : Int)) = g at h1 h2 ⊢
  refine ⟨?_, by omega, by omega⟩
  refine at_of (j := g.toNat) (by omega) ?_
  rw [List.getElem?_map, knownL_at ln hk (by omega)]
  rfl
/-- the k-th rule -/
structure RuleOk (names : List Str) (k : Nat) (r : Rl) : Prop where
  t : r.t = nmD names (5 + k)
  tool : ∃ j, j ≤ 4 + k ∧ r.tool = nmD names j
  src : ∀ s ∈ r.src, ∃ j, 4 ≤ j ∧ j ≤ 4 + k ∧ s = nmD names j
  len : r.src.length ≤ 3
def RulesOk (names : List Str) (n : Nat) (R : List Rl) : Prop := R.length = n ∧ ∀ k r, R[k]? = some r → RuleOk names k r
theorem paired_perm {α β : Type} {F : α → β → Prop} {l l' : List α} (h : l.Perm l') : ∀ {m : List β}, Paired F l m → ∃ m', Paired F l' m' ∧ m'.Perm m := by
  induction h with
  | nil => intro m p; exact ⟨m, p, .refl _⟩
  | cons x _ ih =>
    intro m p
    cases p with
    | cons f t =>
      obtain ⟨m', h1, h2⟩ := ih t
      exact ⟨_, .cons f h1, h2.cons _⟩
  | swap x y l =>
    intro m p
    cases p with
    | cons f t => cases t with
      | cons g t2 => exact ⟨_, .cons g (.cons f t2), .swap _ _ _⟩
  | trans _ _ ih1 ih2 =>
    intro m p
    obtain ⟨m1, h1, h2⟩ := ih1 p
    obtain ⟨m2, h3, h4⟩ := ih2 h1
    exact ⟨m2, h3, h4.trans h2⟩
theorem ins_perm {α : Type} (l : List α) (x : α) (j : Nat) : (l.take j ++ [x] ++ l.drop j).Perm (l ++ [x]) := by
  have h1 : (l.take j ++ [x] ++ l.drop j).Perm (l.take j ++ (l.drop j ++ [x])) := by
    rw [List.append_assoc]
    exact List.Perm.append_left _ List.perm_append_comm
  rw [← List.append_assoc, List.take_append_drop] at h1
  exact h1
/-- an if with no else, both ways into one -/
theorem if_cont {b : Bool} {ta : TS} {D : Ends} {σ : L2.St} {H : Hp} (S : L2.St → Prop) (hall : ∀ σ', S σ' → D.nx σ' H) (h1 : (∀ σ', S σ' → D.nx σ' H) → ta D σ H) (h0 : S σ) : if b = true then ta D σ H else tNext D σ H := by
  cases b with
  | true => exact iteT (h1 hall)
  | false => exact iteF (hall σ h0)
def sel : List Nat := [0, 1, 0, 1, 3, 2]
theorem sel_at : ∀ m : Nat, m < 6 → ([.int 0, .int 1, .int 0, .int 1, .int 3, .int 2] : List V)[m]? = some (V.int ((sel.getD m 0 : Nat) : Int)) ∧ sel.getD m 0 < 4
  | 0, _ => ⟨rfl, by decide⟩
  | 1, _ => ⟨rfl, by decide⟩
  | 2, _ => ⟨rfl, by decide⟩
  | 3, _ => ⟨rfl, by decide⟩
  | 4, _ => ⟨rfl, by decide⟩
  | 5, _ => ⟨rfl, by decide⟩
  | n + 6, h => absurd h (by omega)
section
variable {P : Program} {w : World} {K : PySem.W.Frag} {mg : Str → Option Value} {base : Heap} {f : Addr} {fd : FuncData}
def spLPlan : Sp := fun vs H Q _ => ∃ a, ∃ c s : Int, ∃ n : Nat, ∃ names : List Str, vs = [.ref a, .int c, .int s, .int n, .bl true] ∧ H a = some (.lst (names.map V.str)) ∧ names.length = 12 ∧ n ≤ 7 ∧
  ∀ (H' : Hp) (p : Addr) (R R0 : List Rl), Same H H' → H p = none → PlanAt H' p R → R.Perm R0 → RulesOk names n R0 → Q (.ref p) H'
theorem ok_lplan (F : Fun K "_law_plan" "_law_plan" sLplan f fd) (T : TL mg) (GV : FOk P w K mg base "_law_values" 1 ["_law_cell_here", "_law_count", "_law_size"] spValues) :
    FnOk P w K mg base CX0 2 f fd ["_law_names_here", "_law_cell_here", "_law_second", "_law_count", "_law_free"] spLPlan := by
  refine F.ok scLplan (fun vs H Q E h => ?_) (fun cdv A outer s H vs Q E hr h => ?_)
  · obtain ⟨a, c, s, n, names, rfl, _⟩ := h
    rfl
  · obtain ⟨a, c, s, n, names, rfl, ea, ln, hn, q⟩ := h
    have nd := scLplan.nd
    refine ⟨_, (pss_cons (ps_set (i := 5) nd rfl (.inl rfl) (pe_callF GV hr (by rfl) (pa_cons (pv 1) (pa_cons (pe_op op_mul pe_int (pv 3)) (pa_cons pe_int pa_nil)))))
      (pss_cons (ps_set (i := 6) nd rfl (.inl rfl) (pe_lst pa_nil))
      (pss_cons (ps_for PassesOwn.never rfl (pi_range1 (by rfl) T.range (pa_cons (pv 3) pa_nil)) (pg_name (i := 7) nd rfl (.inl rfl)) (pss_cons (ps_set (i := 8) nd rfl (.inr rfl) (pe_slice sl_list (pv 5) (po_some (pe_op op_mul pe_int (pv 7))) (po_some (pe_op op_add (pe_op op_mul pe_int (pv 7)) pe_int))))
      (pss_cons (ps_set (i := 9) nd rfl (.inr rfl) (pe_slice sl_list (pv 0) (po_some pe_int) (po_some (pe_op op_add pe_int (pv 7)))))
      (pss_cons (ps_set (i := 10) nd rfl (.inl rfl) (pe_ix ix_list (pv 0) (pe_ix ix_list (pe_lst (pa_cons pe_int (pa_cons pe_int (pa_cons pe_int (pa_cons pe_int (pa_cons pe_int (pa_cons pe_int pa_nil))))))) (pe_op op_mod (pe_ix ix_list (pv 8) pe_int (fun _ _ => rfl)) pe_int) (fun _ _ => rfl)) (fun _ _ => rfl)))
      (pss_cons (ps_if (PW.pt (pw_and (pt_val (pv 4)) (pw_and1 (pt_cmpR op_eq (pe_op op_mod (pe_op op_fdiv (pe_ix ix_list (pv 8) pe_int (fun _ _ => rfl)) pe_int) pe_int) pe_int (nomark _))))) (pss_one (ps_set (i := 10) nd rfl (.inl rfl) (pe_ix ix_list (pv 9) (pe_op op_mod (pe_op op_fdiv (pe_ix ix_list (pv 8) pe_int (fun _ _ => rfl)) pe_int) (pe_callB call_len_seq (by rfl) T.len PySem.boot_len (pa_cons (pv 9) pa_nil))) (fun _ _ => rfl)))) pss_nil)
      (pss_cons (ps_setLc (i := 11) (own := [("_law_j", 14)]) (g := gName 14) (tt := tYes) (te := tOp (rIxL K) (tVar 9) (tOp (rI (fun _ j => 0 < j) fun i j => .int (i % j)) (tOp (rIxL K) (tVar 8) (tOp (rI0 fun i j => .int (i + j)) (tC (.int 2)) (tVar 14))) (tCB (rLenK K) (tCons (tVar 9) tNil)))) rfl nd rfl rfl (sw_true rfl rfl rfl rfl) (pi_range1 (by rfl) T.range (pa_cons (pe_op op_mod (pe_ix ix_list (pv 8) pe_int (fun _ _ => rfl)) pe_int) pa_nil))
          (blkOk_by (N := ["_law_names_here", "_law_cell_here", "_law_second", "_law_count", "_law_free", "_law_values_here", "_law_rules", "_law_k", "_law_row", "_law_known", "_law_tool", "_law_sources", "_law_moves", "_law_plan_here", "_law_j"]) (sc := defScope sLplan) (by decide +kernel)) (fun _ _ _ _ _ => pg_name (i := 14) nd rfl (Or.inl rfl)) (fun _ _ _ _ _ => pts_nil) (fun _ _ _ _ _ => (pe_ix (ix_listK (K := K)) (pv 9) (pe_op op_mod (pe_ix (ix_listK (K := K)) (pv 8) (pe_op op_add pe_int (pv 14)) (fun _ _ => rfl)) (pe_callB (call_lenK (K := K)) (by rfl) T.len PySem.boot_len (pa_cons (pv 9) pa_nil))) (fun _ _ => rfl))))
      (pss_one (ps_expr (pe_bm PySem.F.plainAttrs_list PySem.F.slot_list_append PySem.F.type_list_append mt_append (pv 6) (pa_cons (pe_tup (pa_cons (pe_ix ix_list (pv 0) (pe_op op_add pe_int (pv 7)) (fun _ _ => rfl)) (pa_cons (pv 10) (pa_cons (pe_callTy call_tuple_of (by rfl) T.tuple (by decide +kernel) (pa_cons (pv 11) pa_nil)) pa_nil)))) pa_nil))))))))))
      (pss_cons (ps_set (i := 12) nd rfl (.inl rfl) (pe_callF GV hr (by rfl) (pa_cons (pv 2) (pa_cons (pv 3) (pa_cons pe_int pa_nil)))))
      (pss_cons (ps_set (i := 13) nd rfl (.inl rfl) (pe_lst pa_nil))
      (pss_cons (ps_for PassesOwn.never rfl (pi_range1 (by rfl) T.range (pa_cons (pv 3) pa_nil)) (pg_name (i := 7) nd rfl (.inl rfl)) (pss_one (ps_expr (pe_bm PySem.F.plainAttrs_list PySem.F.slot_list_insert PySem.F.type_list_insert mt_insert (pv 13) (pa_cons (pe_op op_mod (pe_ix ix_list (pv 12) (pv 7) (fun _ _ => rfl)) (pe_op op_add (pe_callB call_len_seq (by rfl) T.len PySem.boot_len (pa_cons (pv 13) pa_nil)) pe_int)) (pa_cons (pe_ix ix_list (pv 6) (pv 7) (fun _ _ => rfl)) pa_nil))))))
      (pss_one (ps_ret (pv 13))))))))), ?_⟩
    refine ⟨_, rfl, _, rfl, _, _, rfl, rfl, .inl ⟨by decide, by decide⟩, c, 6 * n, 997, rfl, (by omega), by decide, by decide, fun H1 lv vals s1 nv ev hv hb => ?_⟩
    refine ⟨Nat.zero_le _, fun lr nr => ⟨_, rfl, n, rfl, by omega, by omega, ?_⟩⟩
    have nr0 := s1.free nr
    have nvr : lv ≠ lr := fun z => by rw [← z, ev] at nr; cases nr
    refine for_range (fun i σ H' => ∃ x7 x8 x9 x10 x11 as R0, σ = [some (.ref a), some (.int c), some (.int s), some (.int n), some (.bl true), some (.ref lv), some (.ref lr), x7, x8, x9, x10, x11, none, none, none] ∧ Same H1 H' ∧ H' lr = some (.lst (as.map V.ref)) ∧ Paired (RuleAt H') as R0 ∧ RulesOk names i R0) ?_ ?_ ?_
    · exact ⟨none, none, none, none, none, [], [], rfl, Same.one nr, upd_same, .nil, rfl, fun k r h => by cases h⟩
    · rintro i σ H' hi ⟨x7, x8, x9, x10, x11, as, R0, rfl, sm, er, pr, ok⟩
      have hin : i < n := by simpa using hi
      refine ⟨_, rfl, _, rfl, _, _, rfl, rfl, .inl ⟨by decide, by decide⟩, _, rfl, _, rfl, _, _, rfl, rfl, .inl ⟨by decide, by decide⟩, _, _, rfl, rfl, _, rfl, lv, _, rfl, SqL.of (sm _ _ ev), fun lw nw => ?_⟩
      have s2 : Same H' (upd H' lw (.lst (cutV (vals.map V.int) (some (6 * (0 + (i : Int)))) (some (6 * (0 + (i : Int)) + 6))))) := Same.one nw
      have ew : (upd H' lw (.lst (cutV (vals.map V.int) (some (6 * (0 + (i : Int)))) (some (6 * (0 + (i : Int)) + 6))))) lw = some (iL (rowL vals i)) := by
        rw [upd_same]
        exact congrArg (fun z => some (HO.lst z)) (cut_row hv hin)
      have nw0 := nw
      generalize upd H' lw (.lst (cutV (vals.map V.int) (some (6 * (0 + (i : Int)))) (some (6 * (0 + (i : Int)) + 6)))) = H2 at s2 ew ⊢
      refine ⟨_, rfl, _, rfl, _, rfl, _, _, rfl, rfl, _, rfl, a, _, rfl, SqL.of (s2 _ _ (sm _ _ (s1 _ _ ea))), fun lk nk => ?_⟩
      have s3 : Same H2 (upd H2 lk (.lst (cutV (names.map V.str) (some 4) (some (5 + (0 + (i : Int))))))) := Same.one nk
      have ek : (upd H2 lk (.lst (cutV (names.map V.str) (some 4) (some (5 + (0 + (i : Int))))))) lk = some (.lst ((knownL names i).map V.str)) := by
        rw [upd_same]
        exact congrArg (fun z => some (HO.lst z)) (cut_known ln (by omega))
      generalize upd H2 lk (.lst (cutV (names.map V.str) (some 4) (some (5 + (0 + (i : Int)))))) = H3 at s3 ek ⊢
      have rl := rowL_len hv hin
      have kl := knownL_len (k := i) ln (by omega)
      have b0 := hb _ (rowL_mem (getD_mem (l := rowL vals i) (i := 0) (by omega)))
      have b1 := hb _ (rowL_mem (getD_mem (l := rowL vals i) (i := 1) (by omega)))
      obtain ⟨t1, t2⟩ := sel_at ((rowL vals i).getD 0 0 % 6).toNat (by omega)
      refine ⟨_, rfl, (by show 6 ≤ sizeLine; decide), fun l6 n6 => ?_⟩
      have s4 : Same H3 (upd H3 l6 (.lst [.int 0, .int 1, .int 0, .int 1, .int 3, .int 2])) := Same.one n6
      have e6 : (upd H3 l6 (.lst [.int 0, .int 1, .int 0, .int 1, .int 3, .int 2])) l6 = some (.lst [.int 0, .int 1, .int 0, .int 1, .int 3, .int 2]) := upd_same
      refine ⟨_, rfl, _, _, _, _, rfl, rfl, SqL.of (s4 _ _ (s3 _ _ ew)), atI_nat (j := 0) (getD_at (by omega)), _, _, rfl, rfl, (by show (0 : Int) < 6; decide), l6, _, _, _, rfl, rfl, SqL.of e6, at_of (j := ((rowL vals i).getD 0 0 % 6).toNat) (by omega) t1, a, _, _, _, rfl, rfl, SqL.of (s4 _ _ (s3 _ _ (s2 _ _ (sm _ _ (s1 _ _ ea))))), atI_nat (nmD_at (by omega)), ?_⟩
      generalize upd H3 l6 (.lst [.int 0, .int 1, .int 0, .int 1, .int 3, .int 2]) = H4 at s4 ⊢
      have sm4 : Same H1 H4 := sm.trans (s2.trans (s3.trans s4))
      have ew4 := s4 _ _ (s3 _ _ ew)
      have ek4 := s4 _ _ ek
      have er4 := s4 _ _ (s3 _ _ (s2 _ _ er))
      have pr4 : Paired (RuleAt H4) as R0 := Paired.mapP pr fun _ _ z => z.same (s2.trans (s3.trans s4))
      clear s2 s3 s4 e6
      refine ⟨_, rfl, _, rfl, iteT ⟨_, rfl, _, _, _, _, rfl, rfl, SqL.of ew4, atI_nat (j := 0) (getD_at (by omega)), _, _, rfl, rfl, ⟨by decide, by decide⟩, _, _, rfl, rfl, (by show (0 : Int) < 3; decide), rfl, _, rfl, ?_⟩⟩
      refine if_cont (fun σ' => ∃ j, j ≤ 4 + i ∧ σ' = [some (.ref a), some (.int c), some (.int s), some (.int n), some (.bl true), some (.ref lv), some (.ref lr), some (.int (0 + (i : Int))), some (.ref lw), some (.ref lk), some (.str (nmD names j)), x11, none, none, none]) (fun σ' ⟨j, hj, e⟩ => ?_) (fun hall => ?_) ⟨_, ?_, rfl⟩
      · subst e
        refine ⟨_, rfl, _, _, _, _, rfl, rfl, SqL.of ew4, atI_nat (j := 1) (getD_at (by omega)), _, _, rfl, rfl, (by show (0 : Int) < 4; decide), _, rfl, by omega, by omega, fun D hD => lc_range (n := ((rowL vals i).getD 1 0 % 4).toNat) (fun m H7 => ∃ srcs : List Str, Same H4 H7 ∧ H7 D = some (.lst (srcs.map V.str)) ∧ srcs.length = m ∧ ∀ s ∈ srcs, ∃ j, 4 ≤ j ∧ j ≤ 4 + i ∧ s = nmD names j) ?_ ?_ ?_⟩
        · exact ⟨[], Same.one hD, upd_same, rfl, fun s h => (List.not_mem_nil h).elim⟩
        · rintro m H7 hm ⟨srcs, s7, e7, l7, ok7⟩
          obtain ⟨c1, c2, c3⟩ := kn_mod (k := i) ln (by omega) (x := (rowL vals i).getD (2 + m) 0) (hb _ (rowL_mem (getD_mem (by omega)))).1
          refine ⟨rfl, ?_⟩
          refine ⟨_, rfl, _, rfl, _, rfl, _, _, rfl, rfl, _, _, _, _, rfl, rfl, SqL.of (s7 _ _ ew4), at_of (j := 2 + m) (by omega) (getD_at (by omega)), _, rfl, lk, _, rfl, .inl (SqL.of (s7 _ _ ek4)), _, _, rfl, rfl, c3, lk, _, _, _, rfl, rfl, SqL.of (s7 _ _ ek4), c1, _, e7, (by rw [List.length_map, sizeLine_eq]; omega), srcs ++ [nmD names (4 + ((rowL vals i).getD (2 + m) 0 % (((knownL names i).map V.str).length : Int)).toNat)], ?_, ?_, (by rw [List.length_append, l7]; rfl), ?_⟩
          · intro b o hb'
            rw [upd_ne (ne_of_none hb' hD)]
            exact s7 _ _ hb'
          · rw [upd_same, List.map_append]; rfl
          · intro s' hs'
            rcases List.mem_append.mp hs' with h | h
            · exact ok7 s' h
            · exact ⟨_, by omega, by omega, List.mem_singleton.mp h⟩
        · rintro H7 ⟨srcs, s7, e7, l7, ok7⟩
          have sm7 := sm4.trans s7
          have er7 := s7 _ _ er4
          refine ⟨_, rfl, .inl ⟨rfl, _, SqL.of er7⟩, _, rfl, _, rfl, _, _, rfl, rfl, a, _, _, _, rfl, rfl, SqL.of (sm7 _ _ (s1 _ _ ea)), at_of (j := 5 + i) (by omega) (nmD_at (by omega)), _, rfl, _, rfl, D, _, rfl, .inl ⟨SqL.of e7, fun ts nts => ⟨(by show 3 ≤ sizeLine; decide), fun tt ntt => ⟨lr, _, _, rfl, rfl, upd_old (upd_old er7 nts) ntt, ?_, ?_⟩⟩⟩⟩
          · rw [List.length_map, paired_len pr4, ok.1, sizeLine_eq]; omega
          · have up : ∀ b o, H7 b = some o → (∀ xs, o ≠ .lst xs) → (upd (upd (upd H7 ts (.tup (srcs.map V.str))) tt (.tup [.str (nmD names (5 + i)), .str (nmD names j), .ref ts])) lr (.lst (as.map V.ref ++ [.ref tt]))) b = some o := fun b o e h => by
              rw [upd_ne fun z => ?_]
              · exact upd_old (upd_old e nts) ntt
              · rw [z, er7] at e
                exact h _ (Option.some.inj e).symm
            have nlr : ∀ {b : Addr}, H7 b = none → b ≠ lr := fun {b} e z => by rw [z, er7] at e; cases e
            refine ⟨_, _, _, _, _, as ++ [tt], R0 ++ [⟨nmD names (5 + i), nmD names j, srcs⟩], rfl, fun b o e => ?_, ?_, Paired.snoc (Paired.mapP pr4 fun b r ⟨b2, q1, q2⟩ => ⟨b2, up _ _ (s7 _ _ q1) (fun _ z => by cases z), up _ _ (s7 _ _ q2) (fun _ z => by cases z)⟩) ⟨ts, ?_, ?_⟩, ?_, ?_⟩
            · rw [upd_ne (ne_of_none e nr)]
              exact upd_old (upd_old (sm7 _ _ e) nts) ntt
            · rw [upd_same, List.map_append]; rfl
            · rw [upd_ne (fun z => ?_), upd_same]
              rw [z, upd_old er7 nts] at ntt
              cases ntt
            · rw [upd_ne (nlr nts)]
              exact upd_old upd_same ntt
            · rw [List.length_append, ok.1]; rfl
            · intro k r hk
              by_cases e : k < R0.length
              · rw [List.getElem?_append_left e] at hk
                exact ok.2 k r hk
              · have hk2 := (List.getElem?_eq_some_iff.mp hk).1
                rw [List.length_append, ok.1] at hk2
                have e0 := ok.1
                have e1 : k = R0.length := by
                  have : ([⟨nmD names (5 + i), nmD names j, srcs⟩] : List Rl).length = 1 := rfl
                  omega
                subst e1
                rw [List.getElem?_concat_length] at hk
                cases hk
                exact ⟨by rw [e0], ⟨j, by omega, rfl⟩, fun s hs => by rw [e0]; exact ok7 s hs, by show srcs.length ≤ 3; omega⟩
      · obtain ⟨c1, c2, c3⟩ := kn_mod (k := i) ln (by omega) (x := (rowL vals i).getD 0 0 / 18) (by omega)
        refine ⟨_, rfl, _, rfl, _, _, _, _, rfl, rfl, SqL.of ew4, atI_nat (j := 0) (getD_at (by omega)), _, _, rfl, rfl, ⟨by decide, by decide⟩, _, rfl, lk, _, rfl, .inl (SqL.of ek4), _, _, rfl, rfl, c3, lk, _, _, _, rfl, rfl, SqL.of ek4, c1, hall _ ⟨_, ?_, rfl⟩⟩
        omega
      · omega
    · rintro σ H' ⟨x7, x8, x9, x10, x11, as, R0, rfl, sm, er, pr, ok⟩
      have la : as.length = n := by rw [paired_len pr, ok.1]; rfl
      refine ⟨_, rfl, _, rfl, s, n, 97, rfl, (by omega), by decide, by decide, fun H2 lm mv s2 nm em hm hmb => ?_⟩
      refine ⟨Nat.zero_le _, fun lp np => ⟨_, rfl, n, rfl, by omega, by omega, ?_⟩⟩
      have s12 := sm.trans s2
      have np0 : H lp = none := s1.free (s12.free np)
      refine for_range (fun i σ H3 => ∃ x7, ∃ bs : List Addr, σ = [some (.ref a), some (.int c), some (.int s), some (.int n), some (.bl true), some (.ref lv), some (.ref lr), x7, x8, x9, x10, x11, some (.ref lm), some (.ref lp), none] ∧ Same H2 H3 ∧ H3 lp = some (.lst (bs.map V.ref)) ∧ bs.Perm (as.take i)) ?_ ?_ ?_
      · exact ⟨x7, [], rfl, Same.one np, upd_same, .refl _⟩
      · rintro i σ H3 hi ⟨x7', bs, rfl, s3, e3, pm⟩
        have hin : i < n := by simpa using hi
        have bl : bs.length = i := by rw [pm.length_eq, List.length_take]; omega
        have ha : as[i]? = some (as[i]'(by omega)) := List.getElem?_eq_getElem (by omega)
        have cpos : (0 : Int) < (((bs.map V.ref).length : Nat) : Int) + 1 := by omega
        refine ⟨_, rfl, .inl ⟨rfl, _, SqL.of e3⟩, _, rfl, _, rfl, _, _, _, _, rfl, rfl, SqL.of (s3 _ _ em), at_of (j := i) (by omega) (getD_at (by omega)), _, rfl, lp, _, rfl, .inl (SqL.of e3), _, _, rfl, rfl, _, _, rfl, rfl, cpos,
          _, rfl, _, rfl, lr, _, _, .ref (as[i]'(by omega)), rfl, rfl, SqL.of (s3 _ _ (s2 _ _ er)), at_of (j := i) (by omega) (by rw [List.getElem?_map, ha]; rfl), lp, _, _, _, rfl, rfl, e3, ?_, Int.emod_nonneg _ (by omega), ?_, ?_⟩
        · rw [List.length_map, bl, sizeLine_eq]; omega
        · have := Int.emod_lt_of_pos (mv.getD i 0) cpos
          rw [List.length_map, bl] at this ⊢
          omega
        · refine ⟨_, bs.take (mv.getD i 0 % ((((bs.map V.ref).length : Nat) : Int) + 1)).toNat ++ [as[i]'(by omega)] ++ bs.drop (mv.getD i 0 % ((((bs.map V.ref).length : Nat) : Int) + 1)).toNat, rfl, fun b o e => ?_, ?_, ?_⟩
          · rw [upd_ne (ne_of_none e np)]
            exact s3 _ _ e
          · rw [upd_same, List.map_append, List.map_append, List.map_take, List.map_drop]
            rfl
          · rw [List.take_add_one, ha]
            exact (ins_perm _ _ _).trans (pm.append_right _)
      · rintro σ H3 ⟨x7', bs, rfl, s3, e3, pm⟩
        have e : as.take n = as := by rw [List.take_of_length_le (by omega)]
        have e' : as.take (n : Int).toNat = as := e
        rw [e'] at pm
        obtain ⟨R, p1, p2⟩ := paired_perm pm.symm pr
        exact ⟨_, rfl, q H3 lp R R0 (s1.trans (s12.trans s3)) np0 ⟨bs, e3, Paired.mapP p1 fun _ _ z => z.same (s2.trans s3)⟩ p2 ok⟩
end
end Q3

set_option Elab.async false
set_option linter.all false
set_option maxRecDepth 100000
set_option maxHeartbeats 4000000
/-! the law's own reach -/
namespace Q3
open PySem PySem.Spec PyProof.Rows L2
section
variable {P : Program} {w : World} {K : PySem.W.Frag} {mg : Str → Option Value} {base : Heap} {f : Addr} {fd : FuncData}
def spLReach : Sp := fun vs H Q _ => ∃ p n R gs rk, vs = [.ref p, .str n] ∧ PlanAt H p R ∧ PlanOk R gs rk ∧ ∀ (H' : Hp) (l : Addr) (F : List Str), Same H H' → H l = none → H' l = some (.lst (F.map V.str)) → F.Nodup → (∀ x, x ∈ F ↔ Rc R n x) → Q (.ref l) H'
theorem ok_lreach (F : Fun K "_law_reach" "_law_reach" sLreach f fd) (T : TL mg) : FnOk P w K mg base CX0 1 f fd ["_law_plan_here", "_law_name"] spLReach := by
  refine F.ok scLreach (fun vs H Q E h => ?_) (fun cdv A outer s H vs Q E hr h => ?_)
  · obtain ⟨p, n, R, gs, rk, rfl, _⟩ := h
    rfl
  · obtain ⟨p, n, R, gs, rk, rfl, pl, ok, k⟩ := h
    have nd := scLreach.nd
    refine ⟨_, (pss_cons (ps_set (i := 2) nd rfl (.inl rfl) (pe_lst pa_nil))
      (pss_cons (ps_set (i := 3) nd rfl (.inl rfl) (pe_lst (pa_cons (pv 1) pa_nil)))
      (pss_cons (ps_for PassesOwn.never rfl (pi_range1 (by rfl) T.range (pa_cons pe_int pa_nil)) (pg_name (i := 4) nd rfl (.inl rfl)) (pss_cons (ps_if (pt_cmpR op_eq (pe_callB call_len_seq (by rfl) T.len PySem.boot_len (pa_cons (pv 3) pa_nil)) pe_int (nomark _)) (pss_one ps_break) pss_nil)
      (pss_cons (ps_set (i := 5) nd rfl (.inl rfl) (pe_bm0 PySem.F.plainAttrs_list PySem.F.slot_list_pop PySem.F.type_list_pop mt_pop (pv 3)))
      (pss_one (ps_for PassesOwn.never rfl (pi_list (pv 0)) (pg_name (i := 6) nd rfl (.inl rfl)) (pss_one (ps_if (pt_cmpR op_eq (pe_ix ix_tup (pv 6) pe_int (fun _ _ => rfl)) (pv 5) (nomark _)) (pss_one (ps_for PassesOwn.never rfl (pi_list (pe_op op_cat (pe_lst (pa_cons (pe_ix ix_tup (pv 6) pe_int (fun _ _ => rfl)) pa_nil)) (pe_callTy call_list_of (by rfl) T.list (by decide +kernel) (pa_cons (pe_ix ix_tup (pv 6) pe_int (fun _ _ => rfl)) pa_nil)))) (pg_name (i := 7) nd rfl (.inl rfl)) (pss_one (ps_if (pt_cmpR op_notIn_seq (pv 7) (pv 2) (by rfl)) (pss_cons (ps_expr (pe_bm PySem.F.plainAttrs_list PySem.F.slot_list_append PySem.F.type_list_append mt_append (pv 2) (pa_cons (pv 7) pa_nil)))
      (pss_one (ps_expr (pe_bm PySem.F.plainAttrs_list PySem.F.slot_list_append PySem.F.type_list_append mt_append (pv 3) (pa_cons (pv 7) pa_nil))))) pss_nil)))) pss_nil)))))))
      (pss_one (ps_ret (pv 2)))))), ?_⟩
    obtain ⟨as, e1, pr⟩ := id pl
    have lenR : (as.map V.ref).length = R.length := by rw [List.length_map, paired_len pr]
    have h32 := allParts_le ok
    refine ⟨Nat.zero_le _, fun lf hf => ⟨_, rfl, (by show 1 ≤ sizeLine; decide), fun lw hw => ⟨400, rfl, by decide, by decide, ?_⟩⟩⟩
    have s1 : Same H (upd H lf (.lst [])) := Same.one hf
    have hw0 := s1.free hw
    have s2 : Same H (upd (upd H lf (.lst [])) lw (.lst [.str n])) := s1.trans (Same.one hw)
    have fw : lf ≠ lw := fun z => by rw [← z, upd_same] at hw; cases hw
    refine for_range (fun i σ H1 => ∃ F W x4 x5 x6 x7, σ = [some (.ref p), some (.str n), some (.ref lf), some (.ref lw), x4, x5, x6, x7] ∧ Same H H1 ∧ H1 lf = some (.lst (F.map V.str)) ∧ H1 lw = some (.lst (W.map V.str)) ∧ RInv R n F W ∧ W.length + ((allParts R).length - F.length) + i ≤ 33) ?_ ?_ ?_
    · exact ⟨[], [n], none, none, none, none, rfl, s2, upd_old upd_same hw, upd_same, RInv.start, by show 1 + _ + 0 ≤ 33; omega⟩
    · rintro i σ H1 hi ⟨F, W, x4, x5, x6, x7, rfl, sm, eF, eW, I, ms⟩
      refine ⟨_, rfl, lw, _, rfl, .inl (SqL.of eW), rfl, _, rfl, ?_⟩
      rw [List.length_map, dec_vint]
      cases hW : W.getLast? with
      | none =>
        have e0 : W = [] := List.getLast?_eq_none_iff.mp hW
        subst e0
        exact iteT ⟨_, rfl, k H1 lf F sm hf eF I.nd I.all⟩
      | some item =>
        have e0 : W ≠ [] := fun q => by rw [q] at hW; cases hW
        have wl : W.length = W.dropLast.length + 1 := by
          have := List.length_pos_iff.mpr e0
          rw [List.length_dropLast]; omega
        rw [decide_eq_false (by omega)]
        refine iteF ?_
        refine ⟨_, rfl, .inl ⟨rfl, _, SqL.of eW⟩, lw, _, .str item, rfl, rfl, eW, ?_, ?_⟩
        · rw [← List.getLast?_eq_getElem?, List.getLast?_map, hW]; rfl
        have M := I.pop hW
        have eWd : (W.map V.str).dropLast = W.dropLast.map V.str := by rw [List.map_dropLast]
        rw [eWd]
        have sm1 : Same H (upd H1 lw (.lst (W.dropLast.map V.str))) := fun b o e => by rw [upd_ne (ne_of_none e hw0)]; exact sm _ _ e
        have eF1 : (upd H1 lw (.lst (W.dropLast.map V.str))) lf = some (.lst (F.map V.str)) := by rw [upd_ne fw]; exact eF
        have eW1 : (upd H1 lw (.lst (W.dropLast.map V.str))) lw = some (.lst (W.dropLast.map V.str)) := upd_same
        generalize upd H1 lw (.lst (W.dropLast.map V.str)) = H2 at sm1 eF1 eW1 ⊢
        have hle := M.le
        refine ⟨_, rfl, p, rfl, ⟨_, SqL.of (sm1 _ _ e1)⟩, for_list (K := K) (a := p) (xs := as.map V.ref) (fun j σ H3 => ∃ F' W' x6 x7, σ = [some (.ref p), some (.str n), some (.ref lf), some (.ref lw), some (.int (0 + (i : Int))), some (.str item), x6, x7] ∧ Same H H3 ∧ H3 lf = some (.lst (F'.map V.str)) ∧ H3 lw = some (.lst (W'.map V.str)) ∧
          RMid R n item F' W' ∧ (∀ r ∈ R.take j, r.t = item → ∀ q ∈ r.parts, q ∈ F') ∧ W'.length + ((allParts R).length - F'.length) = W.dropLast.length + ((allParts R).length - F.length)) ?_ ?_ ?_ ?_⟩
        · exact ⟨F, W.dropLast, x6, x7, rfl, sm1, eF1, eW1, M, fun r hr => (by cases hr), rfl⟩
        · rintro j σ H3 _ ⟨F', W', x6', x7', _, s3, _⟩
          exact SqL.of (s3 _ _ e1)
        · rintro j x σ H3 hx ⟨F', W', x6', x7', rfl, s3, eF3, eW3, M3, pt3, ms3⟩
          rw [List.getElem?_map] at hx
          obtain ⟨a, ha, rfl⟩ := Option.map_eq_some_iff.mp hx
          obtain ⟨r, hr2, ra⟩ := paired_get pr ha
          have hm : r ∈ R := List.mem_of_getElem? hr2
          obtain ⟨b, ra1, ra2⟩ := ra.same s3
          refine ⟨_, rfl, a, _, _, _, rfl, rfl, SqT.of ra1, atI_nat (j := 0) rfl, _, rfl, rfl, _, rfl, ?_⟩
          by_cases et : r.t = item
          · rw [decide_eq_true (by rw [et])]
            refine iteT ⟨_, rfl, a, _, _, _, rfl, rfl, SqT.of ra1, atI_nat (j := 1) rfl, (by show 1 ≤ sizeLine; decide), fun la na => ?_⟩
            refine ⟨_, rfl, a, _, _, _, rfl, rfl, SqT.of (upd_old ra1 na), atI_nat (j := 2) rfl, b, _, rfl, .inr (SqT.of (upd_old ra2 na)), fun lb nb => ?_⟩
            refine ⟨la, lb, _, _, rfl, rfl, upd_old upd_same nb, upd_same, ?_, fun lc nc => ?_⟩
            · have := ok.src r hm
              rw [List.length_map, sizeLine_eq]
              show 1 + _ ≤ _
              omega
            have s4 : Same H3 (upd (upd (upd H3 la (.lst [.str r.tool])) lb (.lst (r.src.map V.str))) lc (.lst ([.str r.tool] ++ r.src.map V.str))) := fun b o e => upd_old (upd_old (upd_old e na) nb) nc
            have e4 : (upd (upd (upd H3 la (.lst [.str r.tool])) lb (.lst (r.src.map V.str))) lc (.lst ([.str r.tool] ++ r.src.map V.str))) lc = some (.lst (r.parts.map V.str)) := upd_same
            have ncf : lc ≠ lf := fun z => by rw [z, upd_old (upd_old eF3 na) nb] at nc; cases nc
            have ncw : lc ≠ lw := fun z => by rw [z, upd_old (upd_old eW3 na) nb] at nc; cases nc
            generalize (upd (upd (upd H3 la (.lst [.str r.tool])) lb (.lst (r.src.map V.str))) lc (.lst ([.str r.tool] ++ r.src.map V.str))) = H4 at s4 e4 ⊢
            refine ⟨lc, rfl, ⟨_, SqL.of e4⟩, for_list (K := K) (a := lc) (xs := r.parts.map V.str) (fun m σ H5 => ∃ F5 W5 x7, σ = [some (.ref p), some (.str n), some (.ref lf), some (.ref lw), some (.int (0 + (i : Int))), some (.str item), some (.ref a), x7] ∧ Same H H5 ∧ H5 lc = some (.lst (r.parts.map V.str)) ∧ H5 lf = some (.lst (F5.map V.str)) ∧ H5 lw = some (.lst (W5.map V.str)) ∧
              RMid R n item F5 W5 ∧ (∀ q ∈ F', q ∈ F5) ∧ (∀ q ∈ r.parts.take m, q ∈ F5) ∧ W5.length + ((allParts R).length - F5.length) = W.dropLast.length + ((allParts R).length - F.length)) ?_ ?_ ?_ ?_⟩
            · exact ⟨F', W', x7', rfl, s3.trans s4, e4, s4 _ _ eF3, s4 _ _ eW3, M3, fun q h => h, fun q h => (by cases h), ms3⟩
            · rintro m σ H5 _ ⟨F5, W5, x7'', _, _, e5, _⟩
              exact SqL.of e5
            · rintro m x σ H5 hx ⟨F5, W5, x7'', rfl, s5, e5, eF5, eW5, M5, mo5, pt5, ms5⟩
              rw [List.getElem?_map] at hx
              obtain ⟨y, hy, rfl⟩ := Option.map_eq_some_iff.mp hx
              have hmp : y ∈ r.parts := List.mem_of_getElem? hy
              have hle5 := M5.le
              have tk : ∀ z ∈ r.parts.take (m + 1), z ∈ r.parts.take m ∨ z = y := fun z hz => by
                rw [List.take_add_one, hy] at hz
                rcases List.mem_append.mp hz with q | q
                · exact .inl q
                · exact .inr (List.mem_singleton.mp q)
              refine ⟨_, rfl, _, rfl, lf, _, rfl, .inl (SqL.of eF5), rfl, flat_strs _, _, rfl, ?_⟩
              show ite ((if true then !inV (.str y) (F5.map V.str) else inV (.str y) (F5.map V.str)) = true) _ _
              rw [inV_str]
              by_cases hpF : y ∈ F5
              · rw [decide_eq_true hpF]
                refine iteF ⟨F5, W5, _, rfl, s5, e5, eF5, eW5, M5, mo5, fun z hz => ?_, ms5⟩
                rcases tk z hz with q | q
                · exact pt5 z q
                · rw [q]; exact hpF
              · rw [decide_eq_false hpF]
                have M6 := M5.add hm et hmp hpF
                have hle6 := M6.le
                rw [List.length_append] at hle6
                refine iteT ⟨_, rfl, .inl ⟨rfl, _, SqL.of eF5⟩, _, rfl, lf, _, _, rfl, rfl, eF5, ?_, ?_⟩
                · rw [List.length_map, sizeLine_eq]; omega
                have eW6 : (upd H5 lf (.lst (F5.map V.str ++ [.str y]))) lw = some (.lst (W5.map V.str)) := by rw [upd_ne fw.symm]; exact eW5
                refine ⟨_, rfl, .inl ⟨rfl, _, SqL.of eW6⟩, _, rfl, lw, _, _, rfl, rfl, eW6, ?_, ?_⟩
                · rw [List.length_map, sizeLine_eq]; omega
                · refine ⟨F5 ++ [y], W5 ++ [y], _, rfl, fun b o e => ?_, ?_, ?_, ?_, M6, fun z hz => List.mem_append_left _ (mo5 z hz), fun z hz => ?_, ?_⟩
                  · rw [upd_ne (ne_of_none e hw0), upd_ne (ne_of_none e hf)]; exact s5 _ _ e
                  · rw [upd_ne ncw, upd_ne ncf]; exact e5
                  · rw [upd_ne fw, upd_same, List.map_append]; rfl
                  · rw [upd_same, List.map_append]; rfl
                  · rcases tk z hz with q | q
                    · exact List.mem_append_left _ (pt5 z q)
                    · rw [q]; simp
                  · rw [List.length_append, List.length_append]
                    show W5.length + 1 + ((allParts R).length - (F5.length + 1)) = _
                    have : ([y] : List Str).length = 1 := rfl
                    omega
            · rintro σ H5 ⟨F5, W5, x7'', rfl, s5, e5, eF5, eW5, M5, mo5, pt5, ms5⟩
              rw [List.length_map, List.take_length] at pt5
              refine ⟨F5, W5, _, _, rfl, s5, eF5, eW5, M5, fun r' hr' ht' q hq => ?_, ms5⟩
              rcases mem_take_succ hr2 hr' with z | z
              · exact mo5 q (pt3 r' z ht' q hq)
              · rw [z] at hq; exact pt5 q hq
          · rw [decide_eq_false (by intro z; exact et (V.str.inj z))]
            refine iteF ⟨F', W', _, _, rfl, s3, eF3, eW3, M3, fun r' hr' ht' q hq => ?_, ms3⟩
            rcases mem_take_succ hr2 hr' with z | z
            · exact pt3 r' z ht' q hq
            · rw [z] at ht'; exact absurd ht' et
        · rintro σ H3 ⟨F', W', x6', x7', rfl, s3, eF3, eW3, M3, pt3, ms3⟩
          rw [lenR, List.take_length] at pt3
          refine ⟨F', W', _, _, _, _, rfl, s3, eF3, eW3, M3.done pt3, ?_⟩
          omega
    · rintro σ H1 ⟨F, W, x4, x5, x6, x7, rfl, sm, eF, eW, I, ms⟩
      exact absurd ms (by show ¬ (_ + 400 ≤ 33); omega)
end
end Q3

set_option Elab.async false
set_option linter.all false
set_option maxRecDepth 100000
set_option maxHeartbeats 4000000
/-! _law_same -/
namespace Q3
open PySem PySem.Spec PyProof.Rows L2
section
variable {H H' : Hp} {t c l : Addr} {φ : Val} {R : List Rl} {ys : List Str}
theorem ResAt.get (h : ResAt H t c l φ R ys) (nd : (R.map Rl.t).Nodup) {x : Str} (hx : ∃ r ∈ R, r.t = x) : ∃ o, DGet H c (.str x) o ∧ IsD H c ∧ ((φ x = none ∧ o = none) ∨ ∃ a ns, φ x = some ns ∧ o = some (.ref a) ∧ H a = some (iL ns)) := by
  obtain ⟨kvs, g1, g2⟩ := h.ct
  have hk : kvs.map (·.1) = (okT φ R).map (Sum.inr : Str → Key) := by
    have := paired_keys (key := fun q => q) (fun a kv f => f.1) g2
    rwa [List.map_id'] at this
  have ndo : (okT φ R).Nodup := nd.sublist List.filter_sublist
  refine ⟨_, DGet.k (k := Sum.inr x) g1, .inl ⟨kvs, .inl g1⟩, ?_⟩
  cases e : φ x with
  | some ns =>
    obtain ⟨r, hr, rfl⟩ := hx
    have hm : r.t ∈ okT φ R := List.mem_filter.mpr ⟨List.mem_map.mpr ⟨r, hr, rfl⟩, by rw [e]; rfl⟩
    obtain ⟨kv, m1, m2, a, ln, m3, m4, m5⟩ := paired_mem g2 hm
    have := valV_mem (by rw [hk]; exact nodup_inr ndo) m1
    rw [m2, m4] at this
    rw [e] at m3
    cases m3
    exact .inr ⟨a, ns, rfl, this, m5⟩
  | none =>
    left
    refine ⟨rfl, ?_⟩
    have := val_names hk x
    rw [decide_eq_false fun z => ?_] at this
    · cases q : valV kvs (Sum.inr x : Key) with
      | none => rfl
      | some v => rw [q] at this; cases this
    · have := (List.mem_filter.mp z).2
      rw [e] at this
      cases this
theorem ResAt.bad (h : ResAt H t c l φ R ys) {x : Str} (hx : ∃ r ∈ R, r.t = x) : decide (x ∈ ys) = (φ x).isNone := by
  obtain ⟨r, hr, rfl⟩ := hx
  rw [Bool.eq_iff_iff, decide_eq_true_eq, h.pm.mem_iff]
  unfold badT
  rw [List.mem_filter]
  exact ⟨fun z => z.2, fun z => ⟨List.mem_map.mpr ⟨r, hr, rfl⟩, z⟩⟩
theorem ResAt.same (h : ResAt H t c l φ R ys) (s : Same H H') : ResAt H' t c l φ R ys := by
  obtain ⟨kvs, g1, g2⟩ := h.ct
  exact ⟨s _ _ h.tp, ⟨kvs, s _ _ g1, Paired.mapP g2 fun _ _ z => z.to fun c o e _ _ => s c o e⟩, s _ _ h.fl, h.pm, h.so⟩
end
section
variable {P : Program} {w : World} {K : PySem.W.Frag} {mg : Str → Option Value} {base : Heap} {f : Addr} {fd : FuncData}
def spLSame : Sp := fun vs H Q _ => ∃ t1 c1 l1 φ1 R1 ys1 t2 c2 l2 φ2 R2 ys2 ln, ∃ ns : List Str, vs = [.ref t1, .ref t2, .ref ln] ∧ ResAt H t1 c1 l1 φ1 R1 ys1 ∧ ResAt H t2 c2 l2 φ2 R2 ys2 ∧ (R1.map Rl.t).Nodup ∧ (R2.map Rl.t).Nodup ∧ H ln = some (.lst (ns.map V.str)) ∧
  (∀ x ∈ ns, (∃ r ∈ R1, r.t = x) ∧ (∃ r ∈ R2, r.t = x) ∧ φ1 x = φ2 x ∧ ∀ z, φ1 x = some z → IntsSmall z) ∧ Q (.bl true) H
theorem ok_lsame (F : Fun K "_law_same" "_law_same" sLsame f fd) (mr : mg "repr" = none) : FnG P w K mg base 1 f fd ["_law_first", "_law_second", "_law_names_here"] spLSame := by
  refine Fun.okG F scLsame (fun vs H Q E h => ?_) (fun cdv A outer s H vs Q E hg hr h => ?_)
  · obtain ⟨t1, c1, l1, φ1, R1, ys1, t2, c2, l2, φ2, R2, ys2, ln, ns, rfl, _⟩ := h
    rfl
  · obtain ⟨t1, c1, l1, φ1, R1, ys1, t2, c2, l2, φ2, R2, ys2, ln, ns, rfl, h1, h2, nd1, nd2, en, hx, q⟩ := h
    have nd := scLsame.nd
    have hu := hu_of hr
    have hu64 := hr.units
    refine ⟨_, (pss_cons (ps_for PassesOwn.never rfl (pi_list (pv 2)) (pg_name (i := 3) nd rfl (.inl rfl)) (pss_one (ps_if (PW.pt (pw_or (pt_cmpR op_ne (pe_callB (call_repr hg hu64) (by rfl) mr (by decide +kernel) (pa_cons (pe_dget1 hu (pe_ix ix_tup (pv 0) pe_int (fun _ _ => rfl)) (pv 3) ⟨rfl, rfl, rfl, rfl⟩) pa_nil)) (pe_callB (call_repr hg hu64) (by rfl) mr (by decide +kernel) (pa_cons (pe_dget1 hu (pe_ix ix_tup (pv 1) pe_int (fun _ _ => rfl)) (pv 3) ⟨rfl, rfl, rfl, rfl⟩) pa_nil)) (nomark _)) (pw_or1 (pt_cmpR op_ne (pe_cmpR op_in_seq (pv 3) (pe_ix ix_tup (pv 0) pe_int (fun _ _ => rfl)) (by rfl)) (pe_cmpR op_in_seq (pv 3) (pe_ix ix_tup (pv 1) pe_int (fun _ _ => rfl)) (by rfl)) (nomark _))))) (pss_one (ps_ret pe_bl)) pss_nil)))
      (pss_one (ps_ret pe_bl))), ?_⟩
    refine ⟨_, rfl, ln, rfl, ⟨_, SqL.of en⟩, for_list (K := K) (a := ln) (xs := ns.map V.str) (fun i σ H3 => ∃ x3, σ = [some (.ref t1), some (.ref t2), some (.ref ln), x3] ∧ H3 = H) ?_ ?_ ?_ ?_⟩
    · exact ⟨none, rfl, rfl⟩
    · rintro i σ H3 _ ⟨x3, _, rfl⟩
      exact SqL.of en
    · rintro i x σ H3 hi ⟨x3, rfl, rfl⟩
      rw [List.getElem?_map] at hi
      obtain ⟨y, hy, rfl⟩ := Option.map_eq_some_iff.mp hi
      obtain ⟨y1, y2, y3, y4⟩ := hx y (List.mem_of_getElem? hy)
      obtain ⟨o1, g1, i1, d1⟩ := h1.get nd1 y1
      obtain ⟨o2, g2, i2, d2⟩ := h2.get nd2 y2
      have b1 := h1.bad y1
      have b2 := h2.bad y2
      refine ⟨_, rfl, t1, _, _, _, rfl, rfl, SqT.of h1.tp, atI_nat (j := 0) rfl, c1, rfl, i1, _, rfl, o1, g1, ?_⟩
      rcases d1 with ⟨e1, rfl⟩ | ⟨a1, z1, e1, rfl, k1⟩
      · rcases d2 with ⟨e2, rfl⟩ | ⟨a2, z2, e2, rfl, k2⟩
        · refine .inl ⟨rfl, _, rfl, t2, _, _, _, rfl, rfl, SqT.of h2.tp, atI_nat (j := 0) rfl, c2, rfl, i2, _, rfl, _, g2, .inl ⟨rfl, rfl, _, rfl, iteNS rfl ⟨_, rfl, _, rfl, t1, _, _, _, rfl, rfl, SqT.of h1.tp, atI_nat (j := 1) rfl, l1, _, rfl, .inl (SqL.of h1.fl), rfl, flat_strs _, _, rfl, _, rfl, t2, _, _, _, rfl, rfl, SqT.of h2.tp, atI_nat (j := 1) rfl, l2, _, rfl, .inl (SqL.of h2.fl), rfl, flat_strs _, rfl, _, rfl, iteNS ?_ ⟨_, rfl, rfl⟩⟩⟩⟩
          show V.bl (inV (.str y) (ys1.map V.str)) = V.bl (inV (.str y) (ys2.map V.str))
          rw [inV_str, inV_str, b1, b2, y3]
        · rw [y3, e2] at e1; cases e1
      · rcases d2 with ⟨e2, rfl⟩ | ⟨a2, z2, e2, rfl, k2⟩
        · rw [y3, e2] at e1; cases e1
        · have ez : z2 = z1 := by rw [y3, e2] at e1; exact Option.some.inj e1
          subst ez
          refine .inr ⟨a1, z2, rfl, SqL.of k1, y4 z2 e1, _, rfl, t2, _, _, _, rfl, rfl, SqT.of h2.tp, atI_nat (j := 0) rfl, c2, rfl, i2, _, rfl, _, g2, .inr ⟨a2, z2, rfl, SqL.of k2, y4 z2 e1, rfl, _, rfl, iteNS rfl ⟨_, rfl, _, rfl, t1, _, _, _, rfl, rfl, SqT.of h1.tp, atI_nat (j := 1) rfl, l1, _, rfl, .inl (SqL.of h1.fl), rfl, flat_strs _, _, rfl, _, rfl, t2, _, _, _, rfl, rfl, SqT.of h2.tp, atI_nat (j := 1) rfl, l2, _, rfl, .inl (SqL.of h2.fl), rfl, flat_strs _, rfl, _, rfl, iteNS ?_ ⟨_, rfl, rfl⟩⟩⟩⟩
          show V.bl (inV (.str y) (ys1.map V.str)) = V.bl (inV (.str y) (ys2.map V.str))
          rw [inV_str, inV_str, b1, b2, y3]
    · rintro σ H3 ⟨x3, rfl, rfl⟩
      exact q
end
end Q3

set_option Elab.async false
set_option linter.all false
set_option maxRecDepth 100000
set_option maxHeartbeats 4000000
/-! what the law's images give -/
namespace Q3
theorem lookup_pair {o : Int} {d : Deed} : ∀ {l : List (Int × Deed)}, l.lookup o = some d → (o, d) ∈ l
  | [], h => by simp at h
  | (k, e) :: r, h => by
    rw [List.lookup_cons] at h
    split at h
    · rename_i hk
      cases h
      have : o = k := by simpa using hk
      rw [this]
      exact List.mem_cons_self ..
    · exact List.mem_cons_of_mem _ (lookup_pair h)
theorem out_deed {E : Ev} {g : Int} {m : MS} {o : Int} {d : Deed} (h : (o, d) ∈ deeds) (ho : o ≠ 46) : (d E g m).out = m.out := by
  simp only [deeds, List.mem_cons, Prod.mk.injEq, List.not_mem_nil, or_false] at h
  rcases h with ⟨_, rfl⟩ | ⟨_, rfl⟩ | ⟨_, rfl⟩ | ⟨_, rfl⟩ | ⟨_, rfl⟩ | ⟨_, rfl⟩ | ⟨_, rfl⟩ | ⟨_, rfl⟩ | ⟨_, rfl⟩ | ⟨_, rfl⟩ | ⟨_, rfl⟩ | ⟨h, rfl⟩ | ⟨_, rfl⟩ | ⟨_, rfl⟩ | ⟨_, rfl⟩ | ⟨_, rfl⟩ | ⟨_, rfl⟩ | ⟨_, rfl⟩ | ⟨_, rfl⟩ | ⟨_, rfl⟩
  all_goals first
    | exact absurd h ho
    | rfl
    | (unfold dTake; split <;> rfl)
    | (unfold dTest; split <;> rfl)
    | (unfold dCallLow; split <;> rfl)
    | (unfold dReturn; split <;> rfl)
theorem out_doOp {E : Ev} {o g n : Int} {m : MS} (ho : o ≠ 46) : (doOp E o g n m).out = m.out := by
  unfold doOp
  split
  · rename_i d hd
    exact out_deed (lookup_pair hd) ho
  · split
    · rfl
    · split <;> rfl
theorem out_run {E : Ev} (hE : ∀ n o g s, E.tbl n = some (o, g, s) → o ≠ 46) : ∀ (f : Nat) (m : MS), (runM E f m).1.out = m.out
  | 0, m => rfl
  | f + 1, m => by
    unfold runM stepM
    cases e : E.tbl m.pc with
    | none => rfl
    | some q =>
      obtain ⟨o, g, n⟩ := q
      show (runM E f (doOp E o g n { m with pc := n })).1.out = m.out
      rw [out_run hE f, out_doOp (hE _ _ _ _ e)]
theorem nodes_mem {q : Int × Int × Int × Int} : ∀ {l : List Int}, q ∈ nodesL l → q.2.1 ∈ l
  | [], h => by simp [nodesL] at h
  | [_], h => by simp [nodesL] at h
  | [_, _], h => by simp [nodesL] at h
  | [_, _, _], h => by simp [nodesL] at h
  | a :: b :: c :: d :: r, h => by
    unfold nodesL at h
    rcases List.mem_cons.mp h with e | e
    · rw [e]; simp
    · have := nodes_mem e
      simp [this]
theorem tbl_go {n : Int} {v : Int × Int × Int} : ∀ {ns : List (Int × Int × Int × Int)} {f0 : Int → Option (Int × Int × Int)}, ns.foldl (fun f q => fun n => if n = q.1 then some q.2 else f n) f0 n = some v → f0 n = some v ∨ ∃ q ∈ ns, q.2 = v
  | [], f0, h => .inl h
  | q :: r, f0, h => by
    rw [List.foldl_cons] at h
    rcases tbl_go h with e | ⟨p, h1, h2⟩
    · by_cases hn : n = q.1
      · rw [if_pos hn] at e
        exact .inr ⟨q, List.mem_cons_self .., Option.some.inj e⟩
      · rw [if_neg hn] at e
        exact .inl e
    · exact .inr ⟨p, List.mem_cons_of_mem _ h1, h2⟩
theorem tbl_op {img : List Int} {n o g s : Int} (h : tblOf (nodesL img) n = some (o, g, s)) : o ∈ img := by
  rcases tbl_go h with e | ⟨q, h1, h2⟩
  · cases e
  · have := nodes_mem h1
    rw [h2] at this
    exact this
theorem run_no46 {img num : List Int} {fuel : Nat} (h : (46 : Int) ∉ img) : (runF img num fuel).out = [] := by
  show (runM (evOf img num) fuel startM).1.out = []
  rw [out_run (fun n o g s e => fun z => h (z ▸ tbl_op e))]
  rfl
theorem doOp_of {E : Ev} {o g n : Int} {m : MS} {d : Deed} (h : deeds.lookup o = some d) : doOp E o g n m = d E g m := by
  unfold doOp
  rw [h]
theorem top_app (p : Int) (S : List Int) (v : Int) (me ba pl ou) : (MS.mk p (S ++ [v]) me ba pl ou).top = v := by
  unfold MS.top
  simp
theorem pop_app (p : Int) (S : List Int) (v : Int) (me ba pl ou) : (MS.mk p (S ++ [v]) me ba pl ou).pop = MS.mk p S me ba pl ou := by
  unfold MS.pop
  simp
theorem push_mk (p : Int) (S : List Int) (v : Int) (me ba pl ou) : (MS.mk p S me ba pl ou).push v = MS.mk p (S ++ [v]) me ba pl ou := rfl
/-- what is met on the way through copy (f v = v) and double (f v = v + v) -/
def CIn (num : List Int) (dbl : Bool) (m : MS) : Prop :=
  (∀ x ∈ m.out, ∃ v ∈ num, 0 ≤ v ∧ x = if dbl then v + v else v) ∧
  (m.pc = 0 ∨ m.pc = 9 ∨ (m.pc = 1 ∧ ∃ S v, m.stk = S ++ [v] ∧ (v ∈ num ∨ v = -1)) ∨ (m.pc = 2 ∧ ∃ S v, m.stk = S ++ [v] ++ [v] ∧ (v ∈ num ∨ v = -1)) ∨ (m.pc = 3 ∧ ∃ S v, m.stk = S ++ [v] ++ [v] ++ [0] ∧ (v ∈ num ∨ v = -1)) ∨
    (m.pc = 4 ∧ ∃ S v, m.stk = S ++ [v] ++ [b01 (decide (v < 0))] ∧ (v ∈ num ∨ v = -1)) ∨ (m.pc = 5 ∧ ∃ S v, m.stk = S ++ [v] ∧ v ∈ num ∧ 0 ≤ v) ∨
    (dbl = true ∧ m.pc = 6 ∧ ∃ S v, m.stk = S ++ [v] ++ [v] ∧ v ∈ num ∧ 0 ≤ v) ∨ (dbl = true ∧ m.pc = 7 ∧ ∃ S v, m.stk = S ++ [v + v] ∧ v ∈ num ∧ 0 ≤ v))
def imgC : List Int := [0, 44, 0, 1, 1, 34, 0, 2, 2, 35, 0, 3, 3, 60, 0, 4, 4, 63, 5, 9, 5, 46, 0, 0]
def imgD : List Int := [0, 44, 0, 1, 1, 34, 0, 2, 2, 35, 0, 3, 3, 60, 0, 4, 4, 63, 5, 9, 5, 34, 0, 6, 6, 43, 0, 7, 7, 46, 0, 0]
structure Tab (dbl : Bool) (t : Int → Option (Int × Int × Int)) : Prop where
  t0 : t 0 = some (44, 0, 1)
  t1 : t 1 = some (34, 0, 2)
  t2 : t 2 = some (35, 0, 3)
  t3 : t 3 = some (60, 0, 4)
  t4 : t 4 = some (63, 5, 9)
  t9 : t 9 = none
  t5 : t 5 = some (if dbl then (34, 0, 6) else (46, 0, 0))
  t6 : dbl = true → t 6 = some (43, 0, 7)
  t7 : dbl = true → t 7 = some (46, 0, 0)
theorem tabC : Tab false (tblOf (nodesL imgC)) := ⟨rfl, rfl, rfl, rfl, rfl, rfl, rfl, fun h => (by cases h), fun h => (by cases h)⟩
theorem tabD : Tab true (tblOf (nodesL imgD)) := ⟨rfl, rfl, rfl, rfl, rfl, rfl, rfl, fun _ => rfl, fun _ => rfl⟩
theorem c_step {num img : List Int} {dbl : Bool} (T : Tab dbl (tblOf (nodesL img))) {m m' : MS} (I : CIn num dbl m) (e : stepM (evOf img num) m = some m') : CIn num dbl m' := by
  obtain ⟨hout, h⟩ := I
  obtain ⟨pc, stk, mem, bak, plc, out⟩ := m
  have hE : (evOf img num).tbl = tblOf (nodesL img) := rfl
  unfold stepM at e
  rw [hE] at e
  rcases h with h | h | ⟨h, S, v, hs, hv⟩ | ⟨h, S, v, hs, hv⟩ | ⟨h, S, v, hs, hv⟩ | ⟨h, S, v, hs, hv⟩ | ⟨h, S, v, hs, hv, h0⟩ | ⟨hd, h, S, v, hs, hv, h0⟩ | ⟨hd, h, S, v, hs, hv, h0⟩
  · cases (show pc = 0 from h)
    rw [show (MS.mk 0 stk mem bak plc out).pc = 0 from rfl, T.t0] at e
    have e := Option.some.inj e
    rw [doOp_of (d := dTake) rfl] at e
    subst e
    unfold dTake
    show CIn num dbl (match num[plc]? with | some v => _ | none => _)
    cases hx : num[plc]? with
    | some v => exact ⟨hout, .inr (.inr (.inl ⟨rfl, stk, v, rfl, .inl (List.mem_of_getElem? hx)⟩))⟩
    | none => exact ⟨hout, .inr (.inr (.inl ⟨rfl, stk, -1, rfl, .inr rfl⟩))⟩
  · cases (show pc = 9 from h)
    rw [show (MS.mk 9 stk mem bak plc out).pc = 9 from rfl, T.t9] at e
    cases e
  · cases (show pc = 1 from h)
    cases (show stk = S ++ [v] from hs)
    rw [show (MS.mk 1 (S ++ [v]) mem bak plc out).pc = 1 from rfl, T.t1] at e
    have e := Option.some.inj e
    rw [doOp_of (d := dDouble) rfl] at e
    subst e
    unfold dDouble
    rw [top_app, pop_app, push_mk, push_mk]
    exact ⟨hout, .inr (.inr (.inr (.inl ⟨rfl, S, v, rfl, hv⟩)))⟩
  · cases (show pc = 2 from h)
    cases (show stk = S ++ [v] ++ [v] from hs)
    rw [show (MS.mk 2 (S ++ [v] ++ [v]) mem bak plc out).pc = 2 from rfl, T.t2] at e
    have e := Option.some.inj e
    rw [doOp_of (d := dPush) rfl] at e
    subst e
    unfold dPush
    rw [push_mk]
    exact ⟨hout, .inr (.inr (.inr (.inr (.inl ⟨rfl, S, v, rfl, hv⟩))))⟩
  · cases (show pc = 3 from h)
    cases (show stk = S ++ [v] ++ [v] ++ [0] from hs)
    rw [show (MS.mk 3 (S ++ [v] ++ [v] ++ [0]) mem bak plc out).pc = 3 from rfl, T.t3] at e
    have e := Option.some.inj e
    rw [doOp_of (d := dLess) rfl] at e
    subst e
    unfold dLess dBin
    rw [top_app, pop_app, top_app, pop_app, push_mk]
    exact ⟨hout, .inr (.inr (.inr (.inr (.inr (.inl ⟨rfl, S, v, rfl, hv⟩)))))⟩
  · cases (show pc = 4 from h)
    cases (show stk = S ++ [v] ++ [b01 (decide (v < 0))] from hs)
    rw [show (MS.mk 4 (S ++ [v] ++ [b01 (decide (v < 0))]) mem bak plc out).pc = 4 from rfl, T.t4] at e
    have e := Option.some.inj e
    rw [doOp_of (d := dTest) rfl] at e
    subst e
    unfold dTest
    rw [top_app, pop_app]
    by_cases hn : v < 0
    · rw [decide_eq_true hn, if_neg (by decide)]
      exact ⟨hout, .inr (.inl rfl)⟩
    · rw [decide_eq_false hn, if_pos (show b01 false = 0 from rfl)]
      refine ⟨hout, .inr (.inr (.inr (.inr (.inr (.inr (.inl ⟨rfl, S, v, rfl, ?_, by omega⟩))))))⟩
      rcases hv with q | q
      · exact q
      · omega
  · cases (show pc = 5 from h)
    cases (show stk = S ++ [v] from hs)
    rw [show (MS.mk 5 (S ++ [v]) mem bak plc out).pc = 5 from rfl, T.t5] at e
    have e := Option.some.inj e
    cases dbl with
    | true =>
      change doOp (evOf img num) 34 0 6 _ = m' at e
      rw [doOp_of (d := dDouble) rfl] at e
      subst e
      unfold dDouble
      rw [top_app, pop_app, push_mk, push_mk]
      exact ⟨hout, .inr (.inr (.inr (.inr (.inr (.inr (.inr (.inl ⟨rfl, rfl, S, v, rfl, hv, h0⟩)))))))⟩
    | false =>
      change doOp (evOf img num) 46 0 0 _ = m' at e
      rw [doOp_of (d := dEmit) rfl] at e
      subst e
      unfold dEmit
      rw [top_app, pop_app]
      refine ⟨fun x hx => ?_, .inl rfl⟩
      rcases List.mem_append.mp hx with q | q
      · exact hout x q
      · rw [List.mem_singleton.mp q]
        exact ⟨v, hv, h0, rfl⟩
  · cases (show pc = 6 from h)
    cases (show stk = S ++ [v] ++ [v] from hs)
    rw [show (MS.mk 6 (S ++ [v] ++ [v]) mem bak plc out).pc = 6 from rfl, T.t6 hd] at e
    have e := Option.some.inj e
    rw [doOp_of (d := dPlus) rfl] at e
    subst e
    unfold dPlus dBin
    rw [top_app, pop_app, top_app, pop_app, push_mk]
    exact ⟨hout, .inr (.inr (.inr (.inr (.inr (.inr (.inr (.inr ⟨hd, rfl, S, v, rfl, hv, h0⟩)))))))⟩
  · cases (show pc = 7 from h)
    cases (show stk = S ++ [v + v] from hs)
    rw [show (MS.mk 7 (S ++ [v + v]) mem bak plc out).pc = 7 from rfl, T.t7 hd] at e
    have e := Option.some.inj e
    rw [doOp_of (d := dEmit) rfl] at e
    subst e
    unfold dEmit
    rw [top_app, pop_app]
    refine ⟨fun x hx => ?_, .inl rfl⟩
    rcases List.mem_append.mp hx with q | q
    · exact hout x q
    · rw [List.mem_singleton.mp q, hd]
      exact ⟨v, hv, h0, rfl⟩
theorem c_run {num img : List Int} {dbl : Bool} (T : Tab dbl (tblOf (nodesL img))) : ∀ (f : Nat) (m : MS), CIn num dbl m → CIn num dbl (runM (evOf img num) f m).1
  | 0, m, I => I
  | f + 1, m, I => by
    unfold runM
    split
    · exact I
    · rename_i m' e
      exact c_run T f m' (c_step T I e)
theorem c_out {num img : List Int} {dbl : Bool} (T : Tab dbl (tblOf (nodesL img))) {fuel : Nat} : ∀ x ∈ (runF img num fuel).out, ∃ v ∈ num, 0 ≤ v ∧ x = if dbl then v + v else v :=
  (c_run T fuel startM ⟨fun x h => (by cases h), .inl rfl⟩).1
end Q3

set_option Elab.async false
set_option linter.all false
set_option maxRecDepth 100000
set_option maxHeartbeats 4000000
/-! the law's plans, in plain Lean -/
namespace Q3
open PySem PySem.Spec PyProof.Rows L2
section
variable {names : List Str} {n : Nat} {R R0 : List Rl}
def gsOf (names : List Str) : List Str := [nmD names 0, nmD names 1, nmD names 2, nmD names 3, nmD names 4]
def rkOf (names : List Str) (x : Str) : Nat := names.idxOf x
theorem rk_nm (ln : names.length = 12) (nn : names.Nodup) {i : Nat} (hi : i < 12) : rkOf names (nmD names i) = i := by
  have h1 := nmD_opt (names := names) (i := i) (by omega)
  have hm : nmD names i ∈ names := List.mem_of_getElem? h1
  have hl : names.idxOf (nmD names i) < names.length := List.idxOf_lt_length_iff.mpr hm
  have h2 : names[names.idxOf (nmD names i)]? = some (nmD names i) := by
    rw [List.getElem?_eq_getElem hl, List.getElem_idxOf]
  exact nd_ix nn h2 h1
theorem mem_gs {x : Str} : x ∈ gsOf names ↔ ∃ i, i < 5 ∧ x = nmD names i := by
  unfold gsOf
  simp only [List.mem_cons, List.not_mem_nil, or_false]
  constructor
  · rintro (h | h | h | h | h)
    · exact ⟨0, by decide, h⟩
    · exact ⟨1, by decide, h⟩
    · exact ⟨2, by decide, h⟩
    · exact ⟨3, by decide, h⟩
    · exact ⟨4, by decide, h⟩
  · rintro ⟨i, hi, h⟩
    match i, hi with
    | 0, _ => exact .inl h
    | 1, _ => exact .inr (.inl h)
    | 2, _ => exact .inr (.inr (.inl h))
    | 3, _ => exact .inr (.inr (.inr (.inl h)))
    | 4, _ => exact .inr (.inr (.inr (.inr h)))
theorem nm_inj (ln : names.length = 12) (nn : names.Nodup) {i j : Nat} (hi : i < 12) (hj : j < 12) (h : nmD names i = nmD names j) : i = j := by
  apply Classical.byContradiction
  intro hne
  exact nmD_ne nn (by omega) (by omega) hne h
theorem rule_at (ok : RulesOk names n R0) {r : Rl} (h : r ∈ R0) : ∃ k, k < n ∧ R0[k]? = some r ∧ RuleOk names k r := by
  obtain ⟨k, hk⟩ := List.mem_iff_getElem?.mp h
  have := (List.getElem?_eq_some_iff.mp hk).1
  exact ⟨k, by rw [← ok.1]; exact this, hk, ok.2 k r hk⟩
theorem part_at {k : Nat} {r : Rl} (h : RuleOk names k r) {p : Str} (hp : p ∈ r.parts) : ∃ j, j ≤ 4 + k ∧ p = nmD names j := by
  rcases List.mem_cons.mp hp with e | e
  · obtain ⟨j, h1, h2⟩ := h.tool
    exact ⟨j, h1, e.trans h2⟩
  · obtain ⟨j, _, h1, h2⟩ := h.src p e
    exact ⟨j, h1, h2⟩
theorem plan_ok0 (ln : names.length = 12) (nn : names.Nodup) (hn : n ≤ 7) (ok : RulesOk names n R0) : PlanOk R0 (gsOf names) (rkOf names) := by
  have tt : R0.map Rl.t = (List.range n).map fun k => nmD names (5 + k) := by
    apply List.ext_getElem?
    intro k
    rw [List.getElem?_map, List.getElem?_map]
    by_cases h : k < n
    · have hk : k < R0.length := by rw [ok.1]; exact h
      rw [List.getElem?_range h, List.getElem?_eq_getElem hk]
      show some (R0[k].t) = some _
      rw [(ok.2 k _ (List.getElem?_eq_getElem hk)).t]
    · have hk : ¬ k < R0.length := by rw [ok.1]; exact h
      rw [List.getElem?_eq_none (by omega), List.getElem?_eq_none (by rw [List.length_range]; omega)]
      rfl
  refine ⟨?_, fun r hr hg => ?_, fun r hr p hp => ?_, fun r hr p hp => ?_, by rw [ok.1]; omega, fun r hr => ?_⟩
  · rw [tt]
    unfold List.Nodup
    rw [List.pairwise_map]
    refine List.Pairwise.imp_of_mem (R := fun a b => a ≠ b) (fun {a b} ha hb hne e => ?_) List.nodup_range
    have := List.mem_range.mp ha
    have := List.mem_range.mp hb
    have := nm_inj ln nn (by omega) (by omega) e
    omega
  · obtain ⟨k, hk, _, h⟩ := rule_at ok hr
    obtain ⟨i, hi, e⟩ := mem_gs.mp hg
    rw [h.t] at e
    have := nm_inj ln nn (by omega) (by omega) e
    omega
  · obtain ⟨k, hk, _, h⟩ := rule_at ok hr
    obtain ⟨j, hj, rfl⟩ := part_at h hp
    by_cases h5 : j < 5
    · exact .inl (mem_gs.mpr ⟨j, h5, rfl⟩)
    · have hl : j - 5 < R0.length := by rw [ok.1]; omega
      refine .inr ⟨R0[j - 5], List.getElem_mem hl, ?_⟩
      rw [(ok.2 (j - 5) _ (List.getElem?_eq_getElem hl)).t]
      congr 1
      omega
  · obtain ⟨k, hk, _, h⟩ := rule_at ok hr
    obtain ⟨j, hj, rfl⟩ := part_at h hp
    rw [h.t, rk_nm ln nn (by omega), rk_nm ln nn (by omega)]
    omega
  · obtain ⟨k, hk, _, h⟩ := rule_at ok hr
    exact h.len
/-! what the targets hold -/
def Tm (i : Nat) (v : Int) : Prop := v = -1 ∨ ∃ d : Nat, d ≤ 10 ∧ ∃ j : Nat, j ≤ i ∧ v = ((d * 2 ^ j : Nat) : Int)
theorem Tm.mono {i j : Nat} {v : Int} (h : Tm i v) (hij : i ≤ j) : Tm j v := h.imp id fun ⟨d, hd, m, hm, e⟩ => ⟨d, hd, m, by omega, e⟩
theorem Tm.dbl {i : Nat} {v : Int} (h : Tm i v) (h0 : 0 ≤ v) : Tm (i + 1) (v + v) := by
  rcases h with h | ⟨d, hd, m, hm, e⟩
  · omega
  · refine .inr ⟨d, hd, m + 1, by omega, ?_⟩
    rw [e, Nat.pow_succ, ← Nat.mul_assoc]
    omega
theorem tm_nums : ∀ d < 11, ∀ j < 9, d * 2 ^ j ≠ 46 ∧ d * 2 ^ j ≤ 4096 := by decide +kernel
theorem Tm.no46 {i : Nat} (hi : i ≤ 8) {v : Int} (h : Tm i v) : v ≠ 46 := by
  rcases h with h | ⟨d, hd, m, hm, e⟩
  · omega
  · have := (tm_nums d (by omega) m (by omega)).1
    omega
theorem Tm.small {i : Nat} (hi : i ≤ 8) {v : Int} (h : Tm i v) : -4096 ≤ v ∧ v ≤ 4096 := by
  rcases h with h | ⟨d, hd, m, hm, e⟩
  · omega
  · have := (tm_nums d (by omega) m (by omega)).2
    omega
theorem catF_mem {φ : Val} {v : Int} : ∀ {l : List Str} {num : List Int}, catF φ l = some num → v ∈ num → ∃ s ∈ l, ∃ z, φ s = some z ∧ v ∈ z
  | [], num, h, hv => by
    cases h
    exact (List.not_mem_nil hv).elim
  | s :: r, num, h, hv => by
    unfold catF at h
    cases e : φ s with
    | none => rw [e] at h; cases h
    | some z =>
      rw [e] at h
      obtain ⟨c, hc, rfl⟩ := Option.map_eq_some_iff.mp h
      rcases List.mem_append.mp hv with q | q
      · exact ⟨s, List.mem_cons_self .., z, e, q⟩
      · obtain ⟨s', h1, z', h2, h3⟩ := catF_mem hc q
        exact ⟨s', List.mem_cons_of_mem _ h1, z', h2, h3⟩
theorem made_out {fuel : Nat} {φ : Val} {r : Rl} {l : List Int} (h : madeF fuel φ r = some l) : ∃ num img, catF φ r.src = some num ∧ φ r.tool = some img ∧ l = (runF img num fuel).out := by
  unfold madeF at h
  split at h
  · rename_i num img h1 h2
    split at h
    · cases h
      exact ⟨num, img, h1, h2, rfl⟩
    · cases h
  · cases h
theorem tame (ln : names.length = 12) (nn : names.Nodup) (hn : n ≤ 7) (ok : RulesOk names n R0) {nums : List Int} (hb : ∀ v ∈ nums, -1 ≤ v ∧ v ≤ 10) {fuel : Nat} {φ : Val} (sol : Sol R0 (givL names nums) fuel φ) :
    ∀ (k : Nat) (r : Rl), R0[k]? = some r → ∀ l, φ r.t = some l → ∀ v ∈ l, Tm (k + 1) v := by
  have g : ∀ q ∈ givL names nums, φ q.1 = some q.2 := fun q hq => sol.g q.1 q.2 hq
  have t4 : ∀ v ∈ nums, Tm 0 v := fun v hv => by
    have := hb v hv
    by_cases e : v = -1
    · exact .inl e
    · exact .inr ⟨v.toNat, by omega, 0, Nat.le_refl _, by rw [Nat.pow_zero, Nat.mul_one]; omega⟩
  intro k
  induction k using Nat.strongRecOn with
  | _ k ih =>
    intro r hr l hl
    have hm : r ∈ R0 := List.mem_of_getElem? hr
    have hk : k < n := by rw [← ok.1]; exact (List.getElem?_eq_some_iff.mp hr).1
    have ro := ok.2 k r hr
    have known : ∀ j, 4 ≤ j → j ≤ 4 + k → ∀ z, φ (nmD names j) = some z → ∀ v ∈ z, Tm k v := fun j h4 hj z hz v hv => by
      by_cases e : j = 4
      · subst e
        rw [g (nmD names 4, nums) (by simp [givL])] at hz
        cases hz
        exact (t4 v hv).mono (Nat.zero_le _)
      · have hl' : j - 5 < R0.length := by rw [ok.1]; omega
        have h1 := ok.2 (j - 5) _ (List.getElem?_eq_getElem hl')
        have e2 : (R0[j - 5]).t = nmD names j := by
          rw [h1.t]
          congr 1
          omega
        exact (ih (j - 5) (by omega) _ (List.getElem?_eq_getElem hl') z (by rw [e2]; exact hz) v hv).mono (by omega)
    rw [sol.r r hm] at hl
    obtain ⟨num, img, h1, h2, rfl⟩ := made_out hl
    have hnum : ∀ v ∈ num, Tm k v := fun v hv => by
      obtain ⟨s, hs, z, hz, hv2⟩ := catF_mem h1 hv
      obtain ⟨j, j1, j2, rfl⟩ := ro.src s hs
      exact known j j1 j2 z hz v hv2
    obtain ⟨j, hj, et⟩ := ro.tool
    rw [et] at h2
    have none46 : (46 : Int) ∉ img → ∀ v ∈ (runF img num fuel).out, Tm (k + 1) v := fun h v hv => by
      rw [run_no46 h] at hv
      exact (List.not_mem_nil hv).elim
    by_cases j4 : 4 ≤ j
    · exact none46 fun h => (known j j4 hj img h2 46 h).no46 (by omega) rfl
    · match j, j4 with
      | 0, _ =>
        rw [g (nmD names 0, copyL) (by simp [givL])] at h2
        cases h2
        intro v hv
        obtain ⟨u, hu, h0, e⟩ := c_out (img := imgC) tabC v hv
        rw [e]
        exact (hnum u hu).mono (Nat.le_succ _)
      | 1, _ =>
        rw [g (nmD names 1, doubleL) (by simp [givL])] at h2
        cases h2
        intro v hv
        have hd : doubleL = imgD := by decide +kernel
        rw [hd] at hv
        obtain ⟨u, hu, h0, e⟩ := c_out (img := imgD) tabD v hv
        rw [e]
        exact (hnum u hu).dbl h0
      | 2, _ =>
        rw [g (nmD names 2, loopL) (by simp [givL])] at h2
        cases h2
        exact none46 (show (46 : Int) ∉ loopL by decide)
      | 3, _ =>
        rw [g (nmD names 3, []) (by simp [givL])] at h2
        cases h2
        exact none46 (show (46 : Int) ∉ [] by decide)
      | j + 4, h => exact absurd (by omega) h
theorem small_tg (ln : names.length = 12) (nn : names.Nodup) (hn : n ≤ 7) (ok : RulesOk names n R0) {nums : List Int} (hb : ∀ v ∈ nums, -1 ≤ v ∧ v ≤ 10) {fuel : Nat} {φ : Val} (sol : Sol R0 (givL names nums) fuel φ) {x : Str} (hx : ∃ r ∈ R0, r.t = x) :
    ∀ l, φ x = some l → IntsSmall l := fun l hl => by
  obtain ⟨r, hr, rfl⟩ := hx
  obtain ⟨k, hk, hat, _⟩ := rule_at ok hr
  exact ⟨sol.z _ _ hl, fun v hv => (tame ln nn hn ok hb sol k r hat l hl v hv).small (by omega)⟩
end
end Q3

set_option Elab.async false
set_option linter.all false
set_option maxRecDepth 100000
set_option maxHeartbeats 4000000
/-! small facts for the law -/
namespace Q3
open PySem PySem.Spec PyProof.Rows L2
theorem lt_tr : ∀ {a b c : List Nat}, ltCps b a = false → ltCps c b = false → ltCps c a = false
  | [], [], _, _, h => h
  | [], _ :: _, [], h, h' => rfl
  | [], _ :: _, _ :: _, _, _ => rfl
  | _ :: _, [], _, h, _ => by simp [ltCps] at h
  | _ :: _, _ :: _, [], _, h => by simp [ltCps] at h
  | x :: a, y :: b, z :: c, h, h' => by
    simp only [ltCps, Bool.or_eq_false_iff, Bool.and_eq_false_iff, decide_eq_false_iff_not, beq_eq_false_iff_ne] at h h' ⊢
    refine ⟨by omega, ?_⟩
    by_cases e : z = x
    · right
      have e1 : y = x := by omega
      have e2 : z = y := by omega
      rcases h.2 with q | q
      · exact absurd e1 q
      · rcases h'.2 with q' | q'
        · exact absurd e2 q'
        · exact lt_tr q q'
    · exact .inl e
theorem lt_as : ∀ {a b : List Nat}, ltCps a b = false → ltCps b a = false → a = b
  | [], [], _, _ => rfl
  | [], _ :: _, h, _ => by simp [ltCps] at h
  | _ :: _, [], _, h => by simp [ltCps] at h
  | x :: a, y :: b, h, h' => by
    simp only [ltCps, Bool.or_eq_false_iff, Bool.and_eq_false_iff, decide_eq_false_iff_not, beq_eq_false_iff_ne] at h h'
    have e : x = y := by omega
    subst e
    rcases h.2 with q | q
    · exact absurd rfl q
    · rcases h'.2 with q' | q'
      · exact absurd rfl q'
      · rw [lt_as q q']
theorem pw_rising : ∀ {l : List Str} {p : Str}, risingS p l = true → (p :: l).Pairwise fun a b => ltCps b.cps.toList a.cps.toList = false
  | [], p, _ => List.pairwise_singleton _ _
  | x :: r, p, h => by
    unfold risingS at h
    rw [Bool.and_eq_true, Bool.not_eq_true'] at h
    have ih := pw_rising h.2
    refine List.pairwise_cons.mpr ⟨fun y hy => ?_, ih⟩
    rcases List.mem_cons.mp hy with e | e
    · rw [e]; exact h.1
    · exact lt_tr h.1 ((List.pairwise_cons.mp ih).1 y e)
theorem pw_sorted {l : List Str} (h : sortedS l = true) : l.Pairwise fun a b => ltCps b.cps.toList a.cps.toList = false := by
  cases l with
  | nil => exact List.Pairwise.nil
  | cons x r => exact pw_rising h
theorem str_ext {a b : Str} (h : a.cps.toList = b.cps.toList) : a = b := by
  obtain ⟨a⟩ := a
  obtain ⟨b⟩ := b
  have : a = b := Array.toList_inj.mp h
  rw [this]
theorem sorted_one {l m : List Str} (hl : sortedS l = true) (hm : sortedS m = true) (p : l.Perm m) : l = m :=
  List.Perm.eq_of_pairwise (le := fun a b : Str => ltCps b.cps.toList a.cps.toList = false) (fun a b _ _ h h' => str_ext (lt_as h' h)) (pw_sorted hl) (pw_sorted hm) p
theorem dpAll_strs {K : PySem.W.Frag} {H : Hp} : ∀ ns : List Str, DpAll K H (ns.map V.str) (ns.map PyData.str)
  | [] => .nil
  | n :: ns => .cons (.str n) (dpAll_strs ns)
theorem strOk_of {x : Str} (h : ∀ c ∈ x.cps.toList, c < 1114112) : PyData.strOk x = true := by
  unfold PyData.strOk
  rw [← Array.all_toList, List.all_eq_true]
  intro c hc
  exact decide_eq_true (h c hc)
theorem canLay_strs : ∀ {ns : List Str}, (∀ x ∈ ns, PyData.strOk x = true) → PyData.canLayAll0 (ns.map PyData.str) = true
  | [], _ => by simp [PyData.canLayAll0]
  | n :: r, h => by simp [PyData.canLayAll0, PyData.canLay0, canLay_strs fun x hx => h x (List.mem_cons_of_mem _ hx), h n (List.mem_cons_self ..)]
theorem depth_strs : ∀ ns : List Str, PyData.depthAll (ns.map PyData.str) ≤ 1
  | [] => by simp [PyData.depthAll]
  | n :: r => by
    have := depth_strs r
    simp only [List.map_cons, PyData.depthAll, PyData.depth]
    omega
theorem shaped_strs {ns : List Str} (h : ∀ x ∈ ns, PyData.strOk x = true) : SeqAt.shaped (.list (ns.map PyData.str)) = true := by
  have h1 := depth_strs ns
  have h2 : PyData.depth (.list (ns.map PyData.str)) ≤ 64 := by simp only [PyData.depth]; omega
  show (PyData.canLay0 (.list (ns.map PyData.str)) && decide (PyData.depth (.list (ns.map PyData.str)) ≤ 64)) = true
  rw [Bool.and_eq_true]
  exact ⟨by simp only [PyData.canLay0]; exact canLay_strs h, decide_eq_true h2⟩
theorem eqv_strs {ns : List Str} (h : ∀ x ∈ ns, PyData.strOk x = true) : PyData.eqv (.list (ns.map PyData.str)) (.list (ns.map PyData.str)) = true :=
  SeqAt.eqv_refl _ (by simp only [PyData.canLay0]; exact canLay_strs h)
theorem two_len (φ : Val) : ∀ l : List Str, (l.filter fun t => (φ t).isSome).length + (l.filter fun t => (φ t).isNone).length = l.length
  | [] => rfl
  | t :: r => by
    have ih := two_len φ r
    cases e : φ t with
    | none =>
      rw [List.filter_cons_of_neg (by simp [e]), List.filter_cons_of_pos (by simp [e]), List.length_cons, List.length_cons]
      omega
    | some z =>
      rw [List.filter_cons_of_pos (by simp [e]), List.filter_cons_of_neg (by simp [e]), List.length_cons, List.length_cons]
      omega
theorem ResAt.two {H : Hp} {t c l : Addr} {φ : Val} {R : List Rl} {ys : List Str} (h : ResAt H t c l φ R ys) : ∃ kvs, H c = some (.dK kvs) ∧ kvs.length + ys.length = R.length ∧ kvs.map (·.1) = (okT φ R).map (Sum.inr : Str → Key) := by
  obtain ⟨kvs, g1, g2⟩ := h.ct
  refine ⟨kvs, g1, ?_, ?_⟩
  · have h1 := paired_len g2
    have h2 := h.pm.length_eq
    have h3 := two_len φ (R.map Rl.t)
    rw [List.length_map] at h3
    unfold okT at h1
    unfold badT at h2
    omega
  · have := paired_keys (key := fun q => q) (fun a kv f => f.1) g2
    rwa [List.map_id'] at this
theorem ok_perm {φ : Val} {R R' : List Rl} (h : R.Perm R') : (okT φ R).Perm (okT φ R') := (h.map Rl.t).filter _
theorem bad_perm {φ : Val} {R R' : List Rl} (h : R.Perm R') : (badT φ R).Perm (badT φ R') := (h.map Rl.t).filter _
/-! the changed items -/
def chG (G : List (Str × List Int)) (x : Str) : List (Str × List Int) := G.map fun q => if q.1 = x then (x, [9, 9, 9]) else q
theorem chG_keys (G : List (Str × List Int)) (x : Str) : (chG G x).map (·.1) = G.map (·.1) := by
  unfold chG
  rw [List.map_map]
  apply List.map_congr_left
  intro q _
  show (if q.1 = x then (x, [9, 9, 9]) else q : Str × List Int).1 = q.1
  split
  · rename_i e; exact e.symm
  · rfl
theorem chG_other {G : List (Str × List Int)} {x n : Str} {l : List Int} (h : (n, l) ∈ G) (hn : n ≠ x) : (n, l) ∈ chG G x :=
  List.mem_map.mpr ⟨(n, l), h, by rw [if_neg (by exact hn)]⟩
theorem paired_put {H H' : Hp} {x : Str} {c : Addr} (hc : H' c = some (iL [9, 9, 9])) : ∀ {G : List (Str × List Int)} {kvs : List (Key × V)}, Paired (GEnt H) G kvs → (∀ q kv, GEnt H q kv → GEnt H' q kv) →
    Paired (GEnt H') (chG G x) (kvs.map fun p => if p.1 = Sum.inr x then (p.1, V.ref c) else p)
  | _, _, .nil, _ => .nil
  | q :: G, kv :: kvs, .cons h t, up => by
    show Paired (GEnt H') ((if q.1 = x then (x, [9, 9, 9]) else q) :: chG G x) ((if kv.1 = Sum.inr x then (kv.1, V.ref c) else kv) :: _)
    refine .cons ?_ (paired_put hc t up)
    by_cases e : q.1 = x
    · rw [if_pos e, if_pos (by rw [h.1, e])]
      exact ⟨by rw [h.1, e], c, rfl, hc⟩
    · rw [if_neg e, if_neg (by rw [h.1]; intro z; exact e (Sum.inr.inj z))]
      exact up q kv h
theorem putK_there {kvs : List (Key × V)} {k : Key} {v : V} (h : (valV kvs k).isSome = true) : putK kvs k v = kvs.map fun p => if p.1 = k then (p.1, v) else p := by
  unfold putK
  rw [valV_any, if_pos h]
theorem strs_mod {l : List Str} (h : 0 < l.length) (x : Int) : ∃ y, y ∈ l ∧ atI (l.map V.str) (x % ((l.map V.str).length : Int)) = some (V.str y) := by
  have e : ((l.map V.str).length : Int) = (l.length : Int) := by rw [List.length_map]
  rw [e]
  have h1 : 0 ≤ x % (l.length : Int) := Int.emod_nonneg _ (by omega)
  have h2 : x % (l.length : Int) < l.length := Int.emod_lt_of_pos _ (by omega)
  generalize x % (l.length : Int) = g at h1 h2
  have h3 : g.toNat < l.length := by omega
  refine ⟨l[g.toNat], List.getElem_mem h3, at_of (j := g.toNat) (by omega) ?_⟩
  rw [List.getElem?_map, List.getElem?_eq_getElem h3]
  rfl
end Q3

set_option Elab.async false
set_option linter.all false
set_option maxRecDepth 100000
set_option maxHeartbeats 8000000
/-! law -/
namespace Q3
open PySem PySem.Spec PyProof.Rows L2
structure FGOk (P : Program) (w : World) (K : PySem.W.Frag) (mg : Str → Option Value) (base : Heap) (x : Str) (k : Nat) (ps : List Str) (sp : Sp) : Prop where
  ex : ∃ f fd, mg x = some (.ref f) ∧ FnG P w K mg base k f fd ps sp ∧ PySem.W.keepIn K (.ref f) = true ∧ Binds K fd ps []
theorem pe_callFG {X : Cx} {x : Str} {k : Nat} {ps : List Str} {sp : Sp} {p pos : Pos} {e : Expr} {es : List Expr} {t : TA} (G : FGOk X.prog X.w X.K X.mg X.base x k ps sp) (hgd : X.A.guards = some []) (hr : Room k X.A) (hg : Gl X x) (ha : PA X (e :: es) t) (hdb : (x == ("__debug__" : Str)) = false := by decide)
    (he : starEach (e :: es) X.env = (false, eval e X.env) :: starEach es X.env := by rfl) (hpl : (backTo pos (starEach es X.env)).any (·.1) = false := by rfl) :
    PE X (.Call (.Name x p) (e :: es) [] pos) (fun σ H Q => t σ H fun vs H1 => sp vs H1 Q E0) := by
  obtain ⟨f, fd, m, F, hk, hb⟩ := G.ex
  exact pe_callG F hgd hr hg m hk hb ha hdb he hpl
section
variable {P : Program} {w : World} {K : PySem.W.Frag} {mg : Str → Option Value} {base : Heap} {f : Addr} {fd : FuncData}
def spLaw (K : PySem.W.Frag) : Sp := fun vs H Q _ => ∃ a, ∃ ns : List Int, vs = [.ref a] ∧ SqL K H a (ns.map V.int) ∧ ns.length ≤ 63 ∧ ∀ H', Q (.bl true) H'
theorem ok_law (F : Fun K "law" "law" sLaw f fd) (T : TL mg) (ms : mg "sorted" = none) (md : mg "dict" = none) (GC : FOk P w K mg base "_law_cell" 1 ["_law_script", "_law_k"] (spCell K)) (GN : FOk P w K mg base "_law_names" 2 ["_law_cell_here"] spNames)
    (GG : FOk P w K mg base "_law_given" 2 ["_law_names_here", "_law_cell_here"] (spGiven K)) (GP : FOk P w K mg base "_law_plan" 2 ["_law_names_here", "_law_cell_here", "_law_second", "_law_count", "_law_free"] spLPlan)
    (GV : FOk P w K mg base "_law_values" 1 ["_law_cell_here", "_law_count", "_law_size"] spValues) (GR : FOk P w K mg base "_law_reach" 1 ["_law_plan_here", "_law_name"] spLReach)
    (GB : FOkK P w K mg base "build_all" 9 ["plan", "given", "fuel"] ["fuel"] 2 spBuildAll) (GX : FOk P w K mg base "part_of" 5 ["plan", "given", "names"] spPart)
    (GS : FGOk P w K mg base "_law_same" 1 ["_law_first", "_law_second", "_law_names_here"] spLSame) : FnG P w K mg base 10 f fd ["_law_script"] (spLaw K) := by
  refine Fun.okG F scLaw (fun vs H Q E h => ?_) (fun cdv A outer s H vs Q E hg hr h => ?_)
  · obtain ⟨a, ns, rfl, _⟩ := h
    rfl
  · obtain ⟨a, ns, rfl, hS, hl, q⟩ := h
    have nd := scLaw.nd
    have hu := hu_of hr
    have hu64 := hr.units
    have huA := Nat.lt_of_succ_lt hu
    have hr1 : Room 1 _ := hr.mono (by decide)
    have hr2 : Room 2 _ := hr.mono (by decide)
    have hr5 : Room 5 _ := hr.mono (by decide)
    refine ⟨_, (pss_cons (ps_set (i := 1) nd rfl (.inl rfl) (pe_callF GN hr2 (by rfl) (pa_cons (pe_callF GC hr1 (by rfl) (pa_cons (pv 0) (pa_cons pe_int pa_nil))) pa_nil)))
      (pss_cons (ps_set (i := 2) nd rfl (.inl rfl) (pe_lkv (pe_callF GG hr2 (by rfl) (pa_cons (pv 1) (pa_cons (pe_callF GC hr1 (by rfl) (pa_cons (pv 0) (pa_cons pe_int pa_nil))) pa_nil)))))
      (pss_cons (ps_set (i := 3) nd rfl (.inl rfl) (pe_callF GP hr2 (by rfl) (pa_cons (pv 1) (pa_cons (pe_callF GC hr1 (by rfl) (pa_cons (pv 0) (pa_cons pe_int pa_nil))) (pa_cons (pe_callF GC hr1 (by rfl) (pa_cons (pv 0) (pa_cons pe_int pa_nil))) (pa_cons (pe_op op_mod (pe_callF GC hr1 (by rfl) (pa_cons (pv 0) (pa_cons pe_int pa_nil))) pe_int) (pa_cons pe_bl pa_nil)))))))
      (pss_cons (ps_set (i := 4) nd rfl (.inl rfl) (pe_op op_mod (pe_callF GC hr1 (by rfl) (pa_cons (pv 0) (pa_cons pe_int pa_nil))) pe_int))
      (pss_cons (ps_setLc (i := 5) (own := [("_law_rule", 17)]) (g := gName 17) (tt := tYes) (te := tOp (rIxT K) (tVar 17) (tC (.int 0))) rfl nd rfl rfl (sw_true rfl rfl rfl rfl) (pi_list (pv 3))
          (blkOk_by (N := ["_law_script", "_law_names_here", "_law_given_here", "_law_plan_here", "_law_budget", "_law_targets", "_law_first", "_law_other", "_law_moves", "_law_k", "_law_second", "_law_name", "_law_needed", "_law_part", "_law_chosen", "_law_item", "_law_changed", "_law_rule", "_law_target"]) (sc := defScope sLaw) (by decide +kernel)) (fun _ _ _ _ _ => pg_name (i := 17) nd rfl (Or.inl rfl)) (fun _ _ _ _ _ => pts_nil) (fun _ _ _ _ _ => (pe_ix (ix_tupK (K := K)) (pv 17) pe_int (fun _ _ => rfl))))
      (pss_cons (ps_set (i := 6) nd rfl (.inl rfl) (pe_callFK GB hr (by rfl) (pa_cons (pv 3) (pa_cons (pv 2) pa_nil)) (pk_cons (pv 4) pk_nil)))
      (pss_cons (ps_if (pt_cmpR op_ne (pe_op op_add (pe_callB call_lenD (by rfl) T.len PySem.boot_len (pa_cons (pe_ix ix_tup (pv 6) pe_int (fun _ _ => rfl)) pa_nil)) (pe_callB call_len_seq (by rfl) T.len PySem.boot_len (pa_cons (pe_ix ix_tup (pv 6) pe_int (fun _ _ => rfl)) pa_nil))) (pe_callB call_len_seq (by rfl) T.len PySem.boot_len (pa_cons (pv 3) pa_nil)) (nomark _)) (pss_one (ps_ret pe_bl)) pss_nil)
      (pss_cons (ps_set (i := 7) nd rfl (.inl rfl) (pe_lst pa_nil))
      (pss_cons (ps_set (i := 8) nd rfl (.inl rfl) (pe_callF GV hr1 (by rfl) (pa_cons (pe_callF GC hr1 (by rfl) (pa_cons (pv 0) (pa_cons pe_int pa_nil))) (pa_cons (pe_callB call_len_seq (by rfl) T.len PySem.boot_len (pa_cons (pv 3) pa_nil)) (pa_cons pe_int pa_nil)))))
      (pss_cons (ps_for PassesOwn.never rfl (pi_range1 (by rfl) T.range (pa_cons (pe_callB call_len_seq (by rfl) T.len PySem.boot_len (pa_cons (pv 3) pa_nil)) pa_nil)) (pg_name (i := 9) nd rfl (.inl rfl)) (pss_one (ps_expr (pe_bm PySem.F.plainAttrs_list PySem.F.slot_list_insert PySem.F.type_list_insert mt_insert (pv 7) (pa_cons (pe_op op_mod (pe_ix ix_list (pv 8) (pv 9) (fun _ _ => rfl)) (pe_op op_add (pe_callB call_len_seq (by rfl) T.len PySem.boot_len (pa_cons (pv 7) pa_nil)) pe_int)) (pa_cons (pe_ix ix_list (pv 3) (pv 9) (fun _ _ => rfl)) pa_nil))))))
      (pss_cons (ps_set (i := 10) nd rfl (.inl rfl) (pe_callFK GB hr (by rfl) (pa_cons (pv 7) (pa_cons (pv 2) pa_nil)) (pk_cons (pv 4) pk_nil)))
      (pss_cons (ps_if (PW.pt (pw_or (pt_not (pt_val (pe_callFG GS hg hr1 (by rfl) (pa_cons (pv 6) (pa_cons (pv 10) (pa_cons (pv 5) pa_nil)))))) (pw_or (pt_cmpR (op_neD hu64) (pe_callB (call_sortedD rfl) (by rfl) ms (by decide +kernel) (pa_cons (pe_ix ix_tup (pv 10) pe_int (fun _ _ => rfl)) pa_nil)) (pe_callB (call_sortedD rfl) (by rfl) ms (by decide +kernel) (pa_cons (pe_ix ix_tup (pv 6) pe_int (fun _ _ => rfl)) pa_nil)) (nomark _)) (pw_or1 (pt_cmpR (op_neD hu64) (pe_ix ix_tup (pv 10) pe_int (fun _ _ => rfl)) (pe_ix ix_tup (pv 6) pe_int (fun _ _ => rfl)) (nomark _)))))) (pss_one (ps_ret pe_bl)) pss_nil)
      (pss_cons (ps_if (pt_cmpR op_eq (pe_callB call_len_seq (by rfl) T.len PySem.boot_len (pa_cons (pv 3) pa_nil)) pe_int (nomark _)) (pss_one (ps_ret (pe_and (pe_cmpR (op_eq_dictA huA) (pe_ix ix_tup (pv 6) pe_int (fun _ _ => rfl)) pe_dnewK (by rfl)) (pe_one (pe_cmpR (op_eqD hu64) (pe_ix ix_tup (pv 6) pe_int (fun _ _ => rfl)) (pe_lst pa_nil) (by rfl)))))) pss_nil)
      (pss_cons (ps_set (i := 11) nd rfl (.inl rfl) (pe_ix ix_list (pv 5) (pe_op op_mod (pe_callF GC hr1 (by rfl) (pa_cons (pv 0) (pa_cons pe_int pa_nil))) (pe_callB call_len_seq (by rfl) T.len PySem.boot_len (pa_cons (pv 5) pa_nil))) (fun _ _ => rfl)))
      (pss_cons (ps_set (i := 12) nd rfl (.inr rfl) (pe_op op_cat (pe_lst (pa_cons (pv 11) pa_nil)) (pe_callF GR hr1 (by rfl) (pa_cons (pv 3) (pa_cons (pv 11) pa_nil)))))
      (pss_cons (ps_set (i := 13) nd rfl (.inl rfl) (pe_callFK GB hr (by rfl) (pa_cons (pe_callF GX hr5 (by rfl) (pa_cons (pv 3) (pa_cons (pv 2) (pa_cons (pe_lst (pa_cons (pv 11) pa_nil)) pa_nil)))) (pa_cons (pv 2) pa_nil)) (pk_cons (pv 4) pk_nil)))
      (pss_cons (ps_setLc (i := 14) (own := [("_law_target", 18)]) (g := gName 18) (tt := tTest (tOp (rIn K false) (tVar 18) (tVar 12))) (te := tVar 18) rfl nd rfl rfl (sw_true rfl rfl rfl rfl) (pi_list (pv 5))
          (blkOk_by (N := ["_law_script", "_law_names_here", "_law_given_here", "_law_plan_here", "_law_budget", "_law_targets", "_law_first", "_law_other", "_law_moves", "_law_k", "_law_second", "_law_name", "_law_needed", "_law_part", "_law_chosen", "_law_item", "_law_changed", "_law_rule", "_law_target"]) (sc := defScope sLaw) (by decide +kernel)) (fun _ _ _ _ _ => pg_name (i := 18) nd rfl (Or.inl rfl)) (fun _ _ _ _ _ => pts_one (pt_cmpR (op_in_seqK (K := K)) (pv 18) (pv 12) (by rfl))) (fun _ _ _ _ _ => pv 18))
      (pss_cons (ps_if (PW.pt (pw_or (pt_not (pt_val (pe_callFG GS hg hr1 (by rfl) (pa_cons (pv 6) (pa_cons (pv 13) (pa_cons (pv 14) pa_nil)))))) (pw_or1 (pt_cmpR op_ne (pe_op op_add (pe_callB call_lenD (by rfl) T.len PySem.boot_len (pa_cons (pe_ix ix_tup (pv 13) pe_int (fun _ _ => rfl)) pa_nil)) (pe_callB call_len_seq (by rfl) T.len PySem.boot_len (pa_cons (pe_ix ix_tup (pv 13) pe_int (fun _ _ => rfl)) pa_nil))) (pe_callB call_len_seq (by rfl) T.len PySem.boot_len (pa_cons (pv 14) pa_nil)) (nomark _))))) (pss_one (ps_ret pe_bl)) pss_nil)
      (pss_cons (ps_for PassesOwn.never rfl (pi_list (pe_slice sl_list (pv 1) po_none (po_some pe_int))) (pg_name (i := 15) nd rfl (.inl rfl)) (pss_one (ps_if (pt_cmpR op_notIn_seq (pv 15) (pv 12) (by rfl)) (pss_cons (ps_set (i := 16) nd rfl (.inl rfl) (pe_callTy call_dictD (by rfl) md (by decide +kernel) (pa_cons (pv 2) pa_nil)))
      (pss_cons (ps_dput hu (pv 16) (pv 15) (pe_lst (pa_cons pe_int (pa_cons pe_int (pa_cons pe_int pa_nil)))) rfl)
      (pss_one (ps_if (pt_not (pt_val (pe_callFG GS hg hr1 (by rfl) (pa_cons (pv 6) (pa_cons (pe_callFK GB hr (by rfl) (pa_cons (pv 3) (pa_cons (pe_lkv (pv 16)) pa_nil)) (pk_cons (pv 4) pk_nil)) (pa_cons (pv 14) pa_nil)))))) (pss_one (ps_ret pe_bl)) pss_nil)))) pss_nil)))
      (pss_one (ps_ret pe_bl))))))))))))))))))))), ?_⟩
    refine ⟨_, rfl, a, ns, 0, rfl, hS, hl, _, rfl, fun H1 la names s1 n1 e1 ln nn cps => ?_⟩
    refine ⟨_, rfl, _, rfl, a, ns, 1, rfl, s1.seq hS, hl, la, _, names, rfl, e1, ln, nn, fun H2 g nums kvs s2 ng eg pg hb hl6 => ⟨g, _, rfl, eg, trivial, fun ob => ?_⟩⟩
    have s12 : Same H1 (upd H2 g (.frz ob (.dK kvs))) := fun b o e => by rw [upd_ne (ne_of_none e ng)]; exact s2 _ _ e
    have s3 := s1.trans s12
    have eN3 := s12 _ _ e1
    have gv3 : GivAt (upd H2 g (.frz ob (.dK kvs))) g (givL names nums) := ⟨kvs, ob, upd_same, Paired.mapP pg fun _ _ z => z.to fun c o e _ k2 => by
      rw [upd_ne fun z => ?_]
      · exact e
      · rw [z, eg] at e
        exact k2 _ (Option.some.inj e).symm⟩
    generalize upd H2 g (.frz ob (.dK kvs)) = H3 at s12 s3 eN3 gv3 ⊢
    clear s2 ng eg pg
    obtain ⟨n, en, hn⟩ : ∃ n : Nat, ns.getD 4 0 % 8 = (n : Int) ∧ n ≤ 7 := ⟨(ns.getD 4 0 % 8).toNat, by omega, by omega⟩
    obtain ⟨bu, eb, hbu⟩ : ∃ n : Nat, ns.getD 5 0 % 201 = (n : Int) ∧ n ≤ 1000 := ⟨(ns.getD 5 0 % 201).toNat, by omega, by omega⟩
    refine ⟨_, rfl, _, rfl, a, ns, 2, rfl, s3.seq hS, hl, _, rfl, a, ns, 3, rfl, s3.seq hS, hl, _, rfl, a, ns, 4, rfl, s3.seq hS, hl, _, _, rfl, rfl, (by show (0 : Int) < 8; decide), la, ns.getD 2 0, ns.getD 3 0, n, names, ?_, eN3, ln, hn, fun H4 p R R0 s4 np pl pm ok => ?_⟩
    · show [V.ref la, V.int (ns.getD 2 0), V.int (ns.getD 3 0), V.int (ns.getD 4 0 % 8), V.bl true] = _
      rw [en]
    have s04 := s3.trans s4
    have gv4 := gv3.same fun c o e _ _ => s4 c o e
    have eN4 := s4 _ _ eN3
    refine ⟨_, rfl, a, ns, 5, rfl, s04.seq hS, hl, _, _, rfl, rfl, (by show (0 : Int) < 201; decide), ?_⟩
    obtain ⟨as, ea, pr⟩ := id pl
    have lenR : (as.map V.ref).length = R.length := by rw [List.length_map, paired_len pr]
    have lR : R.length = n := by rw [pm.length_eq]; exact ok.1
    refine ⟨_, rfl, p, rfl, ⟨_, SqL.of ea⟩, fun D hD => lc_list (K := K) (a := p) (xs := as.map V.ref) (fun i H5 => Same H4 H5 ∧ H5 D = some (.lst (((R.take i).map Rl.t).map V.str))) ?_ ?_ ?_ ?_⟩
    · exact ⟨Same.one hD, upd_same⟩
    · rintro i H5 _ ⟨s5, _⟩
      exact SqL.of (s5 _ _ ea)
    · rintro i x H5 hx ⟨s5, e5⟩
      rw [List.getElem?_map] at hx
      obtain ⟨a', ha, rfl⟩ := Option.map_eq_some_iff.mp hx
      obtain ⟨r, hr2, b, ra1, ra2⟩ := paired_get pr ha
      have hi := (List.getElem?_eq_some_iff.mp hr2).1
      refine ⟨rfl, ?_⟩
      refine ⟨_, rfl, _, _, _, _, rfl, rfl, SqT.of (s5 _ _ ra1), atI_nat (j := 0) rfl, _, e5, ?_, ?_, ?_⟩
      · rw [List.length_map, List.length_map, List.length_take, sizeLine_eq]; omega
      · intro b' o hb'
        rw [upd_ne (ne_of_none hb' hD)]
        exact s5 _ _ hb'
      · rw [upd_same, List.take_add_one, hr2]
        show _ = some (HO.lst _)
        rw [List.map_append, List.map_append]
        rfl
    rintro H5 ⟨s5, eT⟩
    rw [lenR, List.take_length] at eT
    have ok0 := plan_ok0 ln nn hn ok
    have okR := ok0.perm pm
    have gk : (givL names nums).map (·.1) = gsOf names := rfl
    have ndG : ((givL names nums).map (·.1)).Nodup := by
      rw [gk]
      have h : ∀ i j, i < 5 → j < 5 → i ≠ j → nmD names i ≠ nmD names j := fun i j hi hj hne => nmD_ne nn (by omega) (by omega) hne
      unfold gsOf
      simp only [List.nodup_cons, List.mem_cons, List.not_mem_nil, or_false, not_or]
      refine ⟨⟨h 0 1 (by decide) (by decide) (by decide), h 0 2 (by decide) (by decide) (by decide), h 0 3 (by decide) (by decide) (by decide), h 0 4 (by decide) (by decide) (by decide)⟩, ⟨h 1 2 (by decide) (by decide) (by decide), h 1 3 (by decide) (by decide) (by decide), h 1 4 (by decide) (by decide) (by decide)⟩, ⟨h 2 3 (by decide) (by decide) (by decide), h 2 4 (by decide) (by decide) (by decide)⟩, h 3 4 (by decide) (by decide) (by decide), fun z => z, List.nodup_nil⟩
    have hzG : ∀ n l, (n, l) ∈ givL names nums → l.length ≤ 1000 := by
      intro n l hm
      simp only [givL, List.mem_cons, Prod.mk.injEq, List.not_mem_nil, or_false] at hm
      rcases hm with ⟨_, rfl⟩ | ⟨_, rfl⟩ | ⟨_, rfl⟩ | ⟨_, rfl⟩ | ⟨_, rfl⟩
      · decide
      · decide +kernel
      · decide
      · decide
      · omega
    have okG0 : PlanOk R0 ((givL names nums).map (·.1)) (rkOf names) := ok0
    have okG : PlanOk R ((givL names nums).map (·.1)) (rkOf names) := okR
    obtain ⟨φ, sol0⟩ : ∃ φ, Sol R0 (givL names nums) bu φ := ⟨_, sol_ex okG0 ndG hbu hzG⟩
    have sol : Sol R (givL names nums) bu φ := sol0.perm fun r h => pm.mem_iff.mp h
    have s45 := s04.trans s5
    refine ⟨_, rfl, _, rfl, _, rfl, rfl, rfl, p, g, R, givL names nums, rkOf names, bu, φ, ?_, pl.same s5, gv4.same (fun c o e _ _ => s5 c o e), okG, by show 5 ≤ 1000; decide, ndG, hbu, sol, fun H6 t1 c1 l1 ys1 s6 r1 nc1 => ?_⟩
    · show [V.ref p, V.ref g] ++ [V.int (ns.getD 5 0 % 201)] = _
      rw [eb]
      rfl
    obtain ⟨kv1, ec1, len1, ky1⟩ := r1.two
    have s56 := s5.trans s6
    have ea6 := s56 _ _ ea
    refine ⟨_, rfl, t1, _, _, _, rfl, rfl, SqT.of r1.tp, atI_nat (j := 0) rfl, c1, kv1, rfl, ec1, _, rfl, t1, _, _, _, rfl, rfl, SqT.of r1.tp, atI_nat (j := 1) rfl, l1, _, rfl, .inl (SqL.of r1.fl), _, _, rfl, rfl, _, rfl, p, _, rfl, .inl (SqL.of ea6), rfl, _, rfl, iteNS ?_ ?_⟩
    · show V.int ((kv1.length : Nat) + ((ys1.map V.str).length : Nat)) = V.int (((as.map V.ref).length : Nat) : Int)
      rw [List.length_map, lenR, ← len1]
      rfl
    refine ⟨Nat.zero_le _, fun lo no => ?_⟩
    have s6o : Same H6 (upd H6 lo (.lst [])) := Same.one no
    refine ⟨_, rfl, a, ns, 6, rfl, ((s45.trans s6).trans s6o).seq hS, hl, _, rfl, p, _, rfl, .inl (SqL.of (s6o _ _ ea6)), ns.getD 6 0, (as.map V.ref).length, 97, rfl, (by omega), by decide, by decide, fun H7 lm mv s7 nm em hm hmb => ?_⟩
    have s67 : Same H6 H7 := s6o.trans s7
    have eo7 : H7 lo = some (.lst ([].map V.ref)) := s7 _ _ upd_same
    have r17 := r1.same s67
    have ea7 := s67 _ _ ea6
    have la' : as.length = n := by rw [← lR, ← lenR, List.length_map]
    refine ⟨_, rfl, p, _, rfl, .inl (SqL.of ea7), _, rfl, by omega, by omega, for_range (fun i σ H8 => ∃ x9, ∃ bs : List Addr, σ = [some (.ref a), some (.ref la), some (.ref g), some (.ref p), some (.int (ns.getD 5 0 % 201)), some (.ref D), some (.ref t1), some (.ref lo), some (.ref lm), x9, none, none, none, none, none, none, none, none, none] ∧ (∀ c o, H6 c = some o → H8 c = some o) ∧ H8 lm = some (iL mv) ∧ H8 lo = some (.lst (bs.map V.ref)) ∧ bs.Perm (as.take i)) ?_ ?_ ?_⟩
    · exact ⟨none, [], rfl, s67, em, eo7, .refl _⟩
    · rintro i σ H8 hi ⟨x9, bs, rfl, s8, em8, eo8, pmb⟩
      have hin : i < n := by
        have h : i < (((as.map V.ref).length : Nat) : Int).toNat := hi
        rw [Int.toNat_natCast, lenR, lR] at h
        exact h
      have bl : bs.length = i := by rw [pmb.length_eq, List.length_take]; omega
      have ha : as[i]? = some (as[i]'(by omega)) := List.getElem?_eq_getElem (by omega)
      have cpos : (0 : Int) < (((bs.map V.ref).length : Nat) : Int) + 1 := by omega
      have nlo : ∀ {b : Addr} {o : HO}, H6 b = some o → b ≠ lo := fun {b o} e z => by rw [z, no] at e; cases e
      have nlm : lm ≠ lo := fun z => by rw [z, upd_same] at nm; cases nm
      refine ⟨_, rfl, .inl ⟨rfl, _, SqL.of eo8⟩, _, rfl, _, rfl, _, _, _, _, rfl, rfl, SqL.of em8, at_of (j := i) (by omega) (getD_at (by omega)), _, rfl, lo, _, rfl, .inl (SqL.of eo8), _, _, rfl, rfl, _, _, rfl, rfl, cpos,
        _, rfl, _, rfl, p, _, _, .ref (as[i]'(by omega)), rfl, rfl, SqL.of (s8 _ _ ea6), at_of (j := i) (by omega) (by rw [List.getElem?_map, ha]; rfl), lo, _, _, _, rfl, rfl, eo8, ?_, Int.emod_nonneg _ (by omega), ?_, ?_⟩
      · rw [List.length_map, bl, sizeLine_eq]; omega
      · have := Int.emod_lt_of_pos (mv.getD i 0) cpos
        rw [List.length_map, bl] at this ⊢
        omega
      · refine ⟨_, bs.take (mv.getD i 0 % ((((bs.map V.ref).length : Nat) : Int) + 1)).toNat ++ [as[i]'(by omega)] ++ bs.drop (mv.getD i 0 % ((((bs.map V.ref).length : Nat) : Int) + 1)).toNat, rfl, fun b o e => ?_, ?_, ?_, ?_⟩
        · rw [upd_ne (nlo e)]
          exact s8 _ _ e
        · rw [upd_ne nlm]; exact em8
        · rw [upd_same, List.map_append, List.map_append, List.map_take, List.map_drop]
          rfl
        · rw [List.take_add_one, ha]
          exact (ins_perm _ _ _).trans (pmb.append_right _)
    rintro σ H8 ⟨x9, bs, rfl, s68, em8, eo8, pmb⟩
    have e' : as.take (((as.map V.ref).length : Nat) : Int).toNat = as := by rw [Int.toNat_natCast, List.length_map, List.take_length]
    rw [e'] at pmb
    obtain ⟨R', p1, p2⟩ := paired_perm pmb.symm pr
    have s68' : Same H6 H8 := s68
    have s48 := s56.trans s68'
    have pl2 : PlanAt H8 lo R' := ⟨bs, eo8, Paired.mapP p1 fun _ _ z => z.same s48⟩
    refine ⟨_, rfl, _, rfl, _, rfl, rfl, rfl, lo, g, R', givL names nums, rkOf names, bu, φ, ?_, pl2, gv4.same (fun c o e _ _ => s48 c o e), okG.perm p2, by show 5 ≤ 1000; decide, ndG, hbu, sol.perm fun r h => p2.mem_iff.mp h, fun H9 t2 c2 l2 ys2 s9 r2 nc2 => ?_⟩
    · show [V.ref lo, V.ref g] ++ [V.int (ns.getD 5 0 % 201)] = _
      rw [eb]
      rfl
    have tgt : ∀ x, (∃ r ∈ R, r.t = x) → ∃ r ∈ R0, r.t = x := fun x ⟨r, h1, h2⟩ => ⟨r, pm.mem_iff.mp h1, h2⟩
    have sm0 : ∀ x, (∃ r ∈ R, r.t = x) → ∀ z, φ x = some z → IntsSmall z := fun x hx => small_tg ln nn hn ok hb sol0 (tgt x hx)
    have sk : ∀ x, (∃ r ∈ R, r.t = x) → PyData.strOk x = true := fun x hx => by
      obtain ⟨r, h1, h2⟩ := tgt x hx
      obtain ⟨k, hk, _, ro⟩ := rule_at ok h1
      rw [← h2, ro.t]
      exact strOk_of (cps _ (List.mem_of_getElem? (nmD_opt (by omega))))
    have tR' : ∀ x, (∃ r ∈ R, r.t = x) → ∃ r ∈ R', r.t = x := fun x ⟨r, h1, h2⟩ => ⟨r, p2.mem_iff.mpr h1, h2⟩
    have tR : ∀ x, (∃ r ∈ R', r.t = x) → ∃ r ∈ R, r.t = x := fun x ⟨r, h1, h2⟩ => ⟨r, p2.mem_iff.mp h1, h2⟩
    have mR : ∀ x ∈ R.map Rl.t, ∃ r ∈ R, r.t = x := fun x hx => List.mem_map.mp hx
    have s69 := s68'.trans s9
    have r19 := r1.same s69
    have eT9 := s69 _ _ (s6 _ _ eT)
    have ec19 := s69 _ _ ec1
    obtain ⟨kv2, ec2, len2, ky2⟩ := r2.two
    have l1o : (okT φ R).length < 64 := by
      have := okT_len (φ := φ) (R := R)
      omega
    have l2o : (okT φ R').length < 64 := by
      have := okT_len (φ := φ) (R := R')
      have := p2.length_eq
      omega
    refine ⟨_, rfl, _, rfl, _, rfl, t1, c1, l1, φ, R, ys1, t2, c2, l2, φ, R', ys2, D, R.map Rl.t, rfl, r19, r2, okG.nd, (okG.perm p2).nd, eT9, fun x hx => ⟨mR x hx, tR' x (mR x hx), rfl, sm0 x (mR x hx)⟩, _, rfl, iteF ?_⟩
    refine ⟨_, rfl, t2, _, _, _, rfl, rfl, SqT.of r2.tp, atI_nat (j := 0) rfl, c2, kv2, okT φ R', rfl, Rd.of ec2, ky2, l2o, fun z2 q2 pm2 so2 nq2 => ?_⟩
    refine ⟨_, rfl, t1, _, _, _, rfl, rfl, SqT.of (upd_old r19.tp nq2), atI_nat (j := 0) rfl, c1, kv1, okT φ R, rfl, Rd.of (upd_old ec19 nq2), ky1, l1o, fun z1 q1 pm1 so1 nq1 => ?_⟩
    have ez : z2 = z1 := sorted_one so2 so1 (pm2.trans ((ok_perm p2).trans pm1.symm))
    subst ez
    have skz : ∀ x ∈ z2, PyData.strOk x = true := fun x hx => sk x (okT_mem (pm1.mem_iff.mp hx))
    have s9q : Same H9 (upd (upd H9 q2 (.lst (z2.map V.str))) q1 (.lst (z2.map V.str))) := fun b o e => upd_old (upd_old e nq2) nq1
    refine ⟨.list (z2.map .str), .list (z2.map .str), .lst (SqL.of (upd_old upd_same nq1)) (dpAll_strs _), .lst (SqL.of upd_same) (dpAll_strs _), shaped_strs skz, shaped_strs skz, _, rfl, ?_⟩
    rw [eqv_strs skz]
    generalize (upd (upd H9 q2 (.lst (z2.map V.str))) q1 (.lst (z2.map V.str))) = H10 at s9q ⊢
    have r2' := r2.same s9q
    have r1' := r19.same s9q
    have ey : ys2 = ys1 := sorted_one r2.so r1.so (r2.pm.trans ((bad_perm p2).trans r1.pm.symm))
    subst ey
    have sky : ∀ x ∈ ys2, PyData.strOk x = true := fun x hx => sk x (mR x (List.mem_filter.mp (r1.pm.mem_iff.mp hx)).1)
    refine iteF ⟨_, rfl, t2, _, _, _, rfl, rfl, SqT.of r2'.tp, atI_nat (j := 1) rfl, _, rfl, t1, _, _, _, rfl, rfl, SqT.of r1'.tp, atI_nat (j := 1) rfl, .list (ys2.map .str), .list (ys2.map .str), .lst (SqL.of r2'.fl) (dpAll_strs _), .lst (SqL.of r1'.fl) (dpAll_strs _), shaped_strs sky, shaped_strs sky, _, rfl, ?_⟩
    rw [eqv_strs sky]
    refine iteF ?_
    have s610 := s69.trans s9q
    have s410 := s56.trans s610
    have ea10 := s410 _ _ ea
    have ec10 := s610 _ _ ec1
    refine ⟨_, rfl, p, _, rfl, .inl (SqL.of ea10), rfl, _, rfl, ?_⟩
    by_cases n0 : n = 0
    · rw [decide_eq_true (by rw [lenR, lR, n0]; rfl)]
      refine iteT ⟨_, rfl, t1, _, _, _, rfl, rfl, SqT.of r1'.tp, atI_nat (j := 0) rfl, fun e0 ne0 => ⟨c1, e0, kv1, [], rfl, rfl, upd_old ec10 ne0, upd_same, ?_, ?_, _, rfl, iteT ?_⟩⟩
      · show kv1.length = 0
        omega
      · intro p hp
        have : kv1 = [] := List.length_eq_zero_iff.mp (by omega)
        rw [this] at hp
        exact (List.not_mem_nil hp).elim
      · have y0 : ys2 = [] := List.length_eq_zero_iff.mp (by omega)
        refine ⟨_, rfl, t1, _, _, _, rfl, rfl, SqT.of (upd_old r1'.tp ne0), atI_nat (j := 1) rfl, Nat.zero_le _, fun e1 ne1 => ⟨.list (ys2.map .str), .list [], .lst (SqL.of (upd_old (upd_old r1'.fl ne0) ne1)) (dpAll_strs _), .lst (SqL.of upd_same) .nil, shaped_strs sky, shaped_strs (ns := []) (fun x h => (List.not_mem_nil h).elim), ?_⟩⟩
        rw [y0]
        exact q _
    rw [decide_eq_false (by rw [lenR, lR]; intro z; exact n0 (by have := V.int.inj z; omega))]
    refine iteF ?_
    have eT10 := s9q _ _ eT9
    have hpos : 0 < (R.map Rl.t).length := by rw [List.length_map, lR]; omega
    obtain ⟨nm', hnm, atn⟩ := strs_mod hpos (ns.getD 7 0)
    have s010 := (s45.trans s6).trans s610
    refine ⟨_, rfl, _, rfl, a, ns, 7, rfl, s010.seq hS, hl, _, rfl, D, _, rfl, .inl (SqL.of eT10), _, _, rfl, rfl, ?_, D, _, _, _, rfl, rfl, SqL.of eT10, atn, ?_⟩
    · show (0 : Int) < (((R.map Rl.t).map V.str).length : Int)
      rw [List.length_map]; omega
    obtain ⟨rn, hrn, ern⟩ := mR nm' hnm
    refine ⟨_, rfl, (by show 1 ≤ sizeLine; decide), fun lb nb => ?_⟩
    refine ⟨_, rfl, _, rfl, p, nm', R, _, rkOf names, rfl, (pl.same s410).same (Same.one nb), okG, fun H11 lf F s11 nf ef ndF hF => ?_⟩
    have fl32 : F.length ≤ 32 := by
      have h2 := nodup_le (m := allParts R) ndF fun x hx => rc_parts ((hF x).mp hx)
      have h3 := allParts_le okG
      omega
    refine ⟨lb, lf, _, _, rfl, rfl, s11 _ _ upd_same, ef, ?_, fun ld nld => ?_⟩
    · rw [List.length_map, sizeLine_eq]
      show 1 + _ ≤ _
      omega
    have s1011 : Same H10 (upd H11 ld (.lst ([.str nm'] ++ F.map V.str))) := fun b o e => upd_old (s11 _ _ (upd_old e nb)) nld
    have eNd : (upd H11 ld (.lst ([.str nm'] ++ F.map V.str))) ld = some (.lst ((nm' :: F).map V.str)) := upd_same
    generalize upd H11 ld (.lst ([.str nm'] ++ F.map V.str)) = H12 at s1011 eNd ⊢
    clear s11 nb nf ef nld
    have s412 := s410.trans s1011
    have gv12 : GivAt H12 g (givL names nums) := gv4.same fun c o e _ _ => s412 c o e
    refine ⟨_, rfl, _, rfl, _, rfl, (by show 1 ≤ sizeLine; decide), fun lz nz => ?_⟩
    have s12z : Same H12 (upd H12 lz (.lst [.str nm'])) := Same.one nz
    refine ⟨p, g, lz, nm', R, _, rkOf names, rfl, (pl.same s412).same s12z, (gv12.same fun c o e _ _ => s12z c o e).keys, okG, upd_same, ⟨rn, hrn, ern⟩, fun H13 pp S s13 npp hS2 plP => ?_⟩
    have s1213 := s12z.trans s13
    have s413 := s412.trans s1213
    have clS : ∀ r ∈ R, S r.t = true → ∀ x ∈ r.parts, S x = true := fun r hr h x hx => by
      rw [hS2]
      rcases (hS2 _).mp h with e | e
      · exact .inr (.base hr e hx)
      · exact .inr (.step e hr rfl hx)
    have okF := okG.filter S clS
    refine ⟨_, rfl, _, rfl, rfl, rfl, pp, g, R.filter fun r => S r.t, givL names nums, rkOf names, bu, φ, ?_, plP, gv4.same (fun c o e _ _ => s413 c o e), okF, by show 5 ≤ 1000; decide, ndG, hbu, sol.perm fun r h => (List.mem_filter.mp h).1, fun H14 t3 c3 l3 ys3 s14 r3 nc3 => ?_⟩
    · show [V.ref pp, V.ref g] ++ [V.int (ns.getD 5 0 % 201)] = _
      rw [eb]
      rfl
    have s1014 := s1011.trans (s1213.trans s14)
    have eT14 := s1014 _ _ eT10
    have eNd14 := s14 _ _ (s1213 _ _ eNd)
    have SF : ∀ x, decide (x ∈ nm' :: F) = S x := fun x => by
      rw [Bool.eq_iff_iff, decide_eq_true_eq, hS2, List.mem_cons, hF]
    refine ⟨_, rfl, D, rfl, ⟨_, SqL.of eT14⟩, fun E2 hE2 => lc_list (K := K) (a := D) (xs := (R.map Rl.t).map V.str) (fun i H15 => Same H14 H15 ∧ H15 E2 = some (.lst ((((R.map Rl.t).take i).filter S).map V.str))) ?_ ?_ ?_ ?_⟩
    · exact ⟨Same.one hE2, upd_same⟩
    · rintro i H15 _ ⟨s15, _⟩
      exact SqL.of (s15 _ _ eT14)
    · rintro i x H15 hx ⟨s15, e15⟩
      rw [List.getElem?_map] at hx
      obtain ⟨y, hy, rfl⟩ := Option.map_eq_some_iff.mp hx
      have hi := (List.getElem?_eq_some_iff.mp hy).1
      have hlt : (((R.map Rl.t).take i).filter S).length < 100 := by
        have h1 := List.length_filter_le S ((R.map Rl.t).take i)
        rw [List.length_take, List.length_map] at h1
        omega
      have fs : ((R.map Rl.t).take (i + 1)).filter S = ((R.map Rl.t).take i).filter S ++ (if S y then [y] else []) := by
        rw [List.take_add_one, hy, List.filter_append]
        congr 1
        show [y].filter S = _
        rw [List.filter_cons]
        split <;> rfl
      refine ⟨rfl, ?_⟩
      refine ⟨_, rfl, _, rfl, ld, _, rfl, .inl (SqL.of (s15 _ _ eNd14)), rfl, flat_strs _, _, rfl, ?_⟩
      show ite (inV (.str y) ((nm' :: F).map V.str) = true) _ _
      rw [inV_str, SF]
      cases hSy : S y with
      | true =>
        refine iteT ⟨_, rfl, _, e15, by rw [List.length_map, sizeLine_eq]; omega, fun b o hb' => ?_, ?_⟩
        · rw [upd_ne (ne_of_none hb' hE2)]
          exact s15 _ _ hb'
        · rw [upd_same, fs, hSy, if_pos rfl, List.map_append]
          rfl
      | false =>
        refine iteF ⟨s15, ?_⟩
        rw [fs, hSy, if_neg (by decide), List.append_nil]
        exact e15
    rintro H15 ⟨s15, eCh⟩
    rw [List.length_map, List.take_length] at eCh
    have mC : ∀ x ∈ (R.map Rl.t).filter S, (∃ r ∈ R, r.t = x) ∧ S x = true := fun x hx => ⟨mR x (List.mem_filter.mp hx).1, (List.mem_filter.mp hx).2⟩
    have tF : ∀ x, (∃ r ∈ R, r.t = x) → S x = true → ∃ r ∈ R.filter (fun r => S r.t), r.t = x := fun x ⟨r, h1, h2⟩ h3 => ⟨r, List.mem_filter.mpr ⟨h1, by rw [h2]; exact h3⟩, h2⟩
    have r3' := r3.same s15
    have s1015 := s1014.trans s15
    have r115 := r1'.same s1015
    obtain ⟨kv3, ec3, len3, ky3⟩ := r3'.two
    refine ⟨_, rfl, _, rfl, _, rfl, t1, c1, l1, φ, R, ys2, t3, c3, l3, φ, R.filter fun r => S r.t, ys3, E2, (R.map Rl.t).filter S, rfl, r115, r3', okG.nd, okF.nd, eCh, fun x hx => ⟨(mC x hx).1, tF x (mC x hx).1 (mC x hx).2, rfl, sm0 x (mC x hx).1⟩, _, rfl, iteF ?_⟩
    refine ⟨_, rfl, t3, _, _, _, rfl, rfl, SqT.of r3'.tp, atI_nat (j := 0) rfl, c3, kv3, rfl, ec3, _, rfl, t3, _, _, _, rfl, rfl, SqT.of r3'.tp, atI_nat (j := 1) rfl, l3, _, rfl, .inl (SqL.of r3'.fl), _, _, rfl, rfl, _, rfl, E2, _, rfl, .inl (SqL.of eCh), rfl, _, rfl, iteNS ?_ ?_⟩
    · show V.int ((kv3.length : Nat) + ((ys3.map V.str).length : Nat)) = V.int ((((R.map Rl.t).filter S).map V.str).length : Nat)
      rw [List.length_map, List.length_map, List.filter_map, List.length_map]
      have : kv3.length + ys3.length = (R.filter (S ∘ Rl.t)).length := len3
      rw [← this]
      rfl
    have s415 := s410.trans s1015
    have eN15 := s415 _ _ eN4
    refine ⟨_, rfl, _, rfl, la, _, rfl, SqL.of eN15, fun lq nq => ?_⟩
    have s15q : Same H15 (upd H15 lq (.lst (cutV (names.map V.str) none (some 5)))) := Same.one nq
    have eq5 : (upd H15 lq (.lst (cutV (names.map V.str) none (some 5)))) lq = some (.lst ((names.take 5).map V.str)) := by
      rw [upd_same]
      unfold cutV
      rw [HT.sIx_none, show (some (5 : Int)) = some ((5 : Nat) : Int) from rfl, HT.sIx_nat, List.length_map, ln, List.drop_zero, ← List.map_take]
      rfl
    generalize upd H15 lq (.lst (cutV (names.map V.str) none (some 5))) = H16 at s15q eq5 ⊢
    refine ⟨lq, rfl, ⟨_, SqL.of eq5⟩, for_list (K := K) (a := lq) (xs := (names.take 5).map V.str) (fun i σ H17 => ∃ x15 x16, σ = [some (.ref a), some (.ref la), some (.ref g), some (.ref p), some (.int (ns.getD 5 0 % 201)), some (.ref D), some (.ref t1), some (.ref lo), some (.ref lm), x9, some (.ref t2), some (.str nm'), some (.ref ld), some (.ref t3), some (.ref E2), x15, x16, none, none] ∧ Same H16 H17) ?_ ?_ ?_ ?_⟩
    · exact ⟨none, none, rfl, Same.refl _⟩
    · rintro i σ H17 _ ⟨x15, x16, _, s17⟩
      exact SqL.of (s17 _ _ eq5)
    · rintro i x σ H17 hx ⟨x15, x16, rfl, s17⟩
      rw [List.getElem?_map] at hx
      obtain ⟨item, hit, rfl⟩ := Option.map_eq_some_iff.mp hx
      have hi5 : i < 5 := by
        have := (List.getElem?_eq_some_iff.mp hit).1
        rw [List.length_take] at this
        omega
      have eit : item = nmD names i := by
        rw [List.getElem?_take, if_pos hi5, nmD_opt (by omega)] at hit
        exact (Option.some.inj hit).symm
      have hgs : item ∈ gsOf names := mem_gs.mpr ⟨i, hi5, eit⟩
      have s1517 := s15q.trans s17
      have s417 := s415.trans s1517
      have s1217 : Same H12 H17 := (s1213.trans s14).trans (s15.trans s1517)
      refine ⟨_, rfl, _, rfl, ld, _, rfl, .inl (SqL.of (s1217 _ _ eNd)), rfl, flat_strs _, _, rfl, ?_⟩
      show ite ((if true then !inV (.str item) ((nm' :: F).map V.str) else inV (.str item) ((nm' :: F).map V.str)) = true) _ _
      rw [inV_str, SF]
      cases hSi : S item with
      | true => exact iteF ⟨_, _, rfl, s17⟩
      | false =>
        obtain ⟨kg, og, eg, pg⟩ : GivAt H17 g (givL names nums) := gv4.same fun c o e _ _ => s417 c o e
        have kgk : kg.map (·.1) = (gsOf names).map (Sum.inr : Str → Key) := paired_keys (key := fun q : Str × List Int => q.1) (fun _ _ q => q.1) pg
        have kgl : kg.length = 5 := (paired_len pg).symm
        have there : (valV kg (Sum.inr item : Key)).isSome = true := by
          rw [val_names kgk, decide_eq_true hgs]
        refine iteT ⟨_, rfl, g, kg, rfl, .inr ⟨og, eg⟩, fun dc ndc => ?_⟩
        refine ⟨(by show 3 ≤ sizeLine; decide), fun l9 n9 => ⟨_, rfl, _, rfl, _, _, rfl, DPut.k (k := Sum.inr item) (upd_old upd_same n9) (by rw [kgl, sizeLine_eq]; omega), ?_⟩⟩
        have d9 : l9 ≠ dc := fun z => by rw [z, upd_same] at n9; cases n9
        refine ⟨_, rfl, _, rfl, _, rfl, dc, _, rfl, upd_same, trivial, fun ob2 => ?_⟩
        have s18 : Same H17 (upd (upd (upd (upd H17 dc (.dK kg)) l9 (.lst [.int 9, .int 9, .int 9])) dc (.dK (putK kg (Sum.inr item) (.ref l9)))) dc (.frz ob2 (.dK (putK kg (Sum.inr item) (.ref l9))))) := fun b o e => by
          rw [upd_ne (ne_of_none e ndc), upd_ne (ne_of_none e ndc)]
          exact upd_old (upd_old e ndc) n9
        have e9 : (upd (upd (upd (upd H17 dc (.dK kg)) l9 (.lst [.int 9, .int 9, .int 9])) dc (.dK (putK kg (Sum.inr item) (.ref l9)))) dc (.frz ob2 (.dK (putK kg (Sum.inr item) (.ref l9))))) l9 = some (iL [9, 9, 9]) := by
          rw [upd_ne d9, upd_ne d9, upd_same]
          rfl
        have ed : (upd (upd (upd (upd H17 dc (.dK kg)) l9 (.lst [.int 9, .int 9, .int 9])) dc (.dK (putK kg (Sum.inr item) (.ref l9)))) dc (.frz ob2 (.dK (putK kg (Sum.inr item) (.ref l9))))) dc = some (.frz ob2 (.dK (putK kg (Sum.inr item) (.ref l9)))) := upd_same
        generalize (upd (upd (upd (upd H17 dc (.dK kg)) l9 (.lst [.int 9, .int 9, .int 9])) dc (.dK (putK kg (Sum.inr item) (.ref l9)))) dc (.frz ob2 (.dK (putK kg (Sum.inr item) (.ref l9))))) = H18 at s18 e9 ed ⊢
        have gvC : GivAt H18 dc (chG (givL names nums) item) := ⟨_, ob2, ed, by
          rw [putK_there there]
          exact paired_put e9 pg fun q kv h => h.to fun c o e _ _ => s18 c o e⟩
        have okC : PlanOk R ((chG (givL names nums) item).map (·.1)) (rkOf names) := by rw [chG_keys]; exact okG
        have ndC : ((chG (givL names nums) item).map (·.1)).Nodup := by rw [chG_keys]; exact ndG
        have hzC : ∀ n l, (n, l) ∈ chG (givL names nums) item → l.length ≤ 1000 := fun n l h => by
          obtain ⟨q, h1, h2⟩ := List.mem_map.mp h
          by_cases e : q.1 = item
          · rw [if_pos e] at h2
            cases h2
            decide
          · rw [if_neg e] at h2
            subst h2
            exact hzG _ _ h1
        obtain ⟨φ', sol'⟩ : ∃ φ', Sol R (chG (givL names nums) item) bu φ' := ⟨_, sol_ex okC ndC hbu hzC⟩
        have eqφ : ∀ x, S x = true → φ x = φ' x := fun x hx => by
          refine Sol.same sol sol' (fun x => S x = true) okG.rk clS (fun y hy => ?_) x hx
          have part : ∀ r ∈ R, y ∈ r.parts → (∃ l, (y, l) ∈ givL names nums ∧ (y, l) ∈ chG (givL names nums) item) ∨ ∃ r ∈ R, r.t = y := fun r hr hp => by
            rcases okG.pt r hr y hp with e | e
            · obtain ⟨q, h1, h2⟩ := List.mem_map.mp e
              have h3 : (y, q.2) ∈ givL names nums := by rw [← h2]; exact h1
              refine .inl ⟨q.2, h3, chG_other h3 fun z => ?_⟩
              rw [z, hSi] at hy
              cases hy
            · exact .inr e
          rcases (hS2 y).mp hy with e | e
          · exact .inr ⟨rn, hrn, ern.trans e.symm⟩
          · cases e with
            | base h1 h2 h3 => exact part _ h1 h3
            | step h1 h2 h3 h4 => exact part _ h2 h4
        refine ⟨_, rfl, rfl, rfl, p, dc, R, chG (givL names nums) item, rkOf names, bu, φ', ?_, pl.same (s417.trans s18), gvC, okC, (by rw [← List.length_map (f := fun q : Str × List Int => q.1), chG_keys]; show 5 ≤ 1000; decide), ndC, hbu, sol', fun H19 t4 c4 l4 ys4 s19 r4 nc4 => ?_⟩
        · show [V.ref p, V.ref dc] ++ [V.int (ns.getD 5 0 % 201)] = _
          rw [eb]
          rfl
        have s1719 := s18.trans s19
        have s1519 := s1517.trans s1719
        exact ⟨_, rfl, t1, c1, l1, φ, R, ys2, t4, c4, l4, φ', R, ys4, E2, (R.map Rl.t).filter S, rfl, r115.same s1519, r4, okG.nd, okG.nd, s1519 _ _ eCh, fun x hx => ⟨(mC x hx).1, (mC x hx).1, eqφ x (mC x hx).2, sm0 x (mC x hx).1⟩, _, rfl, iteF ⟨_, _, rfl, s17.trans s1719⟩⟩
    · rintro σ H17 ⟨x15, x16, rfl, s17⟩
      exact q _
end
end Q3

set_option Elab.async false
set_option linter.all false
set_option maxRecDepth 100000
set_option maxHeartbeats 4000000
/-! what the top has written, put together -/
namespace Q3
open PySem PySem.Spec PyProof.Rows L2
/-- a def of the top -/
structure FNf (K : PySem.W.Frag) (mg : Str → Option Value) (x : Str) (st : Stmt) (f : Addr) : Prop where
  at_ : mg x = some (.ref f)
  fn : ∃ fd, Fun K x x st f fd
  kp : PySem.W.keepIn K (.ref f) = true
/-- a def of a class -/
structure MMf (K : PySem.W.Frag) (C : Addr) (m qual : Str) (st : Stmt) (f : Addr) : Prop where
  at_ : PySem.W.findIn K (.ref C) m = some (some (.ref f))
  is : PySem.W.isFn K (.ref f) = true
  fn : ∃ fd, Fun K m qual st f fd
  kp : PySem.W.keepIn K (.ref f) = true
section
variable {K : PySem.W.Frag} {h : Heap} {mg : Str → Option Value} {f C : Addr} {x qual : Str} {st : Stmt} {oc : Value} {od an : Option Addr} {osl : Array (Option Value)} {kV doc pm cdv ct : Value}
theorem fnm (X : K.In h) (G : h.Ns mainGlobals mg) (a : PySem.W.nsIn K mainGlobals x = some (some (.ref f))) (l : K.lookup f = some ⟨oc, od, .func (PySem.W.fnOf x x (defArgs st) (defBody st) (defScope st) .none kV doc pm an cdv ct), osl⟩) (c : PySem.W.codeIn K cdv x = true)
    (k : PySem.W.keepIn K (.ref f) = true) : FNf K mg x st f := ⟨PySem.W.mg_of X G a, ⟨_, fun_mk l c k⟩, k⟩
theorem fmm (a : PySem.W.findIn K (.ref C) x = some (some (.ref f))) (i : PySem.W.isFn K (.ref f) = true) (l : K.lookup f = some ⟨oc, od, .func (PySem.W.fnOf x qual (defArgs st) (defBody st) (defScope st) .none kV doc pm an cdv ct), osl⟩) (c : PySem.W.codeIn K cdv qual = true)
    (k : PySem.W.keepIn K (.ref f) = true) : MMf K C x qual st f := ⟨a, i, ⟨_, fun_mk l c k⟩, k⟩
theorem MMf.meth (M : MMf K C x qual st f) : Meth K C x f := ⟨M.at_, M.is, M.kp⟩
end
theorem held_of {P : Program} {w : World} {K : PySem.W.Frag} {mg : Str → Option Value} {base : Heap} {k : Nat} {f : Addr} {fd : FuncData} {ps : List Str} {sp : Sp} (F : FnOk P w K mg base CX0 k f fd ps sp) (hk : PySem.W.keepIn K (.ref f) = true) (hb : Binds K fd ps []) : Held P w K mg base k f sp := ⟨fd, ps, F, hk, hb⟩
theorem tab_none_gen {β : Type} {l : List (Int × Deed)} : ∀ {m : List (Int × β)} {o : Int}, m.map (·.1) = l.map (·.1) → l.lookup o = none → m.lookup o = none := by
  induction l with
  | nil => intro m o e h; cases m with
    | nil => rfl
    | cons a r => cases e
  | cons q l ih =>
    intro m o e h
    cases m with
    | nil => cases e
    | cons a r =>
      obtain ⟨k, d⟩ := q
      obtain ⟨k', b⟩ := a
      have e1 : k' = k := (List.cons.inj e).1
      have e2 := (List.cons.inj e).2
      subst e1
      rw [List.lookup_cons] at h ⊢
      split at h
      · cases h
      · exact ih e2 h
theorem tab_none {e0 e1 e2 e3 e4 e5 e6 e7 e8 e9 e10 e11 e12 e13 e14 e15 e16 e17 e18 e19 : Addr} {o : Int} (h : deeds.lookup o = none) : ([(35, e0), (43, e1), (45, e2), (42, e3), (60, e4), (126, e5), (64, e6), (33, e7), (61, e8), (44, e9), (94, e10), (46, e11), (38, e12), (95, e13), (34, e14), (92, e15), (63, e16), (40, e17), (36, e18), (41, e19)] : List (Int × Addr)).lookup o = none := tab_none_gen rfl h
theorem all_mk {P : Program} {w : World} {K : PySem.W.Frag} {h : Heap} {mg : Str → Option Value} {fa : Addr} {aD C D e0 e1 e2 e3 e4 e5 e6 e7 e8 e9 e10 e11 e12 e13 e14 e15 e16 e17 e18 e19 f0 f1 f2 f3 f4 f5 f6 f7 f8 f9 f10 f11 f12 f13 f14 f15 f16 f17 f18 f19 f20 s0 s1 s2 s3 s4 b0 b1 b2 b3 b4 b5 : Addr} {es : Array DictEntry} {dn : Nat} {t1 t2 t3 t4 t5 : Tok} (X : K.In h) (G : h.Ns mainGlobals mg) (hfa : mg "law" = some (.ref fa))
    (aC : PySem.W.nsIn K mainGlobals "State" = some (some (.ref C))) (aB : PySem.W.nsIn K mainGlobals "Build" = some (some (.ref D))) (aT : PySem.W.nsIn K mainGlobals "DEEDS" = some (some (.ref aD)))
    (E0 : FNf K mg "_push" sPush e0)
    (E1 : FNf K mg "_plus" sPlus e1)
    (E2 : FNf K mg "_minus" sMinus e2)
    (E3 : FNf K mg "_digit" sDigit e3)
    (E4 : FNf K mg "_less" sLess e4)
    (E5 : FNf K mg "_same" sSame e5)
    (E6 : FNf K mg "_load" sLoad e6)
    (E7 : FNf K mg "_keep" sKeep e7)
    (E8 : FNf K mg "_assign" sAssign e8)
    (E9 : FNf K mg "_take" sTake e9)
    (E10 : FNf K mg "_rewind" sRewind e10)
    (E11 : FNf K mg "_emit" sEmit e11)
    (E12 : FNf K mg "_cell" sCell e12)
    (E13 : FNf K mg "_drop" sDrop e13)
    (E14 : FNf K mg "_double" sDouble e14)
    (E15 : FNf K mg "_exchange" sExchange e15)
    (E16 : FNf K mg "_test" sTest e16)
    (E17 : FNf K mg "_call" sCall e17)
    (E18 : FNf K mg "_call_low" sCallLow e18)
    (E19 : FNf K mg "_return" sReturn e19)
    (F0 : FNf K mg "nodes_of" sNodesOf f0)
    (F1 : FNf K mg "table_of" sTableOf f1)
    (F2 : FNf K mg "run" sRun f2)
    (F3 : FNf K mg "_parts" sParts f3)
    (F4 : FNf K mg "_reach" sReach f4)
    (F5 : FNf K mg "_rules_of" sRulesOf f5)
    (F6 : FNf K mg "_twice" sTwice f6)
    (F7 : FNf K mg "_missing" sMissing f7)
    (F8 : FNf K mg "check_plan" sCheckPlan f8)
    (F9 : FNf K mg "order_of" sOrderOf f9)
    (F10 : FNf K mg "_check_name" sCheckName f10)
    (F11 : FNf K mg "part_of" sPartOf f11)
    (F12 : FNf K mg "build_all" sBuildAll f12)
    (F13 : FNf K mg "_law_cell" sLcell f13)
    (F14 : FNf K mg "_law_values" sLvalues f14)
    (F15 : FNf K mg "_law_names" sLnames f15)
    (F16 : FNf K mg "_law_given" sLgiven f16)
    (F17 : FNf K mg "_law_plan" sLplan f17)
    (F18 : FNf K mg "_law_reach" sLreach f18)
    (F19 : FNf K mg "_law_same" sLsame f19)
    (F20 : FNf K mg "law" sLaw f20)
    (S0 : MMf K C "__init__" "State.__init__" sStInit s0)
    (S1 : MMf K C "pull" "State.pull" sStPull s1)
    (S2 : MMf K C "step" "State.step" sStStep s2)
    (S3 : MMf K C "advance" "State.advance" sStAdvance s3)
    (S4 : MMf K C "has_ended" "State.has_ended" sStHasEnded s4)
    (B0 : MMf K D "__init__" "Build.__init__" sBuInit b0)
    (B1 : MMf K D "_made" "Build._made" sBuMade b1)
    (B2 : MMf K D "advance" "Build.advance" sBuAdvance b2)
    (B3 : MMf K D "finish" "Build.finish" sBuFinish b3)
    (B4 : MMf K D "content" "Build.content" sBuContent b4)
    (B5 : MMf K D "failed" "Build.failed" sBuFailed b5)
    (lT : K.lookup aD = some ⟨.type "dict", none, .dict es dn, #[]⟩) (pT : Paired (fun (q : Int × Addr) (e : DictEntry) => (∃ t, e.key = .int q.1 t) ∧ e.hash = hashInt q.1 ∧ e.val = .ref q.2) [(35, e0), (43, e1), (45, e2), (42, e3), (60, e4), (126, e5), (64, e6), (33, e7), (61, e8), (44, e9), (94, e10), (46, e11), (38, e12), (95, e13), (34, e14), (92, e15), (63, e16), (40, e17), (36, e18), (41, e19)] es.toList) (lo : (aD == sysModules) = false)
    (nlen : PySem.W.nsIn K mainGlobals "len" = some none) (nint : PySem.W.nsIn K mainGlobals "int" = some none) (nrange : PySem.W.nsIn K mainGlobals "range" = some none) (ntuple : PySem.W.nsIn K mainGlobals "tuple" = some none) (nlist : PySem.W.nsIn K mainGlobals "list" = some none) (nall : PySem.W.nsIn K mainGlobals "all" = some none) (nsorted : PySem.W.nsIn K mainGlobals "sorted" = some none) (nrepr : PySem.W.nsIn K mainGlobals "repr" = some none) (ndict : PySem.W.nsIn K mainGlobals "dict" = some none)
    (c1 : PySem.W.nsIn K mainGlobals "FIRST_LETTER" = some (some (.int 97 t1))) (c2 : PySem.W.nsIn K mainGlobals "LAST_LETTER" = some (some (.int 122 t2))) (c3 : PySem.W.nsIn K mainGlobals "FIRST_CAPITAL" = some (some (.int 65 t3))) (c4 : PySem.W.nsIn K mainGlobals "LAST_CAPITAL" = some (some (.int 90 t4))) (c5 : PySem.W.nsIn K mainGlobals "LAST_LOW" = some (some (.int 199 t5)))
    (pgC : PySem.W.plainGet K C Str.empty = true) (hdC : PySem.W.hasDictIn K C = true) (poC : PySem.W.plainOver K C = true) (saC : PySem.W.findIn K (.ref C) "__setattr__" = some (some (.builtin "object.__setattr__"))) (mkC : PySem.W.makesIn K C = true) (kcC : PySem.W.keepIn K (.ref C) = true)
    (pgD : PySem.W.plainGet K D Str.empty = true) (hdD : PySem.W.hasDictIn K D = true) (poD : PySem.W.plainOver K D = true) (saD : PySem.W.findIn K (.ref D) "__setattr__" = some (some (.builtin "object.__setattr__"))) (mkD : PySem.W.makesIn K D = true) (kcD : PySem.W.keepIn K (.ref D) = true)
    (nC0 : PySem.W.findIn K (.ref C) "image" = some none) (nC1 : PySem.W.findIn K (.ref C) "numbers" = some none) (nC2 : PySem.W.findIn K (.ref C) "table" = some none) (nC3 : PySem.W.findIn K (.ref C) "at" = some none) (nC4 : PySem.W.findIn K (.ref C) "stack" = some none) (nC5 : PySem.W.findIn K (.ref C) "store" = some none) (nC6 : PySem.W.findIn K (.ref C) "back" = some none) (nC7 : PySem.W.findIn K (.ref C) "place" = some none) (nC8 : PySem.W.findIn K (.ref C) "output" = some none) (nC9 : PySem.W.findIn K (.ref C) "steps" = some none)
    (nD0 : PySem.W.findIn K (.ref D) "_order" = some none) (nD1 : PySem.W.findIn K (.ref D) "_fuel" = some none) (nD2 : PySem.W.findIn K (.ref D) "_plan" = some none) (nD3 : PySem.W.findIn K (.ref D) "_given" = some none) (nD4 : PySem.W.findIn K (.ref D) "_done" = some none) (nD5 : PySem.W.findIn K (.ref D) "steps" = some none) :
    ∃ fd : FuncData, (∀ (s : Shared) (v : Value), BindsTo s fd ⟨[v], []⟩ [("_law_script", v)]) ∧ ∀ base : Heap, K.In base → base.Ns mainGlobals mg → FnG P w K mg base 10 fa fd ["_law_script"] (spLaw K) := by
  have mlen := PySem.W.mg_none_of X G nlen
  have mint := PySem.W.mg_none_of X G nint
  have mrange := PySem.W.mg_none_of X G nrange
  have mtuple := PySem.W.mg_none_of X G ntuple
  have mlist := PySem.W.mg_none_of X G nlist
  have mall := PySem.W.mg_none_of X G nall
  have msorted := PySem.W.mg_none_of X G nsorted
  have mrepr := PySem.W.mg_none_of X G nrepr
  have mdict := PySem.W.mg_none_of X G ndict
  have TMC : TM K C := ⟨⟨pgC, hdC, poC, saC⟩, nC0, nC1, nC2, nC3, nC4, nC5, nC6, nC7, nC8, nC9⟩
  have TBD : TB K D := ⟨⟨pgD, hdD, poD, saD⟩, nD0, nD1, nD2, nD3, nD4, nD5⟩
  have TGm : TG mg := ⟨mlen, mint, ⟨_, PySem.W.mg_of X G c5⟩⟩
  have TNm : TN mg := ⟨mlen, mrange, mtuple⟩
  have TCm : TC mg := ⟨⟨_, PySem.W.mg_of X G c1⟩, ⟨_, PySem.W.mg_of X G c2⟩, ⟨_, PySem.W.mg_of X G c3⟩, ⟨_, PySem.W.mg_of X G c4⟩⟩
  have TLm : TL mg := ⟨mlen, mrange, mint, mtuple, mlist⟩
  obtain ⟨de0, Fe0⟩ := E0.fn
  obtain ⟨de1, Fe1⟩ := E1.fn
  obtain ⟨de2, Fe2⟩ := E2.fn
  obtain ⟨de3, Fe3⟩ := E3.fn
  obtain ⟨de4, Fe4⟩ := E4.fn
  obtain ⟨de5, Fe5⟩ := E5.fn
  obtain ⟨de6, Fe6⟩ := E6.fn
  obtain ⟨de7, Fe7⟩ := E7.fn
  obtain ⟨de8, Fe8⟩ := E8.fn
  obtain ⟨de9, Fe9⟩ := E9.fn
  obtain ⟨de10, Fe10⟩ := E10.fn
  obtain ⟨de11, Fe11⟩ := E11.fn
  obtain ⟨de12, Fe12⟩ := E12.fn
  obtain ⟨de13, Fe13⟩ := E13.fn
  obtain ⟨de14, Fe14⟩ := E14.fn
  obtain ⟨de15, Fe15⟩ := E15.fn
  obtain ⟨de16, Fe16⟩ := E16.fn
  obtain ⟨de17, Fe17⟩ := E17.fn
  obtain ⟨de18, Fe18⟩ := E18.fn
  obtain ⟨de19, Fe19⟩ := E19.fn
  obtain ⟨df0, Ff0⟩ := F0.fn
  obtain ⟨df1, Ff1⟩ := F1.fn
  obtain ⟨df2, Ff2⟩ := F2.fn
  obtain ⟨df3, Ff3⟩ := F3.fn
  obtain ⟨df4, Ff4⟩ := F4.fn
  obtain ⟨df5, Ff5⟩ := F5.fn
  obtain ⟨df6, Ff6⟩ := F6.fn
  obtain ⟨df7, Ff7⟩ := F7.fn
  obtain ⟨df8, Ff8⟩ := F8.fn
  obtain ⟨df9, Ff9⟩ := F9.fn
  obtain ⟨df10, Ff10⟩ := F10.fn
  obtain ⟨df11, Ff11⟩ := F11.fn
  obtain ⟨df12, Ff12⟩ := F12.fn
  obtain ⟨df13, Ff13⟩ := F13.fn
  obtain ⟨df14, Ff14⟩ := F14.fn
  obtain ⟨df15, Ff15⟩ := F15.fn
  obtain ⟨df16, Ff16⟩ := F16.fn
  obtain ⟨df17, Ff17⟩ := F17.fn
  obtain ⟨df18, Ff18⟩ := F18.fn
  obtain ⟨df19, Ff19⟩ := F19.fn
  obtain ⟨df20, Ff20⟩ := F20.fn
  obtain ⟨ds0, Fs0⟩ := S0.fn
  obtain ⟨ds1, Fs1⟩ := S1.fn
  obtain ⟨ds2, Fs2⟩ := S2.fn
  obtain ⟨ds3, Fs3⟩ := S3.fn
  obtain ⟨ds4, Fs4⟩ := S4.fn
  obtain ⟨db0, Fb0⟩ := B0.fn
  obtain ⟨db1, Fb1⟩ := B1.fn
  obtain ⟨db2, Fb2⟩ := B2.fn
  obtain ⟨db3, Fb3⟩ := B3.fn
  obtain ⟨db4, Fb4⟩ := B4.fn
  obtain ⟨db5, Fb5⟩ := B5.fn
  have e := hfa.symm.trans F20.at_
  cases e
  have bf0 := Ff0.binds (ps := ["image"]) fun _ _ _ _ _ _ us hl => match us, hl with | [_], _ => rfl
  have bf1 := Ff1.binds (ps := ["image"]) fun _ _ _ _ _ _ us hl => match us, hl with | [_], _ => rfl
  have bf3 := Ff3.binds (ps := ["rule"]) fun _ _ _ _ _ _ us hl => match us, hl with | [_], _ => rfl
  have bf4 := Ff4.binds (ps := ["rules", "name"]) fun _ _ _ _ _ _ us hl => match us, hl with | [_, _], _ => rfl
  have bf5 := Ff5.binds (ps := ["plan"]) fun _ _ _ _ _ _ us hl => match us, hl with | [_], _ => rfl
  have bf6 := Ff6.binds (ps := ["plan", "given"]) fun _ _ _ _ _ _ us hl => match us, hl with | [_, _], _ => rfl
  have bf7 := Ff7.binds (ps := ["plan", "given", "rules"]) fun _ _ _ _ _ _ us hl => match us, hl with | [_, _, _], _ => rfl
  have bf8 := Ff8.binds (ps := ["plan", "given"]) fun _ _ _ _ _ _ us hl => match us, hl with | [_, _], _ => rfl
  have bf9 := Ff9.binds (ps := ["plan", "given"]) fun _ _ _ _ _ _ us hl => match us, hl with | [_, _], _ => rfl
  have bf10 := Ff10.binds (ps := ["plan", "given", "name"]) fun _ _ _ _ _ _ us hl => match us, hl with | [_, _, _], _ => rfl
  have bf11 := Ff11.binds (ps := ["plan", "given", "names"]) fun _ _ _ _ _ _ us hl => match us, hl with | [_, _, _], _ => rfl
  have bf13 := Ff13.binds (ps := ["_law_script", "_law_k"]) fun _ _ _ _ _ _ us hl => match us, hl with | [_, _], _ => rfl
  have bf14 := Ff14.binds (ps := ["_law_cell_here", "_law_count", "_law_size"]) fun _ _ _ _ _ _ us hl => match us, hl with | [_, _, _], _ => rfl
  have bf15 := Ff15.binds (ps := ["_law_cell_here"]) fun _ _ _ _ _ _ us hl => match us, hl with | [_], _ => rfl
  have bf16 := Ff16.binds (ps := ["_law_names_here", "_law_cell_here"]) fun _ _ _ _ _ _ us hl => match us, hl with | [_, _], _ => rfl
  have bf17 := Ff17.binds (ps := ["_law_names_here", "_law_cell_here", "_law_second", "_law_count", "_law_free"]) fun _ _ _ _ _ _ us hl => match us, hl with | [_, _, _, _, _], _ => rfl
  have bf18 := Ff18.binds (ps := ["_law_plan_here", "_law_name"]) fun _ _ _ _ _ _ us hl => match us, hl with | [_, _], _ => rfl
  have bf19 := Ff19.binds (ps := ["_law_first", "_law_second", "_law_names_here"]) fun _ _ _ _ _ _ us hl => match us, hl with | [_, _, _], _ => rfl
  have bf20 := Ff20.binds (ps := ["_law_script"]) fun _ _ _ _ _ _ us hl => match us, hl with | [_], _ => rfl
  have be0 := Fe0.binds (ps := ["state", "argument"]) fun _ _ _ _ _ _ us hl => match us, hl with | [_, _], _ => rfl
  have be1 := Fe1.binds (ps := ["state", "argument"]) fun _ _ _ _ _ _ us hl => match us, hl with | [_, _], _ => rfl
  have be2 := Fe2.binds (ps := ["state", "argument"]) fun _ _ _ _ _ _ us hl => match us, hl with | [_, _], _ => rfl
  have be3 := Fe3.binds (ps := ["state", "argument"]) fun _ _ _ _ _ _ us hl => match us, hl with | [_, _], _ => rfl
  have be4 := Fe4.binds (ps := ["state", "argument"]) fun _ _ _ _ _ _ us hl => match us, hl with | [_, _], _ => rfl
  have be5 := Fe5.binds (ps := ["state", "argument"]) fun _ _ _ _ _ _ us hl => match us, hl with | [_, _], _ => rfl
  have be6 := Fe6.binds (ps := ["state", "argument"]) fun _ _ _ _ _ _ us hl => match us, hl with | [_, _], _ => rfl
  have be7 := Fe7.binds (ps := ["state", "argument"]) fun _ _ _ _ _ _ us hl => match us, hl with | [_, _], _ => rfl
  have be8 := Fe8.binds (ps := ["state", "argument"]) fun _ _ _ _ _ _ us hl => match us, hl with | [_, _], _ => rfl
  have be9 := Fe9.binds (ps := ["state", "argument"]) fun _ _ _ _ _ _ us hl => match us, hl with | [_, _], _ => rfl
  have be10 := Fe10.binds (ps := ["state", "argument"]) fun _ _ _ _ _ _ us hl => match us, hl with | [_, _], _ => rfl
  have be11 := Fe11.binds (ps := ["state", "argument"]) fun _ _ _ _ _ _ us hl => match us, hl with | [_, _], _ => rfl
  have be12 := Fe12.binds (ps := ["state", "argument"]) fun _ _ _ _ _ _ us hl => match us, hl with | [_, _], _ => rfl
  have be13 := Fe13.binds (ps := ["state", "argument"]) fun _ _ _ _ _ _ us hl => match us, hl with | [_, _], _ => rfl
  have be14 := Fe14.binds (ps := ["state", "argument"]) fun _ _ _ _ _ _ us hl => match us, hl with | [_, _], _ => rfl
  have be15 := Fe15.binds (ps := ["state", "argument"]) fun _ _ _ _ _ _ us hl => match us, hl with | [_, _], _ => rfl
  have be16 := Fe16.binds (ps := ["state", "argument"]) fun _ _ _ _ _ _ us hl => match us, hl with | [_, _], _ => rfl
  have be17 := Fe17.binds (ps := ["state", "argument"]) fun _ _ _ _ _ _ us hl => match us, hl with | [_, _], _ => rfl
  have be18 := Fe18.binds (ps := ["state", "argument"]) fun _ _ _ _ _ _ us hl => match us, hl with | [_, _], _ => rfl
  have be19 := Fe19.binds (ps := ["state", "argument"]) fun _ _ _ _ _ _ us hl => match us, hl with | [_, _], _ => rfl
  have bs0 := Fs0.binds (ps := ["self", "image", "numbers"]) fun _ _ _ _ _ _ us hl => match us, hl with | [_, _, _], _ => rfl
  have bs1 := Fs1.binds (ps := ["self"]) fun _ _ _ _ _ _ us hl => match us, hl with | [_], _ => rfl
  have bs2 := Fs2.binds (ps := ["self"]) fun _ _ _ _ _ _ us hl => match us, hl with | [_], _ => rfl
  have bs4 := Fs4.binds (ps := ["self"]) fun _ _ _ _ _ _ us hl => match us, hl with | [_], _ => rfl
  have bb1 := Fb1.binds (ps := ["self", "tool", "sources"]) fun _ _ _ _ _ _ us hl => match us, hl with | [_, _, _], _ => rfl
  have bb2 := Fb2.binds (ps := ["self"]) fun _ _ _ _ _ _ us hl => match us, hl with | [_], _ => rfl
  have bb3 := Fb3.binds (ps := ["self"]) fun _ _ _ _ _ _ us hl => match us, hl with | [_], _ => rfl
  have bb4 := Fb4.binds (ps := ["self", "name"]) fun _ _ _ _ _ _ us hl => match us, hl with | [_, _], _ => rfl
  have bb5 := Fb5.binds (ps := ["self"]) fun _ _ _ _ _ _ us hl => match us, hl with | [_], _ => rfl
  have kb3 : KBn K ds3 ["self", "fuel"] 1 ["fuel"] (fun us ws => us ++ ws) (fun vs zs => vs ++ zs) := Fun.kb Fs3 1 ["fuel"] fun _ _ _ _ _ _ us ws h1 h2 => match us, ws, h1, h2 with | [_], [_], _, _ => rfl
  have kb0 : KBn K db0 ["self", "plan", "given", "fuel"] 3 ["fuel"] (fun us ws => us ++ ws) (fun vs zs => vs ++ zs) := Fun.kb Fb0 3 ["fuel"] fun _ _ _ _ _ _ us ws h1 h2 => match us, ws, h1, h2 with | [_, _, _], [_], _, _ => rfl
  have kr : KBn K df2 ["image", "numbers", "fuel"] 2 ["fuel"] (fun us ws => us ++ ws) (fun vs zs => vs ++ zs) := Fun.kb Ff2 2 ["fuel"] fun _ _ _ _ _ _ us ws h1 h2 => match us, ws, h1, h2 with | [_, _], [_], _, _ => rfl
  have kba : KBn K df12 ["plan", "given", "fuel"] 2 ["fuel"] (fun us ws => us ++ ws) (fun vs zs => vs ++ zs) := Fun.kb Ff12 2 ["fuel"] fun _ _ _ _ _ _ us ws h1 h2 => match us, ws, h1, h2 with | [_, _], [_], _, _ => rfl
  refine ⟨df20, fun s v => ?_, fun base _ _ => ?_⟩
  · obtain ⟨oc, od, kV, doc, pm, an, cdv, ct, osl, rfl, lk, hcd⟩ := Ff20.ex
    exact .of_eq rfl
  have mP := S1.meth
  have he0 : Held P w K mg base 2 e0 (spDeed C dPush) := held_of (ok_Push Fe0 TMC TGm Fs1 bs1 mP) E0.kp be0
  have he1 : Held P w K mg base 2 e1 (spDeed C dPlus) := held_of (ok_Plus Fe1 TMC TGm Fs1 bs1 mP) E1.kp be1
  have he2 : Held P w K mg base 2 e2 (spDeed C dMinus) := held_of (ok_Minus Fe2 TMC TGm Fs1 bs1 mP) E2.kp be2
  have he3 : Held P w K mg base 2 e3 (spDeed C dDigit) := held_of (ok_Digit Fe3 TMC TGm Fs1 bs1 mP) E3.kp be3
  have he4 : Held P w K mg base 2 e4 (spDeed C dLess) := held_of (ok_Less Fe4 TMC TGm Fs1 bs1 mP) E4.kp be4
  have he5 : Held P w K mg base 2 e5 (spDeed C dSame) := held_of (ok_Same Fe5 TMC TGm Fs1 bs1 mP) E5.kp be5
  have he6 : Held P w K mg base 2 e6 (spDeed C dLoad) := held_of (ok_Load Fe6 TMC TGm Fs1 bs1 mP) E6.kp be6
  have he7 : Held P w K mg base 2 e7 (spDeed C dKeep) := held_of (ok_Keep Fe7 TMC TGm Fs1 bs1 mP) E7.kp be7
  have he8 : Held P w K mg base 2 e8 (spDeed C dAssign) := held_of (ok_Assign Fe8 TMC TGm Fs1 bs1 mP) E8.kp be8
  have he9 : Held P w K mg base 2 e9 (spDeed C dTake) := held_of (ok_Take Fe9 TMC TGm Fs1 bs1 mP) E9.kp be9
  have he10 : Held P w K mg base 2 e10 (spDeed C dRewind) := held_of (ok_Rewind Fe10 TMC TGm Fs1 bs1 mP) E10.kp be10
  have he11 : Held P w K mg base 2 e11 (spDeed C dEmit) := held_of (ok_Emit Fe11 TMC TGm Fs1 bs1 mP) E11.kp be11
  have he12 : Held P w K mg base 2 e12 (spDeed C dCell) := held_of (ok_Cell Fe12 TMC TGm Fs1 bs1 mP) E12.kp be12
  have he13 : Held P w K mg base 2 e13 (spDeed C dDrop) := held_of (ok_Drop Fe13 TMC TGm Fs1 bs1 mP) E13.kp be13
  have he14 : Held P w K mg base 2 e14 (spDeed C dDouble) := held_of (ok_Double Fe14 TMC TGm Fs1 bs1 mP) E14.kp be14
  have he15 : Held P w K mg base 2 e15 (spDeed C dExchange) := held_of (ok_Exchange Fe15 TMC TGm Fs1 bs1 mP) E15.kp be15
  have he16 : Held P w K mg base 2 e16 (spDeed C dTest) := held_of (ok_Test Fe16 TMC TGm Fs1 bs1 mP) E16.kp be16
  have he17 : Held P w K mg base 2 e17 (spDeed C dCall) := held_of (ok_Call Fe17 TMC TGm Fs1 bs1 mP) E17.kp be17
  have he18 : Held P w K mg base 2 e18 (spDeed C dCallLow) := held_of (ok_CallLow Fe18 TMC TGm Fs1 bs1 mP) E18.kp be18
  have he19 : Held P w K mg base 2 e19 (spDeed C dReturn) := held_of (ok_Return Fe19 TMC TGm Fs1 bs1 mP) E19.kp be19
  have TDD : TD P w K mg base C aD [(35, e0), (43, e1), (45, e2), (42, e3), (60, e4), (126, e5), (64, e6), (33, e7), (61, e8), (44, e9), (94, e10), (46, e11), (38, e12), (95, e13), (34, e14), (92, e15), (63, e16), (40, e17), (36, e18), (41, e19)] := by
    refine ⟨PySem.W.mg_of X G aT, ⟨⟨es, dn, lT, pT⟩, lo⟩, fun o d hd => ?_, fun o ho => ?_⟩
    · have hm := lookup_pair hd
      simp only [deeds, List.mem_cons, Prod.mk.injEq, List.not_mem_nil, or_false] at hm
      rcases hm with ⟨rfl, rfl⟩ | ⟨rfl, rfl⟩ | ⟨rfl, rfl⟩ | ⟨rfl, rfl⟩ | ⟨rfl, rfl⟩ | ⟨rfl, rfl⟩ | ⟨rfl, rfl⟩ | ⟨rfl, rfl⟩ | ⟨rfl, rfl⟩ | ⟨rfl, rfl⟩ | ⟨rfl, rfl⟩ | ⟨rfl, rfl⟩ | ⟨rfl, rfl⟩ | ⟨rfl, rfl⟩ | ⟨rfl, rfl⟩ | ⟨rfl, rfl⟩ | ⟨rfl, rfl⟩ | ⟨rfl, rfl⟩ | ⟨rfl, rfl⟩ | ⟨rfl, rfl⟩
      · exact ⟨e0, rfl, he0⟩
      · exact ⟨e1, rfl, he1⟩
      · exact ⟨e2, rfl, he2⟩
      · exact ⟨e3, rfl, he3⟩
      · exact ⟨e4, rfl, he4⟩
      · exact ⟨e5, rfl, he5⟩
      · exact ⟨e6, rfl, he6⟩
      · exact ⟨e7, rfl, he7⟩
      · exact ⟨e8, rfl, he8⟩
      · exact ⟨e9, rfl, he9⟩
      · exact ⟨e10, rfl, he10⟩
      · exact ⟨e11, rfl, he11⟩
      · exact ⟨e12, rfl, he12⟩
      · exact ⟨e13, rfl, he13⟩
      · exact ⟨e14, rfl, he14⟩
      · exact ⟨e15, rfl, he15⟩
      · exact ⟨e16, rfl, he16⟩
      · exact ⟨e17, rfl, he17⟩
      · exact ⟨e18, rfl, he18⟩
      · exact ⟨e19, rfl, he19⟩
    · exact tab_none ho
  have gPull := ok_pull (P := P) (w := w) (mg := mg) (base := base) Fs1 TMC
  have gTable : FnOk P w K mg base CX0 2 f1 df1 ["image"] (spTable K) := ok_table Ff1 TNm Ff0 bf0 F0.at_
  have gInit : FnOk P w K mg base CX0 3 s0 ds0 ["self", "image", "numbers"] (spSInit K C) := ok_sinit Fs0 TMC mlist gTable F1.kp bf1 F1.at_
  have gEnd : FnOk P w K mg base CX0 1 s4 ds4 ["self"] (spEnded C) := ok_ended Fs4 TMC
  have gStep : FnOk P w K mg base CX0 3 s2 ds2 ["self"] (spStep C) := ok_step Fs2 TMC TDD TCm
  have gAdv : FnOk P w K mg base CX0 4 s3 ds3 ["self", "fuel"] (spAdv C) := ok_adv Fs3 TMC gStep bs2 S2.meth
  have gRun : FOkK P w K mg base "run" 5 ["image", "numbers", "fuel"] ["fuel"] 2 (spRun K) := ⟨f2, df2, F2.at_, ok_run Ff2 TMC ⟨mkC, S0.at_, S0.is, kcC⟩ (PySem.W.mg_of X G aC) gInit bs0 gAdv kb3 S3.meth gEnd bs4 S4.meth, F2.kp, kr⟩
  have gParts0 : FnOk P w K mg base CX0 1 f3 df3 ["rule"] spParts := ok_parts Ff3
  have gParts : FOk P w K mg base "_parts" 1 ["rule"] spParts := ⟨f3, df3, F3.at_, gParts0, F3.kp, bf3⟩
  have gRulesOf : FOk P w K mg base "_rules_of" 1 ["plan"] spRulesOf := ⟨f5, df5, F5.at_, ok_rulesOf Ff5, F5.kp, bf5⟩
  have gTwice : FOk P w K mg base "_twice" 1 ["plan", "given"] spTwice := ⟨f6, df6, F6.at_, ok_twice Ff6, F6.kp, bf6⟩
  have gMissing : FOk P w K mg base "_missing" 2 ["plan", "given", "rules"] spMissing := ⟨f7, df7, F7.at_, ok_missing Ff7 gParts0 F3.kp bf3 F3.at_, F7.kp, bf7⟩
  have gReach : FOk P w K mg base "_reach" 2 ["rules", "name"] spReach := ⟨f4, df4, F4.at_, ok_reach Ff4 gParts0 F3.kp bf3 F3.at_, F4.kp, bf4⟩
  have gCheck : FOk P w K mg base "check_plan" 3 ["plan", "given"] spCheck := ⟨f8, df8, F8.at_, ok_check Ff8 gTwice gRulesOf gMissing gReach, F8.kp, bf8⟩
  have gCheckName : FOk P w K mg base "_check_name" 4 ["plan", "given", "name"] spCheckName := ⟨f10, df10, F10.at_, ok_checkName Ff10 gCheck gRulesOf, F10.kp, bf10⟩
  have gOrder : FOk P w K mg base "order_of" 4 ["plan", "given"] spOrder := ⟨f9, df9, F9.at_, ok_order Ff9 mlen mall gCheck gParts, F9.kp, bf9⟩
  have gPart : FOk P w K mg base "part_of" 5 ["plan", "given", "names"] spPart := ⟨f11, df11, F11.at_, ok_part Ff11 mtuple gCheck gRulesOf gCheckName gReach, F11.kp, bf11⟩
  have gContent : MOk P w K mg base D "content" 1 ["self", "name"] (spContent D) := ⟨b4, db4, B4.meth, ok_content Fb4 TBD mlist, bb4⟩
  have gMade : MOk P w K mg base D "_made" 6 ["self", "tool", "sources"] (spMade D) := ⟨b1, db1, B1.meth, ok_made Fb1 TBD gContent gRun, bb1⟩
  have gBAdv : MOk P w K mg base D "advance" 7 ["self"] (spBAdv D) := ⟨b2, db2, B2.meth, ok_badv Fb2 TBD mlen gMade, bb2⟩
  have gFinish : MOk P w K mg base D "finish" 8 ["self"] (spFinish D) := ⟨b3, db3, B3.meth, ok_finish Fb3 TBD gBAdv, bb3⟩
  have gFailed : MOk P w K mg base D "failed" 1 ["self"] (spFailed D) := ⟨b5, db5, B5.meth, ok_failed Fb5 TBD msorted, bb5⟩
  have gBInit : FnOk P w K mg base CX0 5 b0 db0 ["self", "plan", "given", "fuel"] (spBInit D) := ok_binit Fb0 TBD mtuple mlist gOrder
  have gBuild : FOkK P w K mg base "build_all" 9 ["plan", "given", "fuel"] ["fuel"] 2 spBuildAll := ⟨f12, df12, F12.at_, ok_buildAll Ff12 TBD ⟨mkD, B0.at_, B0.is, kcD⟩ (PySem.W.mg_of X G aB) gBInit kb0 gFinish gContent gFailed, F12.kp, kba⟩
  have gLcell : FOk P w K mg base "_law_cell" 1 ["_law_script", "_law_k"] (spCell K) := ⟨f13, df13, F13.at_, ok_cell Ff13 TLm, F13.kp, bf13⟩
  have gLvalues : FOk P w K mg base "_law_values" 1 ["_law_cell_here", "_law_count", "_law_size"] spValues := ⟨f14, df14, F14.at_, ok_values Ff14 TLm, F14.kp, bf14⟩
  have gLnames : FOk P w K mg base "_law_names" 2 ["_law_cell_here"] spNames := ⟨f15, df15, F15.at_, ok_names Ff15 TLm gLvalues, F15.kp, bf15⟩
  have gLgiven : FOk P w K mg base "_law_given" 2 ["_law_names_here", "_law_cell_here"] (spGiven K) := ⟨f16, df16, F16.at_, ok_given Ff16 TLm gLvalues, F16.kp, bf16⟩
  have gLplan : FOk P w K mg base "_law_plan" 2 ["_law_names_here", "_law_cell_here", "_law_second", "_law_count", "_law_free"] spLPlan := ⟨f17, df17, F17.at_, ok_lplan Ff17 TLm gLvalues, F17.kp, bf17⟩
  have gLreach : FOk P w K mg base "_law_reach" 1 ["_law_plan_here", "_law_name"] spLReach := ⟨f18, df18, F18.at_, ok_lreach Ff18 TLm, F18.kp, bf18⟩
  have gLsame : FGOk P w K mg base "_law_same" 1 ["_law_first", "_law_second", "_law_names_here"] spLSame := ⟨f19, df19, F19.at_, ok_lsame Ff19 mrepr, F19.kp, bf19⟩
  exact ok_law Ff20 TLm msorted mdict gLcell gLnames gLgiven gLplan gLvalues gLreach gBuild gPart gLsame
theorem walk {l : PySem.W.OpenLaw} {q : Program} {loose : List Str} {XP : (Str → Option Value) → Heap → Prop} {YP : World → Heap → Prop} {d : DefRec} {K : Params → PySem.W.Frag} (hn : l.most = some 63) (hdf : d.params.defaults = [])
    (hY : ∀ (w : World) (h : Heap), YP w h → (K w.params).In h)
    (F : ∀ (w : World) (mg : Str → Option Value) (fa : Addr) (h : Heap), (K w.params).In h → h.Ns mainGlobals mg → mg d.name = some (.ref fa) →
      ∃ fd : FuncData, (∀ (s : Shared) (u : Value), BindsTo s fd ⟨[u], []⟩ [("_law_script", u)]) ∧ ∀ base : Heap, (K w.params).In base → base.Ns mainGlobals mg → FnG l.prog w (K w.params) mg base 10 fa fd ["_law_script"] (spLaw (K w.params))) :
    PySem.W.WalkO q loose XP YP l.row.toRowW d [] (fun f vs => PySem.call f vs) :=
  walk_ofG (n := 63) (k := 10) (x := "_law_script") (sp := fun K => spLaw K) hn (by decide) hdf ⟨rfl, by decide, by decide⟩ hY F (fun _ _ a ns hl hS => ⟨a, ns, rfl, hS, hl, fun _ => rfl⟩)
end Q3

open PySem PySem.W PyProof.Rows
set_option maxRecDepth 100000 in
set_option maxHeartbeats 0 in
theorem PySem.Challenge.cw_plinth_k53_whole_builds_in_any_order_holds : PySem.Challenge.rw_plinth_k53_whole_builds_in_any_order.Holds := by
  w_on; o_law; k_head; (case hw => w_witness2)
  k_fill
  refine Q3.walk (l := PySem.Challenge.rw_plinth_k53_whole_builds_in_any_order) rfl rfl (fun w h Y => PySem.W.kIn_of Y) ?F
  case F =>
    intro w mg fa h KX G hmg
    refine' Q3.all_mk (P := PySem.Challenge.rw_plinth_k53_whole_builds_in_any_order.prog) KX G hmg ?aC ?aB ?aT (Q3.fnm KX G ?E0a ?E0l ?E0c ?E0k) (Q3.fnm KX G ?E1a ?E1l ?E1c ?E1k) (Q3.fnm KX G ?E2a ?E2l ?E2c ?E2k) (Q3.fnm KX G ?E3a ?E3l ?E3c ?E3k) (Q3.fnm KX G ?E4a ?E4l ?E4c ?E4k) (Q3.fnm KX G ?E5a ?E5l ?E5c ?E5k) (Q3.fnm KX G ?E6a ?E6l ?E6c ?E6k) (Q3.fnm KX G ?E7a ?E7l ?E7c ?E7k) (Q3.fnm KX G ?E8a ?E8l ?E8c ?E8k) (Q3.fnm KX G ?E9a ?E9l ?E9c ?E9k) (Q3.fnm KX G ?E10a ?E10l ?E10c ?E10k) (Q3.fnm KX G ?E11a ?E11l ?E11c ?E11k) (Q3.fnm KX G ?E12a ?E12l ?E12c ?E12k) (Q3.fnm KX G ?E13a ?E13l ?E13c ?E13k) (Q3.fnm KX G ?E14a ?E14l ?E14c ?E14k) (Q3.fnm KX G ?E15a ?E15l ?E15c ?E15k) (Q3.fnm KX G ?E16a ?E16l ?E16c ?E16k) (Q3.fnm KX G ?E17a ?E17l ?E17c ?E17k) (Q3.fnm KX G ?E18a ?E18l ?E18c ?E18k) (Q3.fnm KX G ?E19a ?E19l ?E19c ?E19k) (Q3.fnm KX G ?F0a ?F0l ?F0c ?F0k) (Q3.fnm KX G ?F1a ?F1l ?F1c ?F1k) (Q3.fnm KX G ?F2a ?F2l ?F2c ?F2k) (Q3.fnm KX G ?F3a ?F3l ?F3c ?F3k) (Q3.fnm KX G ?F4a ?F4l ?F4c ?F4k) (Q3.fnm KX G ?F5a ?F5l ?F5c ?F5k) (Q3.fnm KX G ?F6a ?F6l ?F6c ?F6k) (Q3.fnm KX G ?F7a ?F7l ?F7c ?F7k) (Q3.fnm KX G ?F8a ?F8l ?F8c ?F8k) (Q3.fnm KX G ?F9a ?F9l ?F9c ?F9k) (Q3.fnm KX G ?F10a ?F10l ?F10c ?F10k) (Q3.fnm KX G ?F11a ?F11l ?F11c ?F11k) (Q3.fnm KX G ?F12a ?F12l ?F12c ?F12k) (Q3.fnm KX G ?F13a ?F13l ?F13c ?F13k) (Q3.fnm KX G ?F14a ?F14l ?F14c ?F14k) (Q3.fnm KX G ?F15a ?F15l ?F15c ?F15k) (Q3.fnm KX G ?F16a ?F16l ?F16c ?F16k) (Q3.fnm KX G ?F17a ?F17l ?F17c ?F17k) (Q3.fnm KX G ?F18a ?F18l ?F18c ?F18k) (Q3.fnm KX G ?F19a ?F19l ?F19c ?F19k) (Q3.fnm KX G ?F20a ?F20l ?F20c ?F20k) (Q3.fmm ?S0a ?S0i ?S0l ?S0c ?S0k) (Q3.fmm ?S1a ?S1i ?S1l ?S1c ?S1k) (Q3.fmm ?S2a ?S2i ?S2l ?S2c ?S2k) (Q3.fmm ?S3a ?S3i ?S3l ?S3c ?S3k) (Q3.fmm ?S4a ?S4i ?S4l ?S4c ?S4k) (Q3.fmm ?B0a ?B0i ?B0l ?B0c ?B0k) (Q3.fmm ?B1a ?B1i ?B1l ?B1c ?B1k) (Q3.fmm ?B2a ?B2i ?B2l ?B2c ?B2k) (Q3.fmm ?B3a ?B3i ?B3l ?B3c ?B3k) (Q3.fmm ?B4a ?B4i ?B4l ?B4c ?B4k) (Q3.fmm ?B5a ?B5i ?B5l ?B5c ?B5k) ?lT ?pT ?lo ?nlen ?nint ?nrange ?ntuple ?nlist ?nall ?nsorted ?nrepr ?ndict ?c1 ?c2 ?c3 ?c4 ?c5 ?pgC ?hdC ?poC ?saC ?mkC ?kcC ?pgD ?hdD ?poD ?saD ?mkD ?kcD ?nC0 ?nC1 ?nC2 ?nC3 ?nC4 ?nC5 ?nC6 ?nC7 ?nC8 ?nC9 ?nD0 ?nD1 ?nD2 ?nD3 ?nD4 ?nD5
    (case aC => k_is)
    (case aB => k_is)
    (case aT => k_is)
    (case E0a => k_is)
    (case E0l => k_is)
    (case E0c => k_is)
    (case E0k => k_is)
    (case E1a => k_is)
    (case E1l => k_is)
    (case E1c => k_is)
    (case E1k => k_is)
    (case E2a => k_is)
    (case E2l => k_is)
    (case E2c => k_is)
    (case E2k => k_is)
    (case E3a => k_is)
    (case E3l => k_is)
    (case E3c => k_is)
    (case E3k => k_is)
    (case E4a => k_is)
    (case E4l => k_is)
    (case E4c => k_is)
    (case E4k => k_is)
    (case E5a => k_is)
    (case E5l => k_is)
    (case E5c => k_is)
    (case E5k => k_is)
    (case E6a => k_is)
    (case E6l => k_is)
    (case E6c => k_is)
    (case E6k => k_is)
    (case E7a => k_is)
    (case E7l => k_is)
    (case E7c => k_is)
    (case E7k => k_is)
    (case E8a => k_is)
    (case E8l => k_is)
    (case E8c => k_is)
    (case E8k => k_is)
    (case E9a => k_is)
    (case E9l => k_is)
    (case E9c => k_is)
    (case E9k => k_is)
    (case E10a => k_is)
    (case E10l => k_is)
    (case E10c => k_is)
    (case E10k => k_is)
    (case E11a => k_is)
    (case E11l => k_is)
    (case E11c => k_is)
    (case E11k => k_is)
    (case E12a => k_is)
    (case E12l => k_is)
    (case E12c => k_is)
    (case E12k => k_is)
    (case E13a => k_is)
    (case E13l => k_is)
    (case E13c => k_is)
    (case E13k => k_is)
    (case E14a => k_is)
    (case E14l => k_is)
    (case E14c => k_is)
    (case E14k => k_is)
    (case E15a => k_is)
    (case E15l => k_is)
    (case E15c => k_is)
    (case E15k => k_is)
    (case E16a => k_is)
    (case E16l => k_is)
    (case E16c => k_is)
    (case E16k => k_is)
    (case E17a => k_is)
    (case E17l => k_is)
    (case E17c => k_is)
    (case E17k => k_is)
    (case E18a => k_is)
    (case E18l => k_is)
    (case E18c => k_is)
    (case E18k => k_is)
    (case E19a => k_is)
    (case E19l => k_is)
    (case E19c => k_is)
    (case E19k => k_is)
    (case F0a => k_is)
    (case F0l => k_is)
    (case F0c => k_is)
    (case F0k => k_is)
    (case F1a => k_is)
    (case F1l => k_is)
    (case F1c => k_is)
    (case F1k => k_is)
    (case F2a => k_is)
    (case F2l => k_is)
    (case F2c => k_is)
    (case F2k => k_is)
    (case F3a => k_is)
    (case F3l => k_is)
    (case F3c => k_is)
    (case F3k => k_is)
    (case F4a => k_is)
    (case F4l => k_is)
    (case F4c => k_is)
    (case F4k => k_is)
    (case F5a => k_is)
    (case F5l => k_is)
    (case F5c => k_is)
    (case F5k => k_is)
    (case F6a => k_is)
    (case F6l => k_is)
    (case F6c => k_is)
    (case F6k => k_is)
    (case F7a => k_is)
    (case F7l => k_is)
    (case F7c => k_is)
    (case F7k => k_is)
    (case F8a => k_is)
    (case F8l => k_is)
    (case F8c => k_is)
    (case F8k => k_is)
    (case F9a => k_is)
    (case F9l => k_is)
    (case F9c => k_is)
    (case F9k => k_is)
    (case F10a => k_is)
    (case F10l => k_is)
    (case F10c => k_is)
    (case F10k => k_is)
    (case F11a => k_is)
    (case F11l => k_is)
    (case F11c => k_is)
    (case F11k => k_is)
    (case F12a => k_is)
    (case F12l => k_is)
    (case F12c => k_is)
    (case F12k => k_is)
    (case F13a => k_is)
    (case F13l => k_is)
    (case F13c => k_is)
    (case F13k => k_is)
    (case F14a => k_is)
    (case F14l => k_is)
    (case F14c => k_is)
    (case F14k => k_is)
    (case F15a => k_is)
    (case F15l => k_is)
    (case F15c => k_is)
    (case F15k => k_is)
    (case F16a => k_is)
    (case F16l => k_is)
    (case F16c => k_is)
    (case F16k => k_is)
    (case F17a => k_is)
    (case F17l => k_is)
    (case F17c => k_is)
    (case F17k => k_is)
    (case F18a => k_is)
    (case F18l => k_is)
    (case F18c => k_is)
    (case F18k => k_is)
    (case F19a => k_is)
    (case F19l => k_is)
    (case F19c => k_is)
    (case F19k => k_is)
    (case F20a => k_is)
    (case F20l => k_is)
    (case F20c => k_is)
    (case F20k => k_is)
    (case S0a => k_is)
    (case S0i => k_is)
    (case S0l => k_is)
    (case S0c => k_is)
    (case S0k => k_is)
    (case S1a => k_is)
    (case S1i => k_is)
    (case S1l => k_is)
    (case S1c => k_is)
    (case S1k => k_is)
    (case S2a => k_is)
    (case S2i => k_is)
    (case S2l => k_is)
    (case S2c => k_is)
    (case S2k => k_is)
    (case S3a => k_is)
    (case S3i => k_is)
    (case S3l => k_is)
    (case S3c => k_is)
    (case S3k => k_is)
    (case S4a => k_is)
    (case S4i => k_is)
    (case S4l => k_is)
    (case S4c => k_is)
    (case S4k => k_is)
    (case B0a => k_is)
    (case B0i => k_is)
    (case B0l => k_is)
    (case B0c => k_is)
    (case B0k => k_is)
    (case B1a => k_is)
    (case B1i => k_is)
    (case B1l => k_is)
    (case B1c => k_is)
    (case B1k => k_is)
    (case B2a => k_is)
    (case B2i => k_is)
    (case B2l => k_is)
    (case B2c => k_is)
    (case B2k => k_is)
    (case B3a => k_is)
    (case B3i => k_is)
    (case B3l => k_is)
    (case B3c => k_is)
    (case B3k => k_is)
    (case B4a => k_is)
    (case B4i => k_is)
    (case B4l => k_is)
    (case B4c => k_is)
    (case B4k => k_is)
    (case B5a => k_is)
    (case B5i => k_is)
    (case B5l => k_is)
    (case B5c => k_is)
    (case B5k => k_is)
    (case lT => k_is)
    (case pT => exact .cons ⟨⟨_, rfl⟩, rfl, rfl⟩ (.cons ⟨⟨_, rfl⟩, rfl, rfl⟩ (.cons ⟨⟨_, rfl⟩, rfl, rfl⟩ (.cons ⟨⟨_, rfl⟩, rfl, rfl⟩ (.cons ⟨⟨_, rfl⟩, rfl, rfl⟩ (.cons ⟨⟨_, rfl⟩, rfl, rfl⟩ (.cons ⟨⟨_, rfl⟩, rfl, rfl⟩ (.cons ⟨⟨_, rfl⟩, rfl, rfl⟩ (.cons ⟨⟨_, rfl⟩, rfl, rfl⟩ (.cons ⟨⟨_, rfl⟩, rfl, rfl⟩ (.cons ⟨⟨_, rfl⟩, rfl, rfl⟩ (.cons ⟨⟨_, rfl⟩, rfl, rfl⟩ (.cons ⟨⟨_, rfl⟩, rfl, rfl⟩ (.cons ⟨⟨_, rfl⟩, rfl, rfl⟩ (.cons ⟨⟨_, rfl⟩, rfl, rfl⟩ (.cons ⟨⟨_, rfl⟩, rfl, rfl⟩ (.cons ⟨⟨_, rfl⟩, rfl, rfl⟩ (.cons ⟨⟨_, rfl⟩, rfl, rfl⟩ (.cons ⟨⟨_, rfl⟩, rfl, rfl⟩ (.cons ⟨⟨_, rfl⟩, rfl, rfl⟩ (.nil)))))))))))))))))))))
    (case lo => rfl)
    (case nlen => k_is)
    (case nint => k_is)
    (case nrange => k_is)
    (case ntuple => k_is)
    (case nlist => k_is)
    (case nall => k_is)
    (case nsorted => k_is)
    (case nrepr => k_is)
    (case ndict => k_is)
    (case c1 => k_is)
    (case c2 => k_is)
    (case c3 => k_is)
    (case c4 => k_is)
    (case c5 => k_is)
    (case pgC => k_is)
    (case hdC => k_is)
    (case poC => k_is)
    (case saC => k_is)
    (case mkC => k_is)
    (case kcC => k_is)
    (case pgD => k_is)
    (case hdD => k_is)
    (case poD => k_is)
    (case saD => k_is)
    (case mkD => k_is)
    (case kcD => k_is)
    (case nC0 => k_is)
    (case nC1 => k_is)
    (case nC2 => k_is)
    (case nC3 => k_is)
    (case nC4 => k_is)
    (case nC5 => k_is)
    (case nC6 => k_is)
    (case nC7 => k_is)
    (case nC8 => k_is)
    (case nC9 => k_is)
    (case nD0 => k_is)
    (case nD1 => k_is)
    (case nD2 => k_is)
    (case nD3 => k_is)
    (case nD4 => k_is)
    (case nD5 => k_is)
