import PyProof.Rows.All
import Wide.All
import OpenK.AllK
import Wide.FinOn
import KE.KStateDown
import HandS.ForMost
import HandS.Wide
import HandS.WideBits
import HandS.Conv
import HandS.IsInst
import HandS.Style
import HandS.Deep
import HandS.Rev
import HandS.TupLen
import HandS.Flow
import HandS.Defaults
import HandS.Head0
import HandS.Head1
import HandS.Head2
import HandS.HeadEnd
import HandS.HeadHook1
import HandS.HeadHook2
import HandS.TupAny
import HandS.TupMul
import HandS.Evl
import PySem.Challenge.RW_stepcourt_k27_numbers_never_given
set_option Elab.async false
set_option linter.all false
set_option maxRecDepth 100000
set_option maxHeartbeats 4000000
namespace Ct
open PySem PySem.Spec PyProof.Rows L2

/-! ### heaps: what a piece of code may change -/
structure Fr (S : List Addr) (H H' : Hp) : Prop where
  keep : ∀ b o, H b = some o → b ∉ S → H' b = some o
  tup : ∀ b xs, H b = some (.tup xs) → H' b = some (.tup xs)
  dom : ∀ b, H' b = none → H b = none
theorem Fr.refl (S : List Addr) (H : Hp) : Fr S H H := ⟨fun _ _ h _ => h, fun _ _ h => h, fun _ h => h⟩
theorem Fr.trans {S : List Addr} {H H1 H2 : Hp} (a : Fr S H H1) (b : Fr S H1 H2) : Fr S H H2 :=
  ⟨fun c o h n => b.keep c o (a.keep c o h n) n, fun c xs h => b.tup c xs (a.tup c xs h), fun c h => a.dom c (b.dom c h)⟩
theorem Fr.mono {S S' : List Addr} {H H' : Hp} (a : Fr S H H') (h : ∀ b ∈ S, b ∈ S') : Fr S' H H' :=
  ⟨fun c o e n => a.keep c o e fun z => n (h c z), a.tup, a.dom⟩
theorem Fr.nil {S : List Addr} {H H' : Hp} (a : Fr [] H H') : Fr S H H' := a.mono fun _ h => by cases h
/-- a new object -/
theorem Fr.new {S : List Addr} {H H' : Hp} {p : Addr} {o : HO} (a : Fr S H H') (h : H' p = none) : Fr S H (upd H' p o) := by
  have h0 := a.dom p h
  refine ⟨fun c u e n => ?_, fun c xs e => ?_, fun c e => ?_⟩
  · rw [upd_ne (ne_of_none e h0)]; exact a.keep c u e n
  · rw [upd_ne (ne_of_none e h0)]; exact a.tup c xs e
  · by_cases hc : c = p
    · subst hc; rw [upd_same] at e; cases e
    · rw [upd_ne hc] at e; exact a.dom c e
/-- an object that was not there at first is changed -/
theorem Fr.mine {S : List Addr} {H H' : Hp} {p : Addr} {o : HO} (a : Fr S H H') (h0 : H p = none) : Fr S H (upd H' p o) := by
  refine ⟨fun c u e n => ?_, fun c xs e => ?_, fun c e => ?_⟩
  · rw [upd_ne (ne_of_none e h0)]; exact a.keep c u e n
  · rw [upd_ne (ne_of_none e h0)]; exact a.tup c xs e
  · by_cases hc : c = p
    · subst hc; rw [upd_same] at e; cases e
    · rw [upd_ne hc] at e; exact a.dom c e
def isTup : HO → Bool
  | .tup _ => true
  | _ => false
/-- a changeable object of S is changed -/
theorem Fr.set {S : List Addr} {H H' : Hp} {p : Addr} {o u : HO} (a : Fr S H H') (hp : H' p = some u) (hu : isTup u = false) (hS : p ∈ S) : Fr S H (upd H' p o) := by
  refine ⟨fun c v e n => ?_, fun c xs e => ?_, fun c e => ?_⟩
  · rw [upd_ne fun z => n (by rw [z]; exact hS)]; exact a.keep c v e n
  · have e1 := a.tup c xs e
    rw [upd_ne fun z => by rw [z, hp] at e1; cases e1; cases hu]; exact e1
  · by_cases hc : c = p
    · subst hc; rw [upd_same] at e; cases e
    · rw [upd_ne hc] at e; exact a.dom c e
/-- what was not there at first need not be named -/
theorem Fr.drop {S : List Addr} {H H' : Hp} {p : Addr} (a : Fr (p :: S) H H') (h : H p = none) : Fr S H H' :=
  ⟨fun c o e n => a.keep c o e fun z => (List.mem_cons.mp z).elim (ne_of_none e h) n, a.tup, a.dom⟩
theorem Fr.free {S : List Addr} {H H' : Hp} {p : Addr} (a : Fr S H H') (h : H' p = none) : H p = none := a.dom p h
/-- of changes since H1, all but what H did not know -/
theorem Fr.after {S S' : List Addr} {H H1 H2 : Hp} (a : Fr S H H1) (b : Fr S' H1 H2) (h : ∀ p ∈ S', p ∈ S ∨ H p = none) : Fr S H H2 :=
  ⟨fun c o e n => b.keep c o (a.keep c o e n) fun z => (h c z).elim n fun q => (by rw [q] at e; cases e), fun c xs e => b.tup c xs (a.tup c xs e), fun c e => a.dom c (b.dom c e)⟩
theorem Fr.seq {S : List Addr} {H H' : Hp} {K : PySem.W.Frag} {a : Addr} {xs : List V} (f : Fr S H H') (h : SqL K H a xs) (n : a ∉ S) : SqL K H' a xs := by
  rcases h with (h | ⟨o, h⟩) | h
  · exact .inl (.inl (f.keep _ _ h n))
  · exact .inl (.inr ⟨o, f.keep _ _ h n⟩)
  · exact .inr h
theorem upd_old {H : Hp} {p a : Addr} {o u : HO} (hp : H p = none) (h : H a = some u) : upd H p o a = some u := by
  rw [upd_ne (ne_of_none h hp)]; exact h
theorem upd_at {H : Hp} {p a : Addr} {o u : HO} (n : a ≠ p) (h : H a = some u) : upd H p o a = some u := by
  rw [upd_ne n]; exact h

/-! ### data of tuples -/
mutual
def tu : PyData → Bool
  | .none => true
  | .bool _ => true
  | .int _ => true
  | .str _ => true
  | .list _ => false
  | .tuple ds => tuAll ds
  | .dict _ => false
def tuAll : List PyData → Bool
  | [] => true
  | d :: ds => tu d && tuAll ds
end
/-- v stands for the data d, made of tracked tuples -/
inductive Is (H : Hp) : V → PyData → Prop
  | non : Is H .non .none
  | bl (b : Bool) : Is H (.bl b) (.bool b)
  | int (i : Int) : Is H (.int i) (.int i)
  | str (x : Str) : Is H (.str x) (.str x)
  | tup {a : Addr} {xs : List V} {ds : List PyData} : H a = some (.tup xs) → xs.length = ds.length → (∀ (i : Nat) x d, xs[i]? = some x → ds[i]? = some d → Is H x d) → Is H (.ref a) (.tuple ds)
theorem Is.mono {S : List Addr} {H H' : Hp} {v : V} {d : PyData} (f : Fr S H H') (h : Is H v d) : Is H' v d := by
  induction h with
  | non => exact .non
  | bl b => exact .bl b
  | int i => exact .int i
  | str x => exact .str x
  | tup h1 h2 _ ih => exact .tup (f.tup _ _ h1) h2 ih
theorem dpAll {K : PySem.W.Frag} {H : Hp} : ∀ {xs : List V} {ds : List PyData}, xs.length = ds.length → (∀ (i : Nat) x d, xs[i]? = some x → ds[i]? = some d → Dp K H x d) → DpAll K H xs ds
  | [], [], _, _ => .nil
  | [], _ :: _, h, _ => by cases h
  | _ :: _, [], h, _ => by cases h
  | x :: xs, d :: ds, h, k => .cons (k 0 x d rfl rfl) (dpAll (by simpa using h) fun i y e h1 h2 => k (i + 1) y e (by simpa using h1) (by simpa using h2))
theorem Is.dp {K : PySem.W.Frag} {H : Hp} {v : V} {d : PyData} (h : Is H v d) : Dp K H v d := by
  induction h with
  | non => exact .non
  | bl b => exact .bl b
  | int i => exact .int i
  | str x => exact .str x
  | tup h1 h2 _ ih => exact .tup (.inl (.inl h1)) (dpAll h2 ih)

/-! ### defs that are called where no text is being made of a thing: what repr asks -/
section
variable {P : Program} {w : World} {K : PySem.W.Frag} {mg : Str → Option Value} {base : Heap}
structure FnG (P : Program) (w : World) (K : PySem.W.Frag) (mg : Str → Option Value) (base : Heap) (k : Nat) (f : Addr) (fd : FuncData) (ps : List Str) (sp : Sp) : Prop where
  len : ∀ vs H Q E, sp vs H Q E → vs.length = ps.length
  run : ∀ (A : Around) (outer : List Env) (s : Shared) (H : Hp) (args : Args) (us : List Value) (vs : List V) (Q : VK) (E : XK), A.guards = some [] → Room k A → Env0 P w K mg base A outer s H →
    BindsTo s fd args (ps.zip us) → Vals vs us → sp vs H Q E → codeAny (model P w) A (.call (.ref f) args) (CR CX0 outer P w H s Q E) s
theorem gn_of {k : Nat} {f : Addr} {name qual : Str} {params : Arguments} {body : List Stmt} {scope : Scope} {dvs : List V} {kws : List (Str × V)} {fd : FuncData} {N ps : List Str} {sp : Sp}
    (F : FunD K name qual params body scope dvs kws f fd) (S : FnScope N ps scope) (len : ∀ vs H Q E, sp vs H Q E → vs.length = ps.length)
    (hbody : ∀ (cdv : Value) (A : Around) (outer : List Env) (s : Shared) (H : Hp) (vs : List V) (Q : VK) (E : XK), A.guards = some [] → Room k (A.deeper (envOfC qual scope s.heap.objs.size f cdv)) → sp vs H Q E →
      ∃ t, PSs (cxOf CX0 P w K mg base N qual scope f cdv A outer s H E).nox body t ∧ t { nx := fun _ H' => Q .non H', rt := Q } (start N vs) H) : FnG P w K mg base (k + 1) f fd ps sp := by
  obtain ⟨oc, od, dV, kV, doc, pm, an, cdv, ct, osl, rfl, lk, hcd, -, -⟩ := F.ex
  refine ⟨len, fun A outer s H args us vs Q E hg hr e0 hb rv hs => ?_⟩
  have lv := len vs H Q E hs
  have old : ∀ b o, base.get? b = some o → s.heap.get? b = some o := fun b o z => (e0.bs b o z).1
  have kin : K.In s.heap := e0.mod.kin.keeps old
  have nol : s.heap.NoLimit := e0.mod.nolimit.keeps old
  have kinds : ∀ y ∈ ps.zip us, scope.names.lookup y.1 = some .local ∨ (scope.names.lookup y.1 = some .cell ∧ ((cellsFrom (s.heap.objs.size + 1) scope.names []).lookup y.1).isSome = true) := by
    rintro ⟨n, v⟩ hy
    exact (S.par n (List.of_mem_zip hy).1).elim Or.inl fun q => Or.inr ⟨q, PySem.W.cellsFrom_some _ _ _ (.inl q)⟩
  refine codeAny_call_function hr.depth (kin _ _ lk) rfl S.co S.gen rfl (PySem.W.codeRec_of kin hcd) (hb _ _ _ _ ?_)
  refine wpAny_newFunctionEnv_cells S.kind kinds fun env he s1 xc => ?_
  subst he
  refine ⟨nol.keeps xc.toInCall.keep, codeAny_func ?_⟩
  obtain ⟨t, ht, hq⟩ := hbody cdv A outer s H vs Q E hg (hr.deeper _) hs
  have I := inv_start (CX := CX0) (E := E) S hr.hd e0 lv rv xc
  refine wpAny_mono (ht.nox.run [] s1 _ H _ I hq) (fun fl s' z => ?_) fun _ _ z => z
  cases fl with
  | ret u => obtain ⟨v, _, H', J, r1, q⟩ := z; exact ⟨v, H', J.os, J.bare, J.base, J.hok, r1, q⟩
  | next => obtain ⟨_, H', J, q⟩ := z; exact ⟨V.non, H', J.os, J.bare, J.base, J.hok, rfl, q⟩
  | brk => obtain ⟨_, _, _, q⟩ := z; exact q.elim
  | cont => obtain ⟨_, _, _, q⟩ := z; exact q.elim
/-- what keeps its promise anywhere keeps it there -/
theorem FnOk.g {k : Nat} {f : Addr} {fd : FuncData} {ps : List Str} {sp : Sp} (F : FnOk P w K mg base CX0 k f fd ps sp) : FnG P w K mg base k f fd ps sp :=
  ⟨F.len, fun A outer s H args us vs Q E _ hr e0 hb rv hs => F.run A outer s H args us vs Q E hr e0 hb rv hs⟩
end
section
variable {X : Cx} {k : Nat} {f : Addr} {fd : FuncData} {ps : List Str} {sp : Sp} {x : Str} {p pos : Pos} {e : Expr} {es : List Expr} {t : TA}
theorem pe_callG (F : FnG X.prog X.w X.K X.mg X.base k f fd ps sp) (hG : X.A.guards = some []) (hr : Room k X.A) (hg : Gl X x) (hm : X.mg x = some (.ref f)) (hk : PySem.W.keepIn X.K (.ref f) = true) (hb : Binds X.K fd ps [])
    (ha : PA X (e :: es) t) (hdb : (x == ("__debug__" : Str)) = false := by decide) (he : starEach (e :: es) X.env = (false, eval e X.env) :: starEach es X.env := by rfl) (hpl : (backTo pos (starEach es X.env)).any (·.1) = false := by rfl) :
    PE X (.Call (.Name x p) (e :: es) [] pos) (tCall sp [] E0 t) := by
  refine ⟨fun pins s σ H Q I h => wpAny_Call_Name_kw (ld_glob I hg hm ?_ hdb)⟩
  refine PySem.W.callWith_K (h₀ := X.base) I.ok.mod.kin hk (thn (ha.run pos pins s σ H _ I h) fun us s1 z => ?_) he hpl
  obtain ⟨vs, H1, I1, r, q⟩ := z
  refine ⟨I1.kIn, ?_⟩
  have q' : sp (vs ++ []) H1 Q E0 := q
  rw [List.append_nil] at q'
  have hl : (us ++ []).length = ps.length := by rw [List.append_nil, ← r.length]; exact F.len _ _ _ _ q'
  have hbs := hb s1 us I1.kIn hl
  rw [List.append_nil] at hbs
  refine wpAny_call (codeAny_mono (F.run X.A X.stack s1 H1 ⟨us, []⟩ us vs Q E0 hG hr I1.env0 hbs r q') fun r' s' hq => ?_)
  cases r' with
  | error _ => exact hq.elim
  | ok fl =>
    cases fl with
    | ret u => exact I1.after hq
    | next => exact hq.elim
    | brk => exact hq.elim
    | cont => exact hq.elim
end
/-! ### repr of data -/
mutual
/-- a bound of how long the text of data is -/
def rsz : PyData → Nat
  | .none => 4
  | .bool _ => 5
  | .int _ => 1921
  | .str x => (reprText x).length
  | .list _ => 0
  | .tuple ds => rszAll ds + 2 * ds.length + 3
  | .dict _ => 0
def rszAll : List PyData → Nat
  | [] => 0
  | d :: ds => rsz d + rszAll ds
end
theorem shownAll_len : ∀ ds : List PyData, (PyData.shownAll ds).length = ds.length
  | [] => rfl
  | d :: ds => by simp [PyData.shownAll, shownAll_len ds]
theorem rszAll_map : ∀ {ds : List PyData}, (∀ d ∈ ds, d.shown.length ≤ rsz d) → ((PyData.shownAll ds).map (·.length)).sum ≤ rszAll ds
  | [], _ => Nat.le_refl _
  | d :: ds, h => by
    have h1 := h d List.mem_cons_self
    have h2 := rszAll_map fun e he => h e (List.mem_cons_of_mem _ he)
    simp only [PyData.shownAll, List.map_cons, List.sum_cons, rszAll]
    omega
theorem showable_all : ∀ {ds : List PyData}, PyData.showableAll ds = true → ∀ d ∈ ds, d.showable = true
  | [], _, d, h => by cases h
  | e :: ds, h, d, hd => by
    simp only [PyData.showableAll, Bool.and_eq_true] at h
    rcases List.mem_cons.mp hd with rfl | hd
    · exact h.1
    · exact showable_all h.2 d hd
theorem all_ix {H : Hp} {xs : List V} {ds : List PyData} (hl : xs.length = ds.length) {p : PyData → Prop} (ih : ∀ (i : Nat) x d, xs[i]? = some x → ds[i]? = some d → p d) : ∀ d ∈ ds, p d := fun d hd => by
  obtain ⟨i, hi, e⟩ := List.getElem_of_mem hd
  have e1 : ds[i]? = some d := by rw [List.getElem?_eq_getElem hi, e]
  exact ih i _ d (List.getElem?_eq_getElem (by omega)) e1
theorem hasDict_all : ∀ {ds : List PyData}, (∀ d ∈ ds, d.hasDict = false) → PyData.hasDictAll ds = false
  | [], _ => rfl
  | d :: ds, h => by
    simp only [PyData.hasDictAll, h d List.mem_cons_self, hasDict_all fun e he => h e (List.mem_cons_of_mem _ he), Bool.or_self]
theorem Is.noDict {H : Hp} {v : V} {d : PyData} (h : Is H v d) : d.hasDict = false := by
  induction h with
  | non => rfl
  | bl b => rfl
  | int i => rfl
  | str x => rfl
  | tup h1 h2 _ ih =>
    simp only [PyData.hasDict]
    exact hasDict_all (all_ix (H := H) h2 ih)
theorem Is.len {H : Hp} {v : V} {d : PyData} (h : Is H v d) : d.showable = true → d.shown.length ≤ rsz d := by
  induction h with
  | non => intro _; decide
  | bl b => intro _; cases b <;> decide
  | int i =>
    intro hs
    have h1 : i.natAbs.log2 < 1920 := of_decide_eq_true (by simpa only [PyData.showable] using hs)
    exact int_text_len_1921 h1
  | str x => intro _; exact Nat.le_refl _
  | @tup a xs ds h1 h2 _ ih =>
    intro hs
    have hs' : PyData.showableAll ds = true := by simpa only [PyData.showable] using hs
    have h3 := tupleText_len_le (PyData.shownAll ds)
    have h4 := rszAll_map (all_ix (H := H) (p := fun d => d.showable = true → d.shown.length ≤ rsz d) h2 ih |> fun q d hd => q d hd (showable_all hs' d hd))
    rw [shownAll_len] at h3
    simp only [PyData.shown, rsz]
    omega
section
variable {X : Cx}
def rRepr : List V → Hp → VK → Prop := fun xs H Q => ∃ v d, xs = [v] ∧ Is H v d ∧ d.showable = true ∧ rsz d ≤ sizeLine ∧ d.depth ≤ 60 ∧ Q (.str d.shown) H
theorem call_repr_D (hG : X.A.guards = some []) (hu : X.A.units + 64 < cLine) : CallR X (.builtin "repr") rRepr := by
  intro pins s σ H xs us Q I r h
  obtain ⟨v, d, rfl, hv, hs, hz, hd, q⟩ := h
  obtain ⟨u, rfl, ru⟩ := vals1 r
  have hz' := Nat.le_trans (hv.len hs) hz
  have hn := hv.noDict
  cases hv with
  | non =>
    have ru' : u = Value.none := ru
    subst ru'
    exact PySem.P.repr_of_none ⟨.str _, H, I.tok _, ⟨_, rfl⟩, q⟩
  | bl b =>
    have ru' : u = Value.bool b := ru
    subst ru'
    exact PySem.P.repr_of_bool ⟨.str _, H, I.tok _, ⟨_, by cases b <;> rfl⟩, q⟩
  | int i =>
    obtain ⟨t, rfl⟩ := ru
    exact PySem.P.repr_of_int (of_decide_eq_true (by simpa only [PyData.showable] using hs)) ⟨.str _, H, I.tok _, ⟨_, rfl⟩, q⟩
  | str x =>
    obtain ⟨t, rfl⟩ := ru
    exact PySem.P.repr_of_str ⟨.str _, H, I.tok _, ⟨_, rfl⟩, q⟩ hz'
  | tup h1 h2 h3 =>
    have ru' : u = Value.ref _ := ru
    subst ru'
    obtain ⟨as, rd⟩ := Dp.reads I _ _ _ (Is.dp (K := X.K) (Is.tup h1 h2 h3)) (rfl : RelV (V.ref _) _)
    refine repr_of_reads' rd hs (fun z => by rw [hn] at z; cases z) hG (by omega) (fun _ _ z => z) (fun h' u tk hk => ?_) hz'
    exact ⟨.str _, H, I.kept hk, ⟨_, rfl⟩, q⟩
end
end Ct

set_option Elab.async false
set_option linter.all false
set_option maxRecDepth 100000
set_option maxHeartbeats 4000000
namespace Ct
open PySem PySem.Spec PyProof.Rows L2

/-! ### a law's end over a def that asks for bare guards -/
section
variable {P : Program} {w : World} {K : PySem.W.Frag} {mg mb : Str → Option Value} {k : Nat} {fa a : Addr} {fd : FuncData} {x : Str} {sp : Sp} {s1 : Shared} {vs : List Value} {ns : List Int}
/-- from an abstract heap in which at most the script is tracked -/
theorem lawG_at {H : Hp} (KX : K.In s1.heap) (hns : s1.heap.Ns mainGlobals mg) (hb : s1.heap.Ns builtinsNs mb) (hbb : ∀ y : Str, y ≠ "__name__" → mb y = bootBuiltins y) (hlim : s1.heap.NoLimit) (hg : s1.gens = #[])
    (ha : s1.heap.get? a = some { cls := .type "list", data := .seq vs.toArray }) (hr : Room k callerA) (F : ∀ base : Heap, K.In base → base.Ns mainGlobals mg → FnG P w K mg base k fa fd [x] sp)
    (hbind : ∀ (s : Shared) (u : Value), BindsTo s fd ⟨[u], []⟩ [(x, u)]) (hsp : sp [.ref a] H (fun v _ => v = .bl true) fun _ _ _ => False) (hO : Only H) (hok : HOk P w H s1.heap) (hA : ∀ b, H b ≠ none → b = a) (hK : H a ≠ none → K.lookup a = none) :
    codeAny (model P w) callerA (.call (.ref fa) ⟨[.ref a], []⟩) (fun r s' => r = .ok (.ret (.bool true)) ∧ OldK s1.heap s'.heap ∧ s'.os = s1.os ∧ AllBare s'.gens) s1 := by
  have isA : ∀ {b u}, H b = some u → b = a := fun {b u} q => hA b (by rw [q]; nofun)
  have dictN : ∀ {b : Addr} {o : Obj} {es : Array DictEntry} {ep : Nat}, s1.heap.get? b = some o → o.data = .dict es ep → H b = none := fun {b o es ep} e d => by
    cases q : H b with
    | none => rfl
    | some u =>
      cases isA q
      rw [ha] at e
      cases e
      exact nomatch (show Data.seq vs.toArray _ = Data.dict es ep from d)
  have ns2 : ∀ {b : Addr} {m : Str → Option Value}, s1.heap.Ns b m → (hidT s1.heap H).Ns b m := fun {b m} ⟨o, es, ep, e, d, r⟩ => ⟨o, es, ep, hidT_get e (dictN e d), d, r⟩
  have KB : K.In (hidT s1.heap H) := fun b o e => hidT_get (KX b o e) (by
    cases q : H b with
    | none => rfl
    | some u =>
      cases isA q
      rw [hK (by rw [q]; nofun)] at e
      cases e)
  obtain ⟨mc, lim1, lim2⟩ := hlim
  have M : Mod K mg (hidT s1.heap H) := ⟨KB, ns2 hns, ⟨mb, ns2 hb, hbb⟩, ⟨mc, ns2 lim1, lim2⟩⟩
  have env : Env0 P w K mg (hidT s1.heap H) callerA [] s1 H :=
    ⟨rfl, M, fun b o e => of_hidT e, Nat.le_of_eq (hidT_size _ _), trivial, fun b z => (List.not_mem_nil z).elim, hok, .of_eq hg⟩
  refine codeAny_mono ((F _ KB (ns2 hns)).run callerA [] s1 H _ [.ref a] [.ref a] _ _ rfl hr env (hbind s1 (.ref a)) (.cons rfl .nil) hsp) fun r s' h => ?_
  match r, h with
  | .error _, h => exact h.elim
  | .ok (.ret u), h =>
    obtain ⟨v, H', os, bare, un, hok', rv, q⟩ := h
    have qv : v = .bl true := q
    subst qv
    have ru : u = Value.bool true := rv
    subst ru
    refine ⟨rfl, OldK.of_keep fun b o e => ?_, os, bare⟩
    cases q : H b with
    | none => exact un.keep b o e q List.not_mem_nil List.not_mem_nil
    | some u =>
      rcases hO b with z | ⟨ob, xs, z⟩
      · rw [q] at z
        cases z
      · have e1 := (hok b _ z).1
        rw [e] at e1
        cases e1
        exact (hok' b _ (un.frzs b o _ z)).1
theorem law_callG (KX : K.In s1.heap) (hns : s1.heap.Ns mainGlobals mg) (hb : s1.heap.Ns builtinsNs mb) (hbb : ∀ y : Str, y ≠ "__name__" → mb y = bootBuiltins y) (hlim : s1.heap.NoLimit) (hg : s1.gens = #[])
    (ha : s1.heap.get? a = some { cls := .type "list", data := .seq vs.toArray }) (hi : IntsAre vs ns) (hl : ns.length ≤ sizeLine) (hr : Room k callerA) (F : ∀ base : Heap, K.In base → base.Ns mainGlobals mg → FnG P w K mg base k fa fd [x] sp)
    (hbind : ∀ (s : Shared) (u : Value), BindsTo s fd ⟨[u], []⟩ [(x, u)]) (hsp : ∀ H : Hp, Only H → SqL K H a (ns.map V.int) → sp [.ref a] H (fun v _ => v = .bl true) fun _ _ _ => False) :
    codeAny (model P w) callerA (.call (.ref fa) ⟨[.ref a], []⟩) (fun r s' => r = .ok (.ret (.bool true)) ∧ OldK s1.heap s'.heap ∧ s'.os = s1.os ∧ AllBare s'.gens) s1 := by
  have rv := vals_ints hi
  have lv := hi.length
  have lm : (ns.map V.int).length ≤ sizeLine := by rw [List.length_map]; exact hl
  cases hk : K.lookup a with
  | some o =>
    have e := KX a o hk
    rw [ha] at e
    cases e
    have hO : Only (fun _ => none) := fun _ => .inl rfl
    exact lawG_at KX hns hb hbb hlim hg ha hr F hbind (hsp _ hO (.inr ⟨_, vs.toArray, _, hk, rfl, rfl, rfl, by rw [List.size_toArray, lv]; exact hl, by simpa using rv⟩)) hO
      (fun b u z => nomatch (show (none : Option HO) = some u from z)) (fun b z => absurd rfl z) fun z => absurd rfl z
  | none =>
    have at1 : ∀ b, b = a → (fun b => if b = a then some (HO.frz { cls := .type "list", data := .seq vs.toArray } (.lst (ns.map V.int))) else none : Hp) b = some (.frz { cls := .type "list", data := .seq vs.toArray } (.lst (ns.map V.int))) := fun b e => if_pos e
    have at2 : ∀ b, b ≠ a → (fun b => if b = a then some (HO.frz { cls := .type "list", data := .seq vs.toArray } (.lst (ns.map V.int))) else none : Hp) b = none := fun b e => if_neg e
    have hO : Only (fun b => if b = a then some (HO.frz { cls := .type "list", data := .seq vs.toArray } (.lst (ns.map V.int))) else none : Hp) := fun b =>
      if h : b = a then .inr ⟨_, _, at1 b h⟩ else .inl (at2 b h)
    refine lawG_at KX hns hb hbb hlim hg ha hr F hbind (hsp _ hO (.inl (.inr ⟨_, at1 a rfl⟩))) hO (fun b u z => ?_) (fun b z => Classical.byContradiction fun h => z (at2 b h)) fun _ => hk
    by_cases h : b = a
    · subst h
      have z' := (at1 b rfl).symm.trans z
      cases z'
      exact ⟨ha, lm, vs, _, rv, ha⟩
    · have z' := (at2 b h).symm.trans z
      cases z'
end
theorem walk_G {l : PySem.W.OpenLaw} {n k : Nat} {q : Program} {loose : List Str} {XP : (Str → Option Value) → Heap → Prop} {YP : World → Heap → Prop} {d : DefRec} {x : Str}
    (hn : l.most = some n) (hn2 : n ≤ sizeLine) (hdf : d.params.defaults = []) (hr : Room k callerA)
    (F : ∀ (w : World) (mg : Str → Option Value) (fa : Addr) (h : Heap), YP w h → h.Ns mainGlobals mg → mg d.name = some (.ref fa) →
      ∃ (K : PySem.W.Frag) (fd : FuncData) (sp : Sp), K.In h ∧ (∀ (s : Shared) (u : Value), BindsTo s fd ⟨[u], []⟩ [(x, u)]) ∧
        (∀ (H : Hp) (a : Addr) (ns : List Int), ns.length ≤ n → Only H → SqL K H a (ns.map V.int) → sp [.ref a] H (fun v _ => v = .bl true) fun _ _ _ => False) ∧
        ∀ base : Heap, K.In base → base.Ns mainGlobals mg → FnG l.prog w K mg base k fa fd [x] sp) :
    PySem.W.WalkO q loose XP YP l.row.toRowW d [] (fun f vs => PySem.call f vs) :=
  Att.attach_call hn hdf fun w _ _ mg _ fa _ _ _ _ a _ ns G Y _ _ _ hmg hobj hints hlen hg =>
    let ⟨_, _, _, KX, hb, hsp, hF⟩ := F w mg fa _ Y G.T.g hmg
    law_callG KX G.T.g G.T.b G.T.builtins G.T.nolimit hg hobj hints (Nat.le_trans hlen hn2) hr hF hb fun H hO hS => hsp H a ns hlen hO hS
end Ct

set_option Elab.async false
set_option linter.all false
set_option maxRecDepth 100000
set_option maxHeartbeats 4000000
namespace Ct
open PySem PySem.Spec PyProof.Rows L2

/-! ### a def with its binding, by where it stands -/
def Ok (P : Program) (w : World) (K : PySem.W.Frag) (mg : Str → Option Value) (base : Heap) (k : Nat) (f : Addr) (ps : List Str) (sp : Sp) : Prop :=
  ∃ fd, FnOk P w K mg base CX0 k f fd ps sp ∧ Binds K fd ps [] ∧ PySem.W.keepIn K (.ref f) = true ∧ ∃ oc od osl, K.lookup f = some ⟨oc, od, .func fd, osl⟩
def OkG (P : Program) (w : World) (K : PySem.W.Frag) (mg : Str → Option Value) (base : Heap) (k : Nat) (f : Addr) (ps : List Str) (sp : Sp) : Prop :=
  ∃ fd, FnG P w K mg base k f fd ps sp ∧ Binds K fd ps [] ∧ PySem.W.keepIn K (.ref f) = true ∧ ∃ oc od osl, K.lookup f = some ⟨oc, od, .func fd, osl⟩
section
variable {P : Program} {w : World} {K : PySem.W.Frag} {mg : Str → Option Value} {base : Heap} {k : Nat} {f : Addr} {x qual : Str} {params : Arguments} {body : List Stmt} {scope : Scope} {N ps : List Str} {sp : Sp}
theorem Ok.mono {j : Nat} (h : Ok P w K mg base j f ps sp) (hk : j ≤ k) : Ok P w K mg base k f ps sp := let ⟨fd, F, r⟩ := h; ⟨fd, F.mono hk, r⟩
theorem Ok.g (h : Ok P w K mg base k f ps sp) : OkG P w K mg base k f ps sp := let ⟨fd, F, r⟩ := h; ⟨fd, FnOk.g F, r⟩
theorem ok_by (F : ∃ fd, FunD K x qual params body scope [] [] f fd) (S : FnScope N ps scope) (bi : ∀ {fd : FuncData}, FunD K x qual params body scope [] [] f fd → Binds K fd ps [])
    (len : ∀ vs H Q E, sp vs H Q E → vs.length = ps.length)
    (hbody : ∀ (cdv : Value) (A : Around) (outer : List Env) (s : Shared) (H : Hp) (vs : List V) (Q : VK) (E : XK), Room k (A.deeper (envOfC qual scope s.heap.objs.size f cdv)) → sp vs H Q E →
      ∃ t, PSs (cxOf CX0 P w K mg base N qual scope f cdv A outer s H E).nox body t ∧ t { nx := fun _ H' => Q .non H', rt := Q } (start N vs) H) : Ok P w K mg base (k + 1) f ps sp := by
  obtain ⟨fd, F⟩ := F
  obtain ⟨oc, od, dV, kV, doc, pm, an, cv, ct, osl, -, lk, -⟩ := id F.ex
  refine ⟨fd, F.ok S len fun cdv A outer s H vs Q E hr h => ?_, bi F, F.kp, oc, od, osl, lk⟩
  obtain ⟨t, h1, h2⟩ := hbody cdv A outer s H vs Q E hr h
  exact ⟨t, h1.nox, h2⟩
theorem okG_by (F : ∃ fd, FunD K x qual params body scope [] [] f fd) (S : FnScope N ps scope) (bi : ∀ {fd : FuncData}, FunD K x qual params body scope [] [] f fd → Binds K fd ps [])
    (len : ∀ vs H Q E, sp vs H Q E → vs.length = ps.length)
    (hbody : ∀ (cdv : Value) (A : Around) (outer : List Env) (s : Shared) (H : Hp) (vs : List V) (Q : VK) (E : XK), A.guards = some [] → Room k (A.deeper (envOfC qual scope s.heap.objs.size f cdv)) → sp vs H Q E →
      ∃ t, PSs (cxOf CX0 P w K mg base N qual scope f cdv A outer s H E).nox body t ∧ t { nx := fun _ H' => Q .non H', rt := Q } (start N vs) H) : OkG P w K mg base (k + 1) f ps sp := by
  obtain ⟨fd, F⟩ := F
  obtain ⟨oc, od, dV, kV, doc, pm, an, cv, ct, osl, -, lk, -⟩ := id F.ex
  exact ⟨fd, gn_of F S len hbody, bi F, F.kp, oc, od, osl, lk⟩
end
section
variable {X : Cx} {k j : Nat} {f C : Addr} {ps : List Str} {sp : Sp} {x m : Str} {p pos apos : Pos} {e o : Expr} {es : List Expr} {t : TA} {ta : TE}
theorem pc_call (G : Ok X.prog X.w X.K X.mg X.base k f ps sp) (hr : Room j X.A) (hg : Gl X x) (hm : X.mg x = some (.ref f)) (ha : PA X (e :: es) t) (hj : k ≤ j := by decide)
    (hdb : (x == ("__debug__" : Str)) = false := by decide) (he : starEach (e :: es) X.env = (false, eval e X.env) :: starEach es X.env := by rfl) (hpl : (backTo pos (starEach es X.env)).any (·.1) = false := by rfl) :
    PE X (.Call (.Name x p) (e :: es) [] pos) (tCall sp [] E0 t) := by
  obtain ⟨fd, F, b, kp, _⟩ := G
  exact pe_call F (hr.mono hj) hg hm kp b .nil pass0 ha hdb he hpl
theorem pc_call0 (G : Ok X.prog X.w X.K X.mg X.base k f ps sp) (hr : Room j X.A) (hg : Gl X x) (hm : X.mg x = some (.ref f)) (hj : k ≤ j := by decide)
    (hdb : (x == ("__debug__" : Str)) = false := by decide) : PE X (.Call (.Name x p) [] [] pos) (tCall sp [] E0 tNil) := by
  obtain ⟨fd, F, b, kp, _⟩ := G
  exact pe_call0 F (hr.mono hj) hg hm kp b .nil pass0 hdb
theorem pc_callG (G : OkG X.prog X.w X.K X.mg X.base k f ps sp) (hG : X.A.guards = some []) (hr : Room j X.A) (hg : Gl X x) (hm : X.mg x = some (.ref f)) (ha : PA X (e :: es) t) (hj : k ≤ j := by decide)
    (hdb : (x == ("__debug__" : Str)) = false := by decide) (he : starEach (e :: es) X.env = (false, eval e X.env) :: starEach es X.env := by rfl) (hpl : (backTo pos (starEach es X.env)).any (·.1) = false := by rfl) :
    PE X (.Call (.Name x p) (e :: es) [] pos) (tCall sp [] E0 t) := by
  obtain ⟨fd, F, b, kp, _⟩ := G
  exact pe_callG F hG (hr.mono hj) hg hm kp b ha hdb he hpl
theorem pc_make (G : Ok X.prog X.w X.K X.mg X.base k f ps sp) (M : Mk X.K C f) (hr : Room j X.A) (hg : Gl X x) (hm : X.mg x = some (.ref C)) (ha : PA X (e :: es) t) (hj : k + 1 ≤ j := by decide)
    (hdb : (x == ("__debug__" : Str)) = false := by decide) (he : starEach (e :: es) X.env = (false, eval e X.env) :: starEach es X.env := by rfl) (hpl : (backTo pos (starEach es X.env)).any (·.1) = false := by rfl) :
    PE X (.Call (.Name x p) (e :: es) [] pos) (tMake C sp [] E0 t) := by
  obtain ⟨fd, F, b, kp, _⟩ := G
  exact pe_make M F (hr.mono hj) hg hm b .nil pass0 ha hdb he hpl
theorem pc_make0 (G : Ok X.prog X.w X.K X.mg X.base k f ps sp) (M : Mk X.K C f) (hr : Room j X.A) (hg : Gl X x) (hm : X.mg x = some (.ref C)) (hj : k + 1 ≤ j := by decide)
    (hdb : (x == ("__debug__" : Str)) = false := by decide) : PE X (.Call (.Name x p) [] [] pos) (tMake C sp [] E0 tNil) := by
  obtain ⟨fd, F, b, kp, _⟩ := G
  exact pe_make0 M F (hr.mono hj) hg hm b .nil pass0 hdb
theorem pc_meth {pl : Sem Bool} (G : Ok X.prog X.w X.K X.mg X.base k f ps sp) (c : Cls X.K C) (hm : Meth X.K C m f) (hr : Room j X.A) (ho : PE X o ta) (ha : PA X (e :: es) t) (hj : k ≤ j := by decide)
    (hst : starEach (e :: es) X.env = (false, eval e X.env) :: starEach es X.env := by rfl) (hpl : (backTo pos (starEach es X.env)).any (·.1) = false := by rfl)
    (ht : eval (.Call (.Attribute o m apos) (e :: es) [] pos) X.env = (do let ov ← eval o X.env; standAt apos.atName; let (f, first) ← holding [ov] (getMethod ov m pl); callWith pos f first (backTo pos (starEach (e :: es) X.env)) (backToKw pos (keywordEach [] X.env))) := by rfl) :
    PE X (.Call (.Attribute o m apos) (e :: es) [] pos) (tMeth C m sp [] E0 ta t) := by
  obtain ⟨fd, F, b, kp, _⟩ := G
  exact pe_meth ho c hm F (hr.mono hj) b .nil pass0 ha hst hpl ht
theorem pc_meth0 {pl : Sem Bool} (G : Ok X.prog X.w X.K X.mg X.base k f ps sp) (c : Cls X.K C) (hm : Meth X.K C m f) (hr : Room j X.A) (ho : PE X o ta) (hj : k ≤ j := by decide)
    (ht : eval (.Call (.Attribute o m apos) [] [] pos) X.env = (do let ov ← eval o X.env; standAt apos.atName; let (f, first) ← holding [ov] (getMethod ov m pl); callWith pos f first (backTo pos (starEach [] X.env)) (backToKw pos (keywordEach [] X.env))) := by rfl) :
    PE X (.Call (.Attribute o m apos) [] [] pos) (tMeth C m sp [] E0 ta tNil) := by
  obtain ⟨fd, F, b, kp, _⟩ := G
  exact pe_meth0 ho c hm F (hr.mono hj) b .nil pass0 ht
theorem m1_get {m : Str} {apos cpos : Pos} (hb : attributeBase o m X.env (eval o X.env) = eval o X.env) (hl : (apos.endLine == cpos.line) = true)
    (hs : backTo cpos (starEach [e] X.env) = [(false, eval e X.env)] := by rfl)
    (hf : ((backTo cpos (starEach [e] X.env)).all (fun x => !x.1) && (backToKw cpos (keywordEach [] X.env)).all (fun x => x.1.isSome) && decide (([e] : List Expr).length + ([] : List Keyword).length + (if ([] : List Keyword).isEmpty then 0 else 1) < 30)) = true := by rfl) :
    M1 X o m apos e cpos := ⟨hb, hf, hl, hs⟩
theorem m2_get {m : Str} {apos cpos : Pos} {d : Expr} (hb : attributeBase o m X.env (eval o X.env) = eval o X.env) (hl : (apos.endLine == cpos.line) = true)
    (hs : backTo cpos (starEach [e, d] X.env) = [(false, eval e X.env), (false, eval d X.env)] := by rfl)
    (hf : ((backTo cpos (starEach [e, d] X.env)).all (fun x => !x.1) && (backToKw cpos (keywordEach [] X.env)).all (fun x => x.1.isSome) && decide (([e, d] : List Expr).length + ([] : List Keyword).length + (if ([] : List Keyword).isEmpty then 0 else 1) < 30)) = true := by rfl) :
    M2 X o m apos e d cpos := ⟨hb, hf, hl, hs⟩
end

/-! ### rules whose reading names the written part by K (within a comprehension the context is another term) -/
theorem hu65 {k : Nat} {A : Around} (r : Room k A) : A.units + 65 < cLine := by have := r.un; omega
section
variable {X : Cx} {K : PySem.W.Frag}
def rLenQ (K : PySem.W.Frag) : List V → Hp → VK → Prop := fun xs H Q => ∃ p ys, xs = [.ref p] ∧ (SqL K H p ys ∨ SqT K H p ys) ∧ Q (.int ys.length) H
def rListQ (K : PySem.W.Frag) : List V → Hp → VK → Prop := fun xs H Q => ∃ p ys, xs = [.ref p] ∧ (SqL K H p ys ∨ SqT K H p ys) ∧ ∀ l, H l = none → Q (.ref l) (upd H l (.lst ys))
def rTupQ (K : PySem.W.Frag) : List V → Hp → VK → Prop := fun xs H Q => ∃ p ys, xs = [.ref p] ∧ ((SqL K H p ys ∧ ∀ l, H l = none → Q (.ref l) (upd H l (.tup ys))) ∨ (SqT K H p ys ∧ Q (.ref p) H))
theorem kix_list (h : X.K = K := by rfl) : IxR X (rIxL K) := by subst h; exact ix_list
theorem kix_tup (h : X.K = K := by rfl) : IxR X (rIxT K) := by subst h; exact ix_tup
theorem kcall_len (h : X.K = K := by rfl) : CallR X (.builtin "len") (rLenQ K) := by subst h; exact call_len_seq
theorem kcall_list (h : X.K = K := by rfl) : CallR X (.type "list") (rListQ K) := by subst h; exact call_list_of
theorem kcall_tuple (h : X.K = K := by rfl) : CallR X (.type "tuple") (rTupQ K) := by subst h; exact call_tuple_of
theorem kop_eqD (hu : X.A.units + 64 < cLine) (h : X.K = K := by rfl) : OpR X (compareOp .Eq) (rEqD K) := by subst h; exact op_eqD hu
theorem kop_neD (hu : X.A.units + 64 < cLine) (h : X.K = K := by rfl) : OpR X (compareOp .NotEq) (rNeD K) := by subst h; exact op_neD hu
theorem kop_inD (hu : X.A.units + 65 < cLine) (h : X.K = K := by rfl) : OpR X (compareOp .In) (rInD K) := by subst h; exact op_inD hu
theorem kop_notInD (hu : X.A.units + 65 < cLine) (h : X.K = K := by rfl) : OpR X (compareOp .NotIn) (rNotInD K) := by subst h; exact op_notInD hu
theorem kop_in (h : X.K = K := by rfl) : OpR X (compareOp .In) (rIn K false) := by subst h; exact op_in_seq
theorem kop_notIn (h : X.K = K := by rfl) : OpR X (compareOp .NotIn) (rIn K true) := by subst h; exact op_notIn_seq
theorem kcall_isi (h : X.K = K := by rfl) : CallR X (.builtin "isinstance") (rIsi K) := by subst h; exact call_isi
theorem kcall_max (hc : X.calm = true) (h : X.K = K := by rfl) : CallR X (.builtin "max") (rMax K) := by subst h; exact cr_max hc
theorem kcall_min (hc : X.calm = true) (h : X.K = K := by rfl) : CallR X (.builtin "min") (rMin K) := by subst h; exact cr_min hc
theorem kcall_sum (hc : X.calm = true) (h : X.K = K := by rfl) : CallR X (.builtin "sum") (rSum K) := by subst h; exact cr_sum hc
theorem kcall_sorted (h : X.K = K := by rfl) : CallR X (.builtin "sorted") (rSorted K) := by subst h; exact cr_sorted
theorem ksl_list (h : X.K = K := by rfl) : SlR X (rSlL K) := by subst h; exact sl_list
theorem ksl_tup (h : X.K = K := by rfl) : SlR X (rSlT K) := by subst h; exact sl_tup
theorem kop_catA (h : X.K = K := by rfl) : OpR X (binaryOp .Add) (rCatA K) := by subst h; exact op_catA
theorem kop_repT (h : X.K = K := by rfl) : OpR X (binaryOp .Mult) (rRepT K) := by subst h; exact op_repT
theorem kpi_list {tg l : Expr} {tl : TE} (hl : PE X l tl) (h : X.K = K := by rfl) : PI X tg l (iList K tl) := by subst h; exact pi_list hl
theorem kpi_tup {tg l : Expr} {tl : TE} (hl : PE X l tl) (h : X.K = K := by rfl) : PI X tg l (iTup K tl) := by subst h; exact pi_tup hl
theorem kpe_fld {e : Expr} {f : Str} {pos : Pos} {ta : TE} (ha : PE X e ta) (hb : attributeBase e f X.env (eval e X.env) = eval e X.env) (h : X.K = K := by rfl) : PE X (.Attribute e f pos) (tFld K ta f) := by subst h; exact pe_fld ha hb
theorem kps_fld {o value : Expr} {f : Str} {pos pos' : Pos} {ta tv : TE} (ha : PE X o ta) (hv : PE X value tv) (hs : swapsWith value (some (.Attribute o f pos')) pos.line X.env = pure false) (h : X.K = K := by rfl) :
    PS X (.Assign [.Attribute o f pos'] value pos) (sFld K ta tv f) := by subst h; exact ps_fld ha hv hs
theorem kpe_bm {T : String} {o e : Expr} {es : List Expr} {nm : Str} {apos cpos : Pos} {to : TE} {t : TA} {r : V → List V → Hp → VK → Prop} (h : X.K = K := by rfl) (hp : PE X (.Call (.Attribute o nm apos) (e :: es) [] cpos) (tBM X.K T r to t)) :
    PE X (.Call (.Attribute o nm apos) (e :: es) [] cpos) (tBM K T r to t) := by subst h; exact hp
end
end Ct

set_option Elab.async false
set_option linter.all false
set_option maxRecDepth 100000
set_option maxHeartbeats 4000000
namespace Ct
open PySem PySem.Spec PyProof.Rows L2 RT

/-! ### list(reversed(a list)) -/
section
variable {prog : Program} {w : World} {A : Around} {E : Value → Shared → Prop} {s : Shared} {R : Result → Shared → Prop}
theorem init_rev {it l S : Addr} {items : Array Value} (hh : A.in1.handled = none) (hit : s.heap.IsRevIter it l ((items.size : Int) - 1)) (hl : s.heap.IsList l items) (hne : l ≠ it) (hSi : S ≠ it) (hSl : S ≠ l) (hn : items.size ≤ sizeLine)
    (hS : s.heap.get? S = some { cls := .type "list", data := .seq #[] })
    (hR : ∀ (s' : Shared) (acc : Array Value) (c : Nat), (∀ b o, b ≠ it → b ≠ S → s.heap.get? b = some o → s'.heap.get? b = some o) → s' = { s with heap := s'.heap, toks := s'.toks } → s'.heap.get? S = some { cls := .type "list", dict := none, data := .seq acc c, slots := #[] } →
      ItemsOf (fun i v => items[items.size - 1 - i]? = some v) acc items.size → R (.ok (.ret .none)) s') :
    wpAny (model prog w) A.in1 (Builtin.«list.__init__» ⟨[.ref S, .ref it], []⟩)
      (fun fin s' => match fin with | .done f => R (.ok f) s' | .again c' => c'.quiet = true ∧ codeAny (model prog w) A c' R s') (fun e s' => R (.error e) s') s := by
  have W := (Walks.listRev (prog := prog) (w := w) (A := A.in1) hh it l hne items).toS
  have out : S ∉ [it, l] := by simp [hSi, hSl]
  show wpAny _ A.in1 (do let old ← Builtin.List.listItems (.ref S); Builtin.List.listUpdate (.ref S) (fun _ => #[]); letGo old.toList.reverse; Builtin.List.listExtendWith (.ref S) (.ref it) .none) _ _ s
  refine wpAny_bind ?_
  unfold Builtin.List.listItems
  refine wpAny_bind (wpAny_seqItems hS rfl (wpAny_pure ?_))
  show wpAny _ A.in1 (updateSeq S (fun _ => #[]) >>= fun _ => letGo (#[] : Array Value).toList.reverse >>= fun _ => Builtin.List.listExtendWith (.ref S) (.ref it) .none) _ _ s
  refine wpAny_bind (wpAny_updateSeq hS rfl ?_)
  have hS2 := Heap.get?_update_self (Obj.mapSeq (fun _ => (#[] : Array Value))) hS rfl
  have oth : ∀ b o, b ≠ S → s.heap.get? b = some o → (s.heap.update S (Obj.mapSeq (fun _ => (#[] : Array Value)))).get? b = some o := fun b o hb e =>
    (Heap.get?_update_other _ _ (Ne.symm hb)).trans e
  refine wpAny_bind (wpAny_letGo ?_)
  have hit2 : (s.heap.update S (Obj.mapSeq (fun _ => (#[] : Array Value)))).IsRevIter it l ((items.size : Int) - 1) := hit.at fun o e => oth it o (Ne.symm hSi) e
  have hl2 : (s.heap.update S (Obj.mapSeq (fun _ => (#[] : Array Value)))).IsList l items := by
    obtain ⟨o, h1, h2⟩ := hl
    exact ⟨o, oth l o (Ne.symm hSl) h1, h2⟩
  generalize hg : s.heap.update S (Obj.mapSeq (fun _ => (#[] : Array Value))) = g at hS2 oth hit2 hl2 ⊢
  have hT : ({ s with heap := g } : Shared).TypeIs (.ref it) "list_reverseiterator" := Heap.IsRevIter.typeIs (s := { s with heap := g }) hit2
  have same : Builtin.List.listSameRef (.ref S) (.ref it) = false := by simp [Builtin.List.listSameRef, hSi]
  unfold Builtin.List.listExtendWith
  refine wpAny_bind (wpAny_typeOf hT ?_)
  rw [if_neg (by rw [same]; decide)]
  refine wpAny_bind (wpAny_pyIter_revIter (s := { s with heap := g }) hit2 ?_)
  refine wpAny_bind (wpAny_holding ?_)
  unfold Builtin.List.listLengthHint
  refine wpAny_bind (wpAny_specialOf hT nolen_lri ?_)
  show wpAny _ A.in1 (specialOf (Value.ref it) (Str.ofString "__length_hint__") >>= _) _ _ _
  refine wpAny_bind (wpAny_specialOf hT hint_lri ?_)
  generalize hid : ("list_reverseiterator.__length_hint__" : String) = id0
  wp_delta
  rw [show splitId id0 = some ("list_reverseiterator", "__length_hint__") from by subst hid; decide +kernel]
  subst hid
  refine wpAny_bind (wpAny_isInstance (b := true) hT (by rw [isSubtype_type]; kernel_rfl) ?_)
  refine wpAny_pure ?_
  rw [if_neg (by decide)]
  have e0 : ((items.size : Nat) : Int) - 1 - ((0 : Nat) : Int) = (items.size : Int) - 1 := by omega
  refine wpAny_pure ⟨plainId_quiet F.plain_extend_loop _, codeAny_extend_loopS W hn _ out _ items.size 0 _ _ _ rfl (Nat.zero_le _) ⟨Nat.zero_le _, by rw [e0]; exact hit2, hl2⟩ hS2 (ItemsOf.nil _) fun s' acc' c' hm hS' hacc => ?_⟩
  refine hR s' acc' c' (fun b o h1 h2 e => hm.heap b o (fun z => ?_) (oth b o h2 e)) (by have q := Moved.eq_with hm; exact q) hS' hacc
  rcases List.mem_cons.mp z with z | z
  · exact h2 z
  · exact h1 (List.mem_singleton.mp z)
theorem call_list_rev {it l : Addr} {items : Array Value} {Q : Value → Shared → Prop} (hh : A.handled = none) (hit : s.heap.IsRevIter it l ((items.size : Int) - 1)) (hl : s.heap.IsList l items) (hne : l ≠ it) (hn : items.size ≤ sizeLine)
    (hQ : ∀ (s' : Shared) (acc : Array Value) (c : Nat), (∀ b o, b ≠ it → s.heap.get? b = some o → s'.heap.get? b = some o) → s' = { s with heap := s'.heap, toks := s'.toks } → s'.heap.get? s.heap.objs.size = some { cls := .type "list", dict := none, data := .seq acc c, slots := #[] } →
      ItemsOf (fun i v => items[items.size - 1 - i]? = some v) acc items.size → Q (.ref s.heap.objs.size) s') : wpAny (model prog w) A (call (.type "list") [.ref it]) Q E s := by
  obtain ⟨oi, hoi, ri⟩ := id hit
  obtain ⟨ol, hol, rl⟩ := id hl
  have lti := Heap.lt_size hoi
  have ltl := Heap.lt_size hol
  refine callType_codes (Q₁ := fun obj s₁ => obj = .ref s.heap.objs.size ∧ s₁ = { s with heap := s.heap.push { cls := .type "list", data := .seq #[] } }) F.called_list (F.typeCall_list_1 _) F.entry_list_init (code_list_new _ ⟨rfl, rfl⟩) fun obj s₁ h₁ => ?_
  obtain ⟨rfl, rfl⟩ := h₁
  have hS : (s.heap.push { cls := .type "list", data := .seq #[] }).get? s.heap.objs.size = some { cls := .type "list", data := .seq #[] } := Heap.get?_push_size _ rfl
  refine ⟨⟨_, hS, rfl⟩, F.args_list_init_2 _ _, init_rev (A := A.in1) hh ⟨oi, Heap.get?_push_of_some _ hoi, ri⟩ ⟨ol, Heap.get?_push_of_some _ hol, rl⟩ hne (Nat.ne_of_gt lti) (Nat.ne_of_gt ltl) hn hS fun s' acc c hk he hS' hi => ?_⟩
  exact ⟨rfl, hQ s' acc c (fun b o hb e => hk b o hb (Nat.ne_of_lt (Heap.lt_size e)) (Heap.get?_push_of_some _ e)) he hS' hi⟩
end
def tLstRev (K : PySem.W.Frag) (te : TE) : TE := fun σ H Q => te σ H fun v H1 => ∃ (a : Addr) (xs : List V), v = .ref a ∧ SqL K H1 a xs ∧ ∀ q, H1 q = none → Q (.ref q) (upd H1 q (.lst xs.reverse))
section
variable {X : Cx} {K : PySem.W.Frag}
/-- a record of ours has turned, and a new object was laid -/
theorem _root_.L2.Inv.turnedLaid {pins : List (Addr × Obj)} {σ : L2.St} {H : Hp} {s : Shared} {h' : Heap} {it L : Addr} {o : HO} {t' : Nat} (I : L2.Inv X pins σ H s) (k : ∀ b u, b ≠ it → s.heap.get? b = some u → h'.get? b = some u) (hn : H it = none) (hL : it ≠ X.env.locals)
    (h1 : it ∈ X.ex ∨ X.s_0.heap.objs.size ≤ it) (h2 : ∀ x c, X.env.cells.lookup x = some c → c ≠ it) (h3 : ∀ p ∈ X.pn ++ pins, p.1 ≠ it) (hp : s.heap.objs.size ≤ L) (new : ObjOk X.prog X.w (upd H L o) h' L o) :
    L2.Inv X pins σ (upd H L o) { s with heap := h', toks := t' } := by
  have nL := I.hok.fresh hp
  have old : ∀ b u, s.heap.get? b = some u → b ≠ L := fun b u e => Nat.ne_of_lt (Nat.lt_of_lt_of_le (Heap.lt_size e) hp)
  have nit : ∀ b u, H b = some u → b ≠ it := fun b u e z => by rw [z, hn] at e; cases e
  refine I.step (g' := s.gens) (d' := s.drawn) (ch := [it]) (fun b hb => ?_) (fun b u _ _ hc e _ => k b u (fun z => hc (by simp [z])) e) (fun b u _ _ hc e _ => ⟨u.slots, k b u (fun z => hc (by simp [z])) e⟩)
    (fun b u _ e n => by rw [upd_ne (old b u e)]; exact n) (fun b u hc e => ⟨u, k b u (fun z => hc (by simp [z])) e⟩) (fun b xs e => by rw [upd_ne (ne_of_none e nL)]; exact e) (fun b u xs e => by rw [upd_ne (ne_of_none e nL)]; exact e)
    (fun b ps e => ⟨#[], by rw [upd_ne (ne_of_none e nL), e]; simp⟩) (fun m hm => ?_) (fun b u e => ?_) I.bare
  · have e : b = it := by simpa using hb
    subst e
    exact ⟨h1, hL, h2, h3⟩
  · obtain ⟨u, es, ep, ho, r⟩ := hm
    exact ⟨u, es, ep, k _ u (Ne.symm hL) ho, r⟩
  · by_cases hb : b = L
    · subst hb; rw [upd_same] at e; cases e; exact new
    · rw [upd_ne hb] at e
      refine (I.hok b u e).stay (fun c v hc q => k c v ?_ q) (fun c q => by rw [upd_ne (ne_of_none q nL)]; exact q) fun c xs q => by rw [upd_ne (ne_of_none q nL)]; exact q
      rcases hc with z | z
      · rw [z]; exact nit b u e
      · exact nit c _ z
theorem pe_lstRev {e : Expr} {te : TE} {p p2 pos pos2 : Pos} (hc : X.calm = true) (hg : Gl X "list") (hm : X.mg "list" = none) (hg2 : Gl X "reversed") (hm2 : X.mg "reversed" = none) (he : PE X e te) (hk : X.K = K := by rfl)
    (hs : starEach [e] X.env = (false, eval e X.env) :: starEach [] X.env := by rfl)
    (hs2 : starEach [.Call (.Name "reversed" p2) [e] [] pos2] X.env = (false, eval (.Call (.Name "reversed" p2) [e] [] pos2) X.env) :: starEach [] X.env := by rfl) :
    PE X (.Call (.Name "list" p) [.Call (.Name "reversed" p2) [e] [] pos2] [] pos) (tLstRev K te) := by
  subst hk
  refine ⟨fun pins s σ H Q I h => ?_⟩
  refine Call_ (ld_blt I hg hm boot_list (PyProof.Rows.callWith_type1 (args_cons (Call_ (ld_blt I hg2 hm2 PyProof.Rows.boot_reversed (PyProof.Rows.callWith_type1 (args_cons (thn (he.run pins s σ H _ I h) fun u s1 ⟨v, H1, I1, r1, q1⟩ => args_nil ?_) hs) hs rfl))) hs2) hs2 rfl))
  obtain ⟨a, xs, ev, hq, q⟩ := q1
  subst ev
  have eu : u = Value.ref a := r1
  subst eu
  obtain ⟨its, rv, p', hz⟩ := I1.list hq
  refine call_reversed_list p'.isList (args_nil ?_)
  have k0 : ∀ b o, s1.heap.get? b = some o → (s1.heap.push (revObj a ((its.toArray.size : Int) - 1))).get? b = some o := fun b o z => Heap.get?_push_of_some _ z
  have I2 : L2.Inv X pins σ H1 { s1 with heap := s1.heap.push (revObj a ((its.toArray.size : Int) - 1)) } := I1.kept (t' := s1.toks) k0
  obtain ⟨f0, f1, f2, f3, f4, f5⟩ := I1.fpOk (H' := H1) (b := s1.heap.objs.size) (Nat.le_refl _) (I1.hok.fresh (Nat.le_refl _))
  have hl := p'.isList
  obtain ⟨ol, hol, _⟩ := id hl
  have hne : a ≠ s1.heap.objs.size := Nat.ne_of_lt (Heap.lt_size hol)
  have hn : its.toArray.size ≤ sizeLine := by rw [List.size_toArray, ← rv.length]; exact hz
  refine call_list_rev (s := { s1 with heap := s1.heap.push (revObj a ((its.toArray.size : Int) - 1)) }) (I1.ok.hd hc) ⟨_, Heap.get?_push_size _ rfl, rfl, rfl⟩ (hl.push _) hne hn fun s' acc c hk hs' hS hi => ?_
  have sz : s1.heap.objs.size + 1 ≤ (s1.heap.push (revObj a ((its.toArray.size : Int) - 1))).objs.size := by rw [Heap.size_push]; exact Nat.le_refl _
  have I3 := I2.turnedLaid (o := .lst xs.reverse) (L := (s1.heap.push (revObj a ((its.toArray.size : Int) - 1))).objs.size) (t' := s'.toks) (fun b o hb e => hk b o hb e) f0 f1 f3 f4 f5 (Nat.le_refl _)
    (show ObjOk X.prog X.w _ _ _ (.lst xs.reverse) from ⟨by rw [List.length_reverse]; exact hz, acc.toList, c, vals_rev rv hi, by rw [Array.toArray_toList]; exact hS⟩)
  rw [← hs'] at I3
  exact ⟨.ref _, _, I3, rfl, q _ (I2.hok.fresh (Nat.le_refl _))⟩
end
end Ct

set_option Elab.async false
set_option linter.all false
set_option maxRecDepth 100000
set_option maxHeartbeats 4000000
namespace Ct
open PySem PySem.Spec PyProof.Rows L2 RT

/-! ### an object's fields: names and values -/
theorem zip_lookup : ∀ {ns : List Str} {vs : List V} {i : Nat} {f : Str} {v : V}, ns.Nodup → ns[i]? = some f → vs[i]? = some v → (ns.zip vs).lookup f = some v
  | [], _, _, _, _, _, h, _ => by simp at h
  | _ :: _, [], _, _, _, _, _, h => by simp at h
  | n :: ns, u :: vs, 0, f, v, _, h1, h2 => by
    simp only [List.getElem?_cons_zero, Option.some.injEq] at h1 h2
    subst h1; subst h2
    simp [List.zip_cons_cons, List.lookup]
  | n :: ns, u :: vs, i + 1, f, v, nd, h1, h2 => by
    obtain ⟨n1, n2⟩ := List.nodup_cons.mp nd
    have h1' : ns[i]? = some f := by simpa using h1
    have hne : (f == n) = false := by
      refine beq_eq_false_iff_ne.mpr fun e => n1 ?_
      rw [← e]; exact List.mem_of_getElem? h1'
    rw [List.zip_cons_cons]
    simp only [List.lookup, hne]
    exact zip_lookup n2 h1' (by simpa using h2)
theorem zip_none : ∀ {ns : List Str} {vs : List V} {f : Str}, f ∉ ns → (ns.zip vs).lookup f = none
  | [], _, _, _ => rfl
  | _ :: _, [], _, _ => rfl
  | n :: ns, u :: vs, f, h => by
    have hne : (f == n) = false := beq_eq_false_iff_ne.mpr fun e => h (by rw [e]; exact List.mem_cons_self)
    rw [List.zip_cons_cons]
    simp only [List.lookup, hne]
    exact zip_none fun e => h (List.mem_cons_of_mem _ e)
theorem zip_put : ∀ {ns : List Str} {vs : List V} {i : Nat} {f : Str} {v : V}, ns.Nodup → ns[i]? = some f → i < vs.length → putF f v (ns.zip vs) = ns.zip (vs.set i v)
  | [], _, _, _, _, _, h, _ => by simp at h
  | _ :: _, [], _, _, _, _, _, h => by simp at h
  | n :: ns, u :: vs, 0, f, v, _, h1, _ => by
    simp only [List.getElem?_cons_zero, Option.some.injEq] at h1
    subst h1
    show (if n = n then (n, v) :: ns.zip vs else _) = _
    rw [if_pos rfl]; rfl
  | n :: ns, u :: vs, i + 1, f, v, nd, h1, h2 => by
    obtain ⟨n1, n2⟩ := List.nodup_cons.mp nd
    have h1' : ns[i]? = some f := by simpa using h1
    have hne : ¬ n = f := fun e => n1 (by rw [e]; exact List.mem_of_getElem? h1')
    show (if n = f then _ else (n, u) :: putF f v (ns.zip vs)) = _
    rw [if_neg hne, zip_put n2 h1' (by simpa using h2)]; rfl
theorem zip_more : ∀ {ns : List Str} {vs : List V} {f : Str} {v : V}, f ∉ ns → ns.length = vs.length → putF f v (ns.zip vs) = (ns ++ [f]).zip (vs ++ [v])
  | [], [], _, _, _, _ => rfl
  | [], _ :: _, _, _, _, h => by cases h
  | _ :: _, [], _, _, _, h => by cases h
  | n :: ns, u :: vs, f, v, h, hl => by
    have hne : ¬ n = f := fun e => h (by rw [e]; exact List.mem_cons_self)
    show (if n = f then _ else (n, u) :: putF f v (ns.zip vs)) = _
    rw [if_neg hne, zip_more (fun e => h (List.mem_cons_of_mem _ e)) (by simpa using hl)]; rfl
theorem zip_len {ns : List Str} {vs : List V} (h : ns.length < 1000) : (ns.zip vs).length < 1000 := by rw [List.length_zip]; omega

/-! ### the heap behind a step, forgotten as a term -/
theorem new_obj {H : Hp} {p : Addr} {o : HO} {R : Hp → Prop} (hp : H p = none) (k : ∀ H' : Hp, H' p = some o → (∀ b u, H b = some u → H' b = some u) → (∀ b, H' b = none → H b = none) → R H') : R (upd H p o) :=
  k _ upd_same (fun b u e => upd_old hp e) fun b e => by
    by_cases h : b = p
    · subst h; exact hp
    · rw [upd_ne h] at e; exact e
end Ct
namespace Ct
open PySem PySem.Spec PyProof.Rows L2 RT
/-- another form of the value that follows -/
theorem at_v {R : V → Hp → Prop} {v v' : V} {H : Hp} (e : v = v') (h : R v' H) : R v H := e ▸ h
theorem at_i {R : V → Hp → Prop} {i j : Int} {H : Hp} (e : i = j) (h : R (.int j) H) : R (.int i) H := e ▸ h
theorem at_g {i : Nat} {v v' : V} {σ : L2.St} {H : Hp} {k : L2.St → Hp → Prop} (e : v = v') (h : gName i v' σ H k) : gName i v σ H k := e ▸ h
end Ct
namespace Ct
open PySem PySem.Spec PyProof.Rows L2 RT
section
variable {K : PySem.W.Frag} {H : Hp} {Q : VK}
theorem isi_ty {x : V} {t T : String} {b : Bool} (hx : TyX K H x (.type t)) (e : PySem.W.kitOne K (.type t) (.type T) = some b) (q : Q (.bl b) H) : rIsi K [x, .ty T] H Q := ⟨x, .ty T, .type t, .type T, b, rfl, .ty T, hx, e, q⟩
theorem kit_ii : PySem.W.kitOne K (.type "int") (.type "int") = some true := kit_ty (by decide +kernel)
theorem kit_ib : PySem.W.kitOne K (.type "int") (.type "bool") = some false := kit_ty (by decide +kernel)
theorem kit_it : PySem.W.kitOne K (.type "int") (.type "tuple") = some false := kit_ty (by decide +kernel)
theorem kit_tt : PySem.W.kitOne K (.type "tuple") (.type "tuple") = some true := kit_ty (by decide +kernel)
theorem kit_ti : PySem.W.kitOne K (.type "tuple") (.type "int") = some false := kit_ty (by decide +kernel)
theorem kit_ni : PySem.W.kitOne K (.type "NoneType") (.type "int") = some false := kit_ty (by decide +kernel)
theorem kit_nt : PySem.W.kitOne K (.type "NoneType") (.type "tuple") = some false := kit_ty (by decide +kernel)
end
end Ct
namespace Ct
open PySem PySem.Spec PyProof.Rows L2 RT
theorem canLayAll_of : ∀ {ds : List PyData}, (∀ d ∈ ds, d.canLay0 = true) → PyData.canLayAll0 ds = true
  | [], _ => rfl
  | d :: ds, h => by
    simp only [PyData.canLayAll0, h d List.mem_cons_self, canLayAll_of fun e he => h e (List.mem_cons_of_mem _ he), Bool.and_self]
theorem depthAll_of {n : Nat} : ∀ {ds : List PyData}, (∀ d ∈ ds, d.depth ≤ n) → PyData.depthAll ds ≤ n
  | [], _ => Nat.zero_le _
  | d :: ds, h => by
    simp only [PyData.depthAll]
    exact Nat.max_le.mpr ⟨h d List.mem_cons_self, depthAll_of fun e he => h e (List.mem_cons_of_mem _ he)⟩
theorem shaped_list {ds : List PyData} (h : ∀ d ∈ ds, d.canLay0 = true ∧ d.depth ≤ 63) : SeqAt.shaped (.list ds) = true := by
  unfold SeqAt.shaped
  simp only [PyData.canLay0, PyData.depth, Bool.and_eq_true, decide_eq_true_eq]
  exact ⟨canLayAll_of fun d hd => (h d hd).1, decide_eq_true (Nat.succ_le_succ (depthAll_of fun d hd => (h d hd).2))⟩
theorem shaped_tuple {ds : List PyData} (h : ∀ d ∈ ds, d.canLay0 = true ∧ d.depth ≤ 63) : SeqAt.shaped (.tuple ds) = true := by
  unfold SeqAt.shaped
  simp only [PyData.canLay0, PyData.depth, Bool.and_eq_true, decide_eq_true_eq]
  exact ⟨canLayAll_of fun d hd => (h d hd).1, decide_eq_true (Nat.succ_le_succ (depthAll_of fun d hd => (h d hd).2))⟩
/-- a tuple of ints -/
theorem is_ints {H : Hp} {a : Addr} {ns : List Int} (h : H a = some (.tup (ns.map V.int))) : Is H (.ref a) (.tuple (ns.map PyData.int)) :=
  .tup h (by simp) fun i x d h1 h2 => by
    rw [List.getElem?_map] at h1 h2
    cases e : ns[i]? with
    | none => rw [e] at h1; cases h1
    | some n => rw [e] at h1 h2; cases h1; cases h2; exact .int n
theorem dpl {K : PySem.W.Frag} {H : Hp} {a : Addr} {xs : List V} {ds : List PyData} (h : SqL K H a xs) (hl : xs.length = ds.length) (k : ∀ (i : Nat) x d, xs[i]? = some x → ds[i]? = some d → Is H x d) : Dp K H (.ref a) (.list ds) :=
  .lst h (dpAll hl fun i x d h1 h2 => (k i x d h1 h2).dp)
end Ct
namespace Ct
open PySem PySem.Spec PyProof.Rows L2 RT
theorem yesT {σ : L2.St} {H : Hp} {F G : Hp → Prop} (h : F H) : tYes σ H (fun b H3 => if b = true then F H3 else G H3) := by
  show (if true = true then F H else G H)
  rw [if_pos rfl]; exact h
end Ct
namespace Ct
open PySem PySem.Spec PyProof.Rows L2 RT
section
variable {κ : Type} [DecidableEq κ]
theorem valZ : ∀ {ns : List κ} {vs : List V} {i : Nat} {k : κ} {v : V}, ns.Nodup → ns[i]? = some k → vs[i]? = some v → valV (ns.zip vs) k = some v
  | [], _, _, _, _, _, h, _ => by simp at h
  | _ :: _, [], _, _, _, _, _, h => by simp at h
  | n :: ns, u :: vs, 0, k, v, _, h1, h2 => by
    simp only [List.getElem?_cons_zero, Option.some.injEq] at h1 h2
    subst h1; subst h2
    rw [List.zip_cons_cons]
    exact valV_pos rfl
  | n :: ns, u :: vs, i + 1, k, v, nd, h1, h2 => by
    obtain ⟨n1, n2⟩ := List.nodup_cons.mp nd
    have h1' : ns[i]? = some k := by simpa using h1
    rw [List.zip_cons_cons, valV_neg (fun e => n1 (by rw [show n = k from e]; exact List.mem_of_getElem? h1'))]
    exact valZ n2 h1' (by simpa using h2)
theorem putK_pos {p : κ × V} {r : List (κ × V)} {k : κ} {v : V} (h : p.1 = k) (hr : k ∉ r.map (·.1)) : putK (p :: r) k v = (p.1, v) :: r := by
  unfold putK
  rw [if_pos (by simp [h])]
  rw [List.map_cons, if_pos h]
  congr 1
  conv => rhs; rw [← List.map_id r]
  refine List.map_congr_left fun q hq => ?_
  rw [if_neg (fun e => hr (by rw [← e]; exact List.mem_map_of_mem hq))]
  rfl
theorem putK_neg {p : κ × V} {r : List (κ × V)} {k : κ} {v : V} (h : ¬ p.1 = k) : putK (p :: r) k v = p :: putK r k v := by
  unfold putK
  have e : ((p :: r).any fun kv => decide (kv.1 = k)) = r.any fun kv => decide (kv.1 = k) := by rw [List.any_cons, decide_eq_false h, Bool.false_or]
  rw [e]
  split
  · rw [List.map_cons, if_neg h]
  · rfl
theorem putZ : ∀ {ns : List κ} {vs : List V} {i : Nat} {k : κ} {v : V}, ns.Nodup → ns[i]? = some k → i < vs.length → putK (ns.zip vs) k v = ns.zip (vs.set i v)
  | [], _, _, _, _, _, h, _ => by simp at h
  | _ :: _, [], _, _, _, _, _, h => by simp at h
  | n :: ns, u :: vs, 0, k, v, nd, h1, _ => by
    simp only [List.getElem?_cons_zero, Option.some.injEq] at h1
    subst h1
    rw [List.zip_cons_cons, putK_pos rfl ?_]
    · rfl
    · intro h
      obtain ⟨q, hq, e⟩ := List.mem_map.mp h
      exact (List.nodup_cons.mp nd).1 (by rw [← show q.1 = n from e]; exact (List.of_mem_zip hq).1)
  | n :: ns, u :: vs, i + 1, k, v, nd, h1, h2 => by
    obtain ⟨n1, n2⟩ := List.nodup_cons.mp nd
    have h1' : ns[i]? = some k := by simpa using h1
    rw [List.zip_cons_cons, putK_neg (fun e => n1 (by rw [show n = k from e]; exact List.mem_of_getElem? h1')), putZ n2 h1' (by simpa using h2)]
    rfl
end
theorem key_str {H : Hp} {a : Addr} {kvs : List (Key × V)} {x : Str} {v : V} (h : H a = some (.dK kvs)) (e : valV kvs (.inr x) = some v) : DGet H a (.str x) (some v) := by
  have g := DGet.k (k := (Sum.inr x : Key)) h
  rw [e] at g
  exact g
theorem put_str {H : Hp} {a : Addr} {kvs ls : List (Key × V)} {x : Str} {v : V} (h : H a = some (.dK kvs)) (hl : kvs.length < sizeLine) (e : putK kvs (.inr x) v = ls) : DPut H a (.str x) v (upd H a (.dK ls)) := by
  have g := DPut.k (k := (Sum.inr x : Key)) (v := v) h hl
  rw [e] at g
  exact g
end Ct
namespace Ct
open PySem PySem.Spec PyProof.Rows L2 RT
theorem merge_app : ∀ (kvs acc : List (Key × V)), ((acc ++ kvs).map (·.1)).Nodup → mergeK acc kvs = acc ++ kvs
  | [], acc, _ => (List.append_nil acc).symm
  | kv :: kvs, acc, h => by
    show mergeK (putK acc kv.1 kv.2) kvs = _
    have hn : kv.1 ∉ acc.map (·.1) := by
      intro z
      rw [List.map_append, List.nodup_append] at h
      exact h.2.2 _ z kv.1 (by simp) rfl
    have e : putK acc kv.1 kv.2 = acc ++ [kv] := by
      rw [putK_new _ ?_]
      cases q : valV acc kv.1 with
      | none => rfl
      | some v => exact absurd (valV_in q) hn
    rw [e, merge_app kvs (acc ++ [kv]) (by rw [List.append_assoc]; exact h), List.append_assoc]
    rfl
theorem merge_nd {kvs : List (Key × V)} (h : (kvs.map (·.1)).Nodup) : mergeK [] kvs = kvs := merge_app kvs [] h
theorem cut_ints (ns : List Int) (lo hi : Option Int) : ∃ ms : List Int, cutV (ns.map V.int) lo hi = ms.map V.int ∧ ms.length ≤ ns.length ∧ ∀ x ∈ ms, x ∈ ns := by
  unfold cutV
  refine ⟨(ns.drop _).take _, by rw [← List.map_drop, ← List.map_take], ?_, fun x hx => List.mem_of_mem_drop (List.mem_of_mem_take hx)⟩
  rw [List.length_take, List.length_drop]
  omega
end Ct
namespace Ct
open PySem PySem.Spec PyProof.Rows L2 RT
section
variable {X : Cx}
/-- a test, a value, with a word between it and what follows -/
def tTCut (t : TT) : TT := fun σ H Q => ∃ Mid : Bool → Hp → Prop, t σ H Mid ∧ ∀ b H', Mid b H' → Q b H'
theorem pt_cut {e : Expr} {t : TT} (h : PT X e t) : PT X e (tTCut t) :=
  ⟨fun pins s σ H Q I ⟨Mid, h1, h2⟩ => thn (h.run pins s σ H Mid I h1) fun b s' ⟨H', I', q⟩ => ⟨H', I', h2 b H' q⟩⟩
def tECut (t : TE) : TE := fun σ H Q => ∃ Mid : V → Hp → Prop, t σ H Mid ∧ ∀ v H', Mid v H' → Q v H'
theorem pe_cut {e : Expr} {t : TE} (h : PE X e t) : PE X e (tECut t) :=
  ⟨fun pins s σ H Q I ⟨Mid, h1, h2⟩ => thn (h.run pins s σ H Mid I h1) fun u s' ⟨v, H', I', r, q⟩ => ⟨v, H', I', r, h2 v H' q⟩⟩
end
end Ct

set_option Elab.async false
set_option linter.all false
set_option maxRecDepth 100000
set_option maxHeartbeats 4000000
namespace Ct
open PySem PySem.Spec PyProof.Rows L2 RT
def top (i : Nat) : Stmt := PySem.Challenge.pw_stepcourt_k27_numbers_never_given.main.body.getD i (.Pass ⟨0, 0, 0, 0⟩)
abbrev s_way_down : Stmt := top 1
abbrev n_way_down : List Str := ["house", "seal", "depth", "k", "beside", "j", "thing", "side"]
abbrev p_way_down : List Str := ["house", "seal", "depth", "k"]
theorem sc_way_down : FnScope n_way_down p_way_down (defScope s_way_down) := ⟨rfl, rfl, rfl, by decide +kernel, rfl, by decide +kernel, by decide +kernel⟩
abbrev a_way_down : Str × Option Str := ("way_down", none)
abbrev s_word_in : Stmt := top 2
abbrev n_word_in : List Str := ["house", "seal", "depth", "k", "found"]
abbrev p_word_in : List Str := ["house", "seal", "depth", "k"]
theorem sc_word_in : FnScope n_word_in p_word_in (defScope s_word_in) := ⟨rfl, rfl, rfl, by decide +kernel, rfl, by decide +kernel, by decide +kernel⟩
abbrev a_word_in : Str × Option Str := ("word_in", none)
abbrev s_path_in : Stmt := top 3
abbrev n_path_in : List Str := ["house", "seal", "depth", "k", "found"]
abbrev p_path_in : List Str := ["house", "seal", "depth", "k"]
theorem sc_path_in : FnScope n_path_in p_path_in (defScope s_path_in) := ⟨rfl, rfl, rfl, by decide +kernel, rfl, by decide +kernel, by decide +kernel⟩
abbrev a_path_in : Str × Option Str := ("path_in", none)
abbrev s_raised : Stmt := top 4
abbrev n_raised : List Str := ["house", "depth", "k", "word", "siblings", "found", "j"]
abbrev p_raised : List Str := ["house", "depth", "k", "word", "siblings"]
theorem sc_raised : FnScope n_raised p_raised (defScope s_raised) := ⟨rfl, rfl, rfl, by decide +kernel, rfl, by decide +kernel, by decide +kernel⟩
abbrev a_raised : Str × Option Str := ("raised", none)
abbrev s_put_in : Stmt := top 5
abbrev n_put_in : List Str := ["house", "seal", "depth", "k", "word", "path"]
abbrev p_put_in : List Str := ["house", "seal", "depth", "k", "word"]
theorem sc_put_in : FnScope n_put_in p_put_in (defScope s_put_in) := ⟨rfl, rfl, rfl, by decide +kernel, rfl, by decide +kernel, by decide +kernel⟩
abbrev a_put_in : Str × Option Str := ("put_in", none)
abbrev s_is_word : Stmt := top 9
abbrev n_is_word : List Str := ["thing"]
abbrev p_is_word : List Str := ["thing"]
theorem sc_is_word : FnScope n_is_word p_is_word (defScope s_is_word) := ⟨rfl, rfl, rfl, by decide +kernel, rfl, by decide +kernel, by decide +kernel⟩
abbrev a_is_word : Str × Option Str := ("is_word", none)
abbrev s_have_form : Stmt := top 10
abbrev n_have_form : List Str := ["house", "depth", "paths", "met", "k", "word", "siblings", "seal"]
abbrev p_have_form : List Str := ["house", "depth", "paths"]
theorem sc_have_form : FnScope n_have_form p_have_form (defScope s_have_form) := ⟨rfl, rfl, rfl, by decide +kernel, rfl, by decide +kernel, by decide +kernel⟩
abbrev a_have_form : Str × Option Str := ("have_form", none)
abbrev s_places_of : Stmt := top 11
abbrev n_places_of : List Str := ["house", "depth", "paths", "found", "k", "word", "siblings", "own", "told", "place", "seal", "j"]
abbrev p_places_of : List Str := ["house", "depth", "paths"]
theorem sc_places_of : FnScope n_places_of p_places_of (defScope s_places_of) := ⟨rfl, rfl, rfl, by decide +kernel, rfl, by decide +kernel, by decide +kernel⟩
abbrev a_places_of : Str × Option Str := ("places_of", none)
abbrev s_comes_to : Stmt := top 12
abbrev n_comes_to : List Str := ["house", "depth", "paths", "found"]
abbrev p_comes_to : List Str := ["house", "depth", "paths"]
theorem sc_comes_to : FnScope n_comes_to p_comes_to (defScope s_comes_to) := ⟨rfl, rfl, rfl, by decide +kernel, rfl, by decide +kernel, by decide +kernel⟩
abbrev a_comes_to : Str × Option Str := ("comes_to", none)
abbrev s_House_init : Stmt := inClass (top 14) 0
abbrev n_House_init : List Str := ["self"]
abbrev p_House_init : List Str := ["self"]
theorem sc_House_init : FnScope n_House_init p_House_init (defScope s_House_init) := ⟨rfl, rfl, rfl, by decide +kernel, rfl, by decide +kernel, by decide +kernel⟩
abbrev a_House_init : Str × Option Str := ("House", some "__init__")
abbrev s_House_given : Stmt := inClass (top 14) 1
abbrev n_House_given : List Str := ["self", "thing"]
abbrev p_House_given : List Str := ["self", "thing"]
theorem sc_House_given : FnScope n_House_given p_House_given (defScope s_House_given) := ⟨rfl, rfl, rfl, by decide +kernel, rfl, by decide +kernel, by decide +kernel⟩
abbrev a_House_given : Str × Option Str := ("House", some "given")
abbrev s_House_leaf : Stmt := inClass (top 14) 2
abbrev n_House_leaf : List Str := ["self", "word"]
abbrev p_House_leaf : List Str := ["self", "word"]
theorem sc_House_leaf : FnScope n_House_leaf p_House_leaf (defScope s_House_leaf) := ⟨rfl, rfl, rfl, by decide +kernel, rfl, by decide +kernel, by decide +kernel⟩
abbrev a_House_leaf : Str × Option Str := ("House", some "leaf")
abbrev s_House_pair : Stmt := inClass (top 14) 3
abbrev n_House_pair : List Str := ["self", "one", "other"]
abbrev p_House_pair : List Str := ["self", "one", "other"]
theorem sc_House_pair : FnScope n_House_pair p_House_pair (defScope s_House_pair) := ⟨rfl, rfl, rfl, by decide +kernel, rfl, by decide +kernel, by decide +kernel⟩
abbrev a_House_pair : Str × Option Str := ("House", some "pair")
abbrev s_House_opened : Stmt := inClass (top 14) 4
abbrev n_House_opened : List Str := ["self", "seal"]
abbrev p_House_opened : List Str := ["self", "seal"]
theorem sc_House_opened : FnScope n_House_opened p_House_opened (defScope s_House_opened) := ⟨rfl, rfl, rfl, by decide +kernel, rfl, by decide +kernel, by decide +kernel⟩
abbrev a_House_opened : Str × Option Str := ("House", some "opened")
abbrev s_House_many : Stmt := inClass (top 14) 5
abbrev n_House_many : List Str := ["self"]
abbrev p_House_many : List Str := ["self"]
theorem sc_House_many : FnScope n_House_many p_House_many (defScope s_House_many) := ⟨rfl, rfl, rfl, by decide +kernel, rfl, by decide +kernel, by decide +kernel⟩
abbrev a_House_many : Str × Option Str := ("House", some "many")
abbrev s_law_deal : Stmt := top 16
abbrev n_law_deal : List Str := ["script", "base", "some", "number", "one"]
abbrev p_law_deal : List Str := ["script", "base"]
theorem sc_law_deal : FnScope n_law_deal p_law_deal (defScope s_law_deal) := ⟨rfl, rfl, rfl, by decide +kernel, rfl, by decide +kernel, by decide +kernel⟩
abbrev a_law_deal : Str × Option Str := ("_law_deal", none)
abbrev s_law_draw : Stmt := top 17
abbrev n_law_draw : List Str := ["deal", "many", "number", "one", "other"]
abbrev p_law_draw : List Str := ["deal", "many"]
theorem sc_law_draw : FnScope n_law_draw p_law_draw (defScope s_law_draw) := ⟨rfl, rfl, rfl, by decide +kernel, rfl, by decide +kernel, by decide +kernel⟩
abbrev a_law_draw : Str × Option Str := ("_law_draw", none)
abbrev s_law_word : Stmt := top 18
abbrev n_law_word : List Str := ["deal", "form"]
abbrev p_law_word : List Str := ["deal"]
theorem sc_law_word : FnScope n_law_word p_law_word (defScope s_law_word) := ⟨rfl, rfl, rfl, by decide +kernel, rfl, by decide +kernel, by decide +kernel⟩
abbrev a_law_word : Str × Option Str := ("_law_word", none)
abbrev s_law_made : Stmt := top 19
abbrev n_law_made : List Str := ["deal", "house", "told", "numbers", "thing", "number", "known", "one"]
abbrev p_law_made : List Str := ["deal", "house", "told"]
theorem sc_law_made : FnScope n_law_made p_law_made (defScope s_law_made) := ⟨rfl, rfl, rfl, by decide +kernel, rfl, by decide +kernel, by decide +kernel⟩
abbrev a_law_made : Str × Option Str := ("_law_made", none)
abbrev s_law_never : Stmt := top 20
abbrev n_law_never : List Str := ["deal", "told", "other", "some", "number"]
abbrev p_law_never : List Str := ["deal", "told", "other"]
theorem sc_law_never : FnScope n_law_never p_law_never (defScope s_law_never) := ⟨rfl, rfl, rfl, by decide +kernel, rfl, by decide +kernel, by decide +kernel⟩
abbrev a_law_never : Str × Option Str := ("_law_never", none)
abbrev s_law_walked : Stmt := top 21
abbrev n_law_walked : List Str := ["told", "seal", "depth", "k", "beside", "j", "side"]
abbrev p_law_walked : List Str := ["told", "seal", "depth", "k"]
theorem sc_law_walked : FnScope n_law_walked p_law_walked (defScope s_law_walked) := ⟨rfl, rfl, rfl, by decide +kernel, rfl, by decide +kernel, by decide +kernel⟩
abbrev a_law_walked : Str × Option Str := ("_law_walked", none)
abbrev s_law_none : Stmt := top 22
abbrev n_law_none : List Str := ["deal", "house", "told", "number", "depth", "k", "beside", "j"]
abbrev p_law_none : List Str := ["deal", "house", "told", "number"]
theorem sc_law_none : FnScope n_law_none p_law_none (defScope s_law_none) := ⟨rfl, rfl, rfl, by decide +kernel, rfl, by decide +kernel, by decide +kernel⟩
abbrev a_law_none : Str × Option Str := ("_law_none", none)
abbrev s_law_asked : Stmt := top 23
abbrev n_law_asked : List Str := ["deal", "house", "told", "other", "many", "number", "seal", "depth", "k", "due"]
abbrev p_law_asked : List Str := ["deal", "house", "told", "other"]
theorem sc_law_asked : FnScope n_law_asked p_law_asked (defScope s_law_asked) := ⟨rfl, rfl, rfl, by decide +kernel, rfl, by decide +kernel, by decide +kernel⟩
abbrev a_law_asked : Str × Option Str := ("_law_asked", none)
abbrev s_law_again : Stmt := top 24
abbrev n_law_again : List Str := ["house", "told", "number", "thing"]
abbrev p_law_again : List Str := ["house", "told"]
theorem sc_law_again : FnScope n_law_again p_law_again (defScope s_law_again) := ⟨rfl, rfl, rfl, by decide +kernel, rfl, by decide +kernel, by decide +kernel⟩
abbrev a_law_again : Str × Option Str := ("_law_again", none)
abbrev s_law : Stmt := top 25
abbrev n_law : List Str := ["script", "deal", "houses", "told", "turn", "one", "right"]
abbrev p_law : List Str := ["script"]
theorem sc_law : FnScope n_law p_law (defScope s_law) := ⟨rfl, rfl, rfl, by decide +kernel, rfl, by decide +kernel, by decide +kernel⟩
abbrev a_law : Str × Option Str := ("law", none)
/-- what the top has left, by names -/
structure Txt (K : PySem.W.Frag) (mg : Str → Option Value) : Prop where
  m_bool : mg "bool" = none
  m_int : mg "int" = none
  m_isinstance : mg "isinstance" = none
  m_len : mg "len" = none
  m_list : mg "list" = none
  m_max : mg "max" = none
  m_range : mg "range" = none
  m_repr : mg "repr" = none
  m_reversed : mg "reversed" = none
  m_tuple : mg "tuple" = none
  v_WIDE : ∃ t, mg "WIDE" = some (.int 4294967296 t)
  v_GREAT : ∃ t, mg "GREAT" = some (.int 1000000000000 t)
  g_House : mg "House" = some (.ref (He.ga K "House"))
  cl_House : Cls K (He.ga K "House")
  mk_House : Mk K (He.ga K "House") (He.fAd K a_House_init)
  no_House_numbers : NoAttr K (He.ga K "House") "numbers"
  no_House_things : NoAttr K (He.ga K "House") "things"
  g_way_down : mg "way_down" = some (.ref (He.fAd K a_way_down))
  g_word_in : mg "word_in" = some (.ref (He.fAd K a_word_in))
  g_path_in : mg "path_in" = some (.ref (He.fAd K a_path_in))
  g_raised : mg "raised" = some (.ref (He.fAd K a_raised))
  g_put_in : mg "put_in" = some (.ref (He.fAd K a_put_in))
  g_is_word : mg "is_word" = some (.ref (He.fAd K a_is_word))
  g_have_form : mg "have_form" = some (.ref (He.fAd K a_have_form))
  g_places_of : mg "places_of" = some (.ref (He.fAd K a_places_of))
  g_comes_to : mg "comes_to" = some (.ref (He.fAd K a_comes_to))
  me_House_given : Meth K (He.ga K "House") "given" (He.fAd K a_House_given)
  me_House_leaf : Meth K (He.ga K "House") "leaf" (He.fAd K a_House_leaf)
  me_House_pair : Meth K (He.ga K "House") "pair" (He.fAd K a_House_pair)
  me_House_opened : Meth K (He.ga K "House") "opened" (He.fAd K a_House_opened)
  me_House_many : Meth K (He.ga K "House") "many" (He.fAd K a_House_many)
  g_law_deal : mg "_law_deal" = some (.ref (He.fAd K a_law_deal))
  g_law_draw : mg "_law_draw" = some (.ref (He.fAd K a_law_draw))
  g_law_word : mg "_law_word" = some (.ref (He.fAd K a_law_word))
  g_law_made : mg "_law_made" = some (.ref (He.fAd K a_law_made))
  g_law_never : mg "_law_never" = some (.ref (He.fAd K a_law_never))
  g_law_walked : mg "_law_walked" = some (.ref (He.fAd K a_law_walked))
  g_law_none : mg "_law_none" = some (.ref (He.fAd K a_law_none))
  g_law_asked : mg "_law_asked" = some (.ref (He.fAd K a_law_asked))
  g_law_again : mg "_law_again" = some (.ref (He.fAd K a_law_again))
  g_law : mg "law" = some (.ref (He.fAd K a_law))
  F_way_down : ∃ fd, FunD K "way_down" "way_down" (defArgs s_way_down) (defBody s_way_down) (defScope s_way_down) [] [] (He.fAd K a_way_down) fd
  F_word_in : ∃ fd, FunD K "word_in" "word_in" (defArgs s_word_in) (defBody s_word_in) (defScope s_word_in) [] [] (He.fAd K a_word_in) fd
  F_path_in : ∃ fd, FunD K "path_in" "path_in" (defArgs s_path_in) (defBody s_path_in) (defScope s_path_in) [] [] (He.fAd K a_path_in) fd
  F_raised : ∃ fd, FunD K "raised" "raised" (defArgs s_raised) (defBody s_raised) (defScope s_raised) [] [] (He.fAd K a_raised) fd
  F_put_in : ∃ fd, FunD K "put_in" "put_in" (defArgs s_put_in) (defBody s_put_in) (defScope s_put_in) [] [] (He.fAd K a_put_in) fd
  F_is_word : ∃ fd, FunD K "is_word" "is_word" (defArgs s_is_word) (defBody s_is_word) (defScope s_is_word) [] [] (He.fAd K a_is_word) fd
  F_have_form : ∃ fd, FunD K "have_form" "have_form" (defArgs s_have_form) (defBody s_have_form) (defScope s_have_form) [] [] (He.fAd K a_have_form) fd
  F_places_of : ∃ fd, FunD K "places_of" "places_of" (defArgs s_places_of) (defBody s_places_of) (defScope s_places_of) [] [] (He.fAd K a_places_of) fd
  F_comes_to : ∃ fd, FunD K "comes_to" "comes_to" (defArgs s_comes_to) (defBody s_comes_to) (defScope s_comes_to) [] [] (He.fAd K a_comes_to) fd
  F_House_init : ∃ fd, FunD K "__init__" "House.__init__" (defArgs s_House_init) (defBody s_House_init) (defScope s_House_init) [] [] (He.fAd K a_House_init) fd
  F_House_given : ∃ fd, FunD K "given" "House.given" (defArgs s_House_given) (defBody s_House_given) (defScope s_House_given) [] [] (He.fAd K a_House_given) fd
  F_House_leaf : ∃ fd, FunD K "leaf" "House.leaf" (defArgs s_House_leaf) (defBody s_House_leaf) (defScope s_House_leaf) [] [] (He.fAd K a_House_leaf) fd
  F_House_pair : ∃ fd, FunD K "pair" "House.pair" (defArgs s_House_pair) (defBody s_House_pair) (defScope s_House_pair) [] [] (He.fAd K a_House_pair) fd
  F_House_opened : ∃ fd, FunD K "opened" "House.opened" (defArgs s_House_opened) (defBody s_House_opened) (defScope s_House_opened) [] [] (He.fAd K a_House_opened) fd
  F_House_many : ∃ fd, FunD K "many" "House.many" (defArgs s_House_many) (defBody s_House_many) (defScope s_House_many) [] [] (He.fAd K a_House_many) fd
  F_law_deal : ∃ fd, FunD K "_law_deal" "_law_deal" (defArgs s_law_deal) (defBody s_law_deal) (defScope s_law_deal) [] [] (He.fAd K a_law_deal) fd
  F_law_draw : ∃ fd, FunD K "_law_draw" "_law_draw" (defArgs s_law_draw) (defBody s_law_draw) (defScope s_law_draw) [] [] (He.fAd K a_law_draw) fd
  F_law_word : ∃ fd, FunD K "_law_word" "_law_word" (defArgs s_law_word) (defBody s_law_word) (defScope s_law_word) [] [] (He.fAd K a_law_word) fd
  F_law_made : ∃ fd, FunD K "_law_made" "_law_made" (defArgs s_law_made) (defBody s_law_made) (defScope s_law_made) [] [] (He.fAd K a_law_made) fd
  F_law_never : ∃ fd, FunD K "_law_never" "_law_never" (defArgs s_law_never) (defBody s_law_never) (defScope s_law_never) [] [] (He.fAd K a_law_never) fd
  F_law_walked : ∃ fd, FunD K "_law_walked" "_law_walked" (defArgs s_law_walked) (defBody s_law_walked) (defScope s_law_walked) [] [] (He.fAd K a_law_walked) fd
  F_law_none : ∃ fd, FunD K "_law_none" "_law_none" (defArgs s_law_none) (defBody s_law_none) (defScope s_law_none) [] [] (He.fAd K a_law_none) fd
  F_law_asked : ∃ fd, FunD K "_law_asked" "_law_asked" (defArgs s_law_asked) (defBody s_law_asked) (defScope s_law_asked) [] [] (He.fAd K a_law_asked) fd
  F_law_again : ∃ fd, FunD K "_law_again" "_law_again" (defArgs s_law_again) (defBody s_law_again) (defScope s_law_again) [] [] (He.fAd K a_law_again) fd
  F_law : ∃ fd, FunD K "law" "law" (defArgs s_law) (defBody s_law) (defScope s_law) [] [] (He.fAd K a_law) fd
theorem bi_way_down {K : PySem.W.Frag} {f : Addr} {fd : FuncData} (F : FunD K "way_down" "way_down" (defArgs s_way_down) (defBody s_way_down) (defScope s_way_down) [] [] f fd) : Binds K fd p_way_down [] :=
  F.bindsN fun _ _ _ _ _ _ us hl => match us, hl with | [_, _, _, _], _ => rfl
theorem bi_word_in {K : PySem.W.Frag} {f : Addr} {fd : FuncData} (F : FunD K "word_in" "word_in" (defArgs s_word_in) (defBody s_word_in) (defScope s_word_in) [] [] f fd) : Binds K fd p_word_in [] :=
  F.bindsN fun _ _ _ _ _ _ us hl => match us, hl with | [_, _, _, _], _ => rfl
theorem bi_path_in {K : PySem.W.Frag} {f : Addr} {fd : FuncData} (F : FunD K "path_in" "path_in" (defArgs s_path_in) (defBody s_path_in) (defScope s_path_in) [] [] f fd) : Binds K fd p_path_in [] :=
  F.bindsN fun _ _ _ _ _ _ us hl => match us, hl with | [_, _, _, _], _ => rfl
theorem bi_raised {K : PySem.W.Frag} {f : Addr} {fd : FuncData} (F : FunD K "raised" "raised" (defArgs s_raised) (defBody s_raised) (defScope s_raised) [] [] f fd) : Binds K fd p_raised [] :=
  F.bindsN fun _ _ _ _ _ _ us hl => match us, hl with | [_, _, _, _, _], _ => rfl
theorem bi_put_in {K : PySem.W.Frag} {f : Addr} {fd : FuncData} (F : FunD K "put_in" "put_in" (defArgs s_put_in) (defBody s_put_in) (defScope s_put_in) [] [] f fd) : Binds K fd p_put_in [] :=
  F.bindsN fun _ _ _ _ _ _ us hl => match us, hl with | [_, _, _, _, _], _ => rfl
theorem bi_is_word {K : PySem.W.Frag} {f : Addr} {fd : FuncData} (F : FunD K "is_word" "is_word" (defArgs s_is_word) (defBody s_is_word) (defScope s_is_word) [] [] f fd) : Binds K fd p_is_word [] :=
  F.bindsN fun _ _ _ _ _ _ us hl => match us, hl with | [_], _ => rfl
theorem bi_have_form {K : PySem.W.Frag} {f : Addr} {fd : FuncData} (F : FunD K "have_form" "have_form" (defArgs s_have_form) (defBody s_have_form) (defScope s_have_form) [] [] f fd) : Binds K fd p_have_form [] :=
  F.bindsN fun _ _ _ _ _ _ us hl => match us, hl with | [_, _, _], _ => rfl
theorem bi_places_of {K : PySem.W.Frag} {f : Addr} {fd : FuncData} (F : FunD K "places_of" "places_of" (defArgs s_places_of) (defBody s_places_of) (defScope s_places_of) [] [] f fd) : Binds K fd p_places_of [] :=
  F.bindsN fun _ _ _ _ _ _ us hl => match us, hl with | [_, _, _], _ => rfl
theorem bi_comes_to {K : PySem.W.Frag} {f : Addr} {fd : FuncData} (F : FunD K "comes_to" "comes_to" (defArgs s_comes_to) (defBody s_comes_to) (defScope s_comes_to) [] [] f fd) : Binds K fd p_comes_to [] :=
  F.bindsN fun _ _ _ _ _ _ us hl => match us, hl with | [_, _, _], _ => rfl
theorem bi_House_init {K : PySem.W.Frag} {f : Addr} {fd : FuncData} (F : FunD K "__init__" "House.__init__" (defArgs s_House_init) (defBody s_House_init) (defScope s_House_init) [] [] f fd) : Binds K fd p_House_init [] :=
  F.bindsN fun _ _ _ _ _ _ us hl => match us, hl with | [_], _ => rfl
theorem bi_House_given {K : PySem.W.Frag} {f : Addr} {fd : FuncData} (F : FunD K "given" "House.given" (defArgs s_House_given) (defBody s_House_given) (defScope s_House_given) [] [] f fd) : Binds K fd p_House_given [] :=
  F.bindsN fun _ _ _ _ _ _ us hl => match us, hl with | [_, _], _ => rfl
theorem bi_House_leaf {K : PySem.W.Frag} {f : Addr} {fd : FuncData} (F : FunD K "leaf" "House.leaf" (defArgs s_House_leaf) (defBody s_House_leaf) (defScope s_House_leaf) [] [] f fd) : Binds K fd p_House_leaf [] :=
  F.bindsN fun _ _ _ _ _ _ us hl => match us, hl with | [_, _], _ => rfl
theorem bi_House_pair {K : PySem.W.Frag} {f : Addr} {fd : FuncData} (F : FunD K "pair" "House.pair" (defArgs s_House_pair) (defBody s_House_pair) (defScope s_House_pair) [] [] f fd) : Binds K fd p_House_pair [] :=
  F.bindsN fun _ _ _ _ _ _ us hl => match us, hl with | [_, _, _], _ => rfl
theorem bi_House_opened {K : PySem.W.Frag} {f : Addr} {fd : FuncData} (F : FunD K "opened" "House.opened" (defArgs s_House_opened) (defBody s_House_opened) (defScope s_House_opened) [] [] f fd) : Binds K fd p_House_opened [] :=
  F.bindsN fun _ _ _ _ _ _ us hl => match us, hl with | [_, _], _ => rfl
theorem bi_House_many {K : PySem.W.Frag} {f : Addr} {fd : FuncData} (F : FunD K "many" "House.many" (defArgs s_House_many) (defBody s_House_many) (defScope s_House_many) [] [] f fd) : Binds K fd p_House_many [] :=
  F.bindsN fun _ _ _ _ _ _ us hl => match us, hl with | [_], _ => rfl
theorem bi_law_deal {K : PySem.W.Frag} {f : Addr} {fd : FuncData} (F : FunD K "_law_deal" "_law_deal" (defArgs s_law_deal) (defBody s_law_deal) (defScope s_law_deal) [] [] f fd) : Binds K fd p_law_deal [] :=
  F.bindsN fun _ _ _ _ _ _ us hl => match us, hl with | [_, _], _ => rfl
theorem bi_law_draw {K : PySem.W.Frag} {f : Addr} {fd : FuncData} (F : FunD K "_law_draw" "_law_draw" (defArgs s_law_draw) (defBody s_law_draw) (defScope s_law_draw) [] [] f fd) : Binds K fd p_law_draw [] :=
  F.bindsN fun _ _ _ _ _ _ us hl => match us, hl with | [_, _], _ => rfl
theorem bi_law_word {K : PySem.W.Frag} {f : Addr} {fd : FuncData} (F : FunD K "_law_word" "_law_word" (defArgs s_law_word) (defBody s_law_word) (defScope s_law_word) [] [] f fd) : Binds K fd p_law_word [] :=
  F.bindsN fun _ _ _ _ _ _ us hl => match us, hl with | [_], _ => rfl
theorem bi_law_made {K : PySem.W.Frag} {f : Addr} {fd : FuncData} (F : FunD K "_law_made" "_law_made" (defArgs s_law_made) (defBody s_law_made) (defScope s_law_made) [] [] f fd) : Binds K fd p_law_made [] :=
  F.bindsN fun _ _ _ _ _ _ us hl => match us, hl with | [_, _, _], _ => rfl
theorem bi_law_never {K : PySem.W.Frag} {f : Addr} {fd : FuncData} (F : FunD K "_law_never" "_law_never" (defArgs s_law_never) (defBody s_law_never) (defScope s_law_never) [] [] f fd) : Binds K fd p_law_never [] :=
  F.bindsN fun _ _ _ _ _ _ us hl => match us, hl with | [_, _, _], _ => rfl
theorem bi_law_walked {K : PySem.W.Frag} {f : Addr} {fd : FuncData} (F : FunD K "_law_walked" "_law_walked" (defArgs s_law_walked) (defBody s_law_walked) (defScope s_law_walked) [] [] f fd) : Binds K fd p_law_walked [] :=
  F.bindsN fun _ _ _ _ _ _ us hl => match us, hl with | [_, _, _, _], _ => rfl
theorem bi_law_none {K : PySem.W.Frag} {f : Addr} {fd : FuncData} (F : FunD K "_law_none" "_law_none" (defArgs s_law_none) (defBody s_law_none) (defScope s_law_none) [] [] f fd) : Binds K fd p_law_none [] :=
  F.bindsN fun _ _ _ _ _ _ us hl => match us, hl with | [_, _, _, _], _ => rfl
theorem bi_law_asked {K : PySem.W.Frag} {f : Addr} {fd : FuncData} (F : FunD K "_law_asked" "_law_asked" (defArgs s_law_asked) (defBody s_law_asked) (defScope s_law_asked) [] [] f fd) : Binds K fd p_law_asked [] :=
  F.bindsN fun _ _ _ _ _ _ us hl => match us, hl with | [_, _, _, _], _ => rfl
theorem bi_law_again {K : PySem.W.Frag} {f : Addr} {fd : FuncData} (F : FunD K "_law_again" "_law_again" (defArgs s_law_again) (defBody s_law_again) (defScope s_law_again) [] [] f fd) : Binds K fd p_law_again [] :=
  F.bindsN fun _ _ _ _ _ _ us hl => match us, hl with | [_, _], _ => rfl
theorem bi_law {K : PySem.W.Frag} {f : Addr} {fd : FuncData} (F : FunD K "law" "law" (defArgs s_law) (defBody s_law) (defScope s_law) [] [] f fd) : Binds K fd p_law [] :=
  F.bindsN fun _ _ _ _ _ _ us hl => match us, hl with | [_], _ => rfl
end Ct

set_option Elab.async false
set_option linter.all false
set_option maxRecDepth 100000
set_option maxHeartbeats 4000000
namespace Ct
open PySem PySem.Spec PyProof.Rows L2 RT

/-! ### things, and the house as data -/
inductive Thing where
  | leaf (w : Int)
  | pair (a b : Int)
  deriving DecidableEq
def thV : Thing → List V
  | .leaf w => [.str "leaf", .int w]
  | .pair a b => [.str "pair", .int a, .int b]
def thK : Thing → List Key
  | .leaf w => [.inr "leaf", .inl w]
  | .pair a b => [.inr "pair", .inl a, .inl b]
def thD : Thing → PyData
  | .leaf w => .tuple [.str "leaf", .int w]
  | .pair a b => .tuple [.str "pair", .int a, .int b]
theorem thK_map (t : Thing) : (thK t).map kV = thV t := by cases t <;> rfl
theorem thK_inj {t u : Thing} (h : thK t = thK u) : t = u := by
  cases t <;> cases u <;> simp_all [thK]
/-- the seals: from 1 on -/
def tab (ts : List Thing) : List (List Key × V) := ts.zipIdx.map fun p => (thK p.1, V.int ((p.2 : Int) + 1))
def ixOf (ts : List Thing) (t : Thing) : Option Nat := ts.findIdx? (· = t)
theorem val_from (t : Thing) : ∀ (ts : List Thing) (n : Nat), valV ((ts.zipIdx n).map fun p => (thK p.1, V.int ((p.2 : Int) + 1))) (thK t) = (ts.findIdx? (· = t)).map fun i => V.int ((n + i : Nat) + 1 : Int)
  | [], n => rfl
  | u :: ts, n => by
    rw [List.zipIdx_cons, List.map_cons, List.findIdx?_cons]
    by_cases h : u = t
    · rw [valV_pos (by rw [h])]
      simp [h]
    · rw [valV_neg (fun e => h (thK_inj e)), val_from t ts (n + 1)]
      simp only [h, decide_false, Bool.false_eq_true, if_false, Option.map_map]
      congr 1
      funext i
      show V.int _ = V.int _
      congr 1
      simp only []
      omega
theorem tab_val (ts : List Thing) (t : Thing) : valV (tab ts) (thK t) = (ixOf ts t).map fun (i : Nat) => V.int ((i : Int) + 1) := by
  unfold tab ixOf
  rw [val_from t ts 0]
  simp only [Nat.zero_add]
theorem tab_snoc (ts : List Thing) (t : Thing) : tab (ts ++ [t]) = tab ts ++ [(thK t, V.int ((ts.length : Int) + 1))] := by
  unfold tab
  rw [List.zipIdx_append]
  simp
theorem tab_len (ts : List Thing) : (tab ts).length = ts.length := by unfold tab; rw [List.length_map, List.length_zipIdx]
theorem ixOf_none {ts : List Thing} {t : Thing} : ixOf ts t = none ↔ t ∉ ts := by
  unfold ixOf
  rw [List.findIdx?_eq_none_iff]
  simp only [decide_eq_false_iff_not]
  exact ⟨fun h m => h t m rfl, fun h x hx e => h (e ▸ hx)⟩
theorem ixOf_some {ts : List Thing} {t : Thing} {i : Nat} (h : ixOf ts t = some i) : ts[i]? = some t := by
  unfold ixOf at h
  obtain ⟨hi, h1, -⟩ := List.findIdx?_eq_some_iff_getElem.mp h
  rw [List.getElem?_eq_getElem hi]
  simpa using h1
/-- the house with a thing in it, and the thing's seal -/
def addT (ts : List Thing) (t : Thing) : List Thing := if t ∈ ts then ts else ts ++ [t]
def numT (ts : List Thing) (t : Thing) : Int := match ixOf ts t with
  | some i => (i : Int) + 1
  | none => (ts.length : Int) + 1
/-- what a number opens to -/
def opn (ts : List Thing) (s : Int) : Option Thing := if 0 < s then ts[(s - 1).toNat]? else none

/-- the addresses of a house: its own, its dict's, its list's -/
structure HA where
  x : Addr
  d : Addr
  l : Addr
def ThsAt (H : Hp) (as : List Addr) (ts : List Thing) : Prop := as.length = ts.length ∧ ∀ (i : Nat) a t, as[i]? = some a → ts[i]? = some t → H a = some (.tup (thV t))
theorem ThsAt.mono {S : List Addr} {H H' : Hp} {as : List Addr} {ts : List Thing} (f : Fr S H H') (h : ThsAt H as ts) : ThsAt H' as ts := ⟨h.1, fun i a t h1 h2 => f.tup _ _ (h.2 i a t h1 h2)⟩
abbrev hN : List Str := ["numbers", "things"]
theorem hN_nd : hN.Nodup := by decide +kernel
abbrev hfs (h : HA) : List (Str × V) := hN.zip [.ref h.d, .ref h.l]
structure HouseAt (K : PySem.W.Frag) (H : Hp) (h : HA) (ts : List Thing) : Prop where
  ob : ∃ dx, H h.x = some (.ins (He.ga K "House") dx (hfs h))
  dct : H h.d = some (.dT (tab ts))
  lst : ∃ as : List Addr, H h.l = some (.lst (.non :: as.map V.ref)) ∧ ThsAt H as ts
  nd : ts.Nodup
section
variable {K : PySem.W.Frag} {H H' : Hp} {h : HA} {ts : List Thing}
theorem HouseAt.dl (a : HouseAt K H h ts) : h.d ≠ h.l := let ⟨_, h1, _⟩ := a.lst; ne_of a.dct h1 nofun
theorem HouseAt.xd (a : HouseAt K H h ts) : h.x ≠ h.d := let ⟨_, h1⟩ := a.ob; ne_of h1 a.dct nofun
theorem HouseAt.xl (a : HouseAt K H h ts) : h.x ≠ h.l := let ⟨_, h1⟩ := a.ob; let ⟨_, h2, _⟩ := a.lst; ne_of h1 h2 nofun
theorem HouseAt.mono {S : List Addr} (f : Fr S H H') (a : HouseAt K H h ts) (hx : h.x ∉ S) (hd : h.d ∉ S) (hl : h.l ∉ S) : HouseAt K H' h ts :=
  ⟨let ⟨dx, e⟩ := a.ob; ⟨dx, f.keep _ _ e hx⟩, f.keep _ _ a.dct hd, let ⟨as, e, t⟩ := a.lst; ⟨as, f.keep _ _ e hl, t.mono f⟩, a.nd⟩
theorem HouseAt.same (f : Fr [] H H') (a : HouseAt K H h ts) : HouseAt K H' h ts := a.mono f (by simp) (by simp) (by simp)
end

/-! ### promises -/
def sp_House_init (K : PySem.W.Frag) : Sp := fun vs H Q _ => ∃ x dx, vs = [.ref x] ∧ H x = some (.ins (He.ga K "House") dx []) ∧ ∀ (h : HA) H', h.x = x → H h.d = none → H h.l = none → HouseAt K H' h [] → Fr [x] H H' → Q .non H'
def sp_House_given (K : PySem.W.Frag) : Sp := fun vs H Q _ => ∃ h ts a t, vs = [.ref h.x, .ref a] ∧ HouseAt K H h ts ∧ H a = some (.tup (thV t)) ∧ ts.length < 1000000 ∧ ∀ H', HouseAt K H' h (addT ts t) → Fr [h.d, h.l] H H' → Q (.int (numT ts t)) H'
def sp_House_leaf (K : PySem.W.Frag) : Sp := fun vs H Q _ => ∃ h ts w, vs = [.ref h.x, .int w] ∧ HouseAt K H h ts ∧ ts.length < 1000000 ∧ ∀ H', HouseAt K H' h (addT ts (.leaf w)) → Fr [h.d, h.l] H H' → Q (.int (numT ts (.leaf w))) H'
def sp_House_pair (K : PySem.W.Frag) : Sp := fun vs H Q _ => ∃ h ts a b, vs = [.ref h.x, .int a, .int b] ∧ HouseAt K H h ts ∧ ts.length < 1000000 ∧ ∀ H', HouseAt K H' h (addT ts (.pair a b)) → Fr [h.d, h.l] H H' → Q (.int (numT ts (.pair a b))) H'
def sp_House_opened (K : PySem.W.Frag) : Sp := fun vs H Q _ => ∃ h ts s, vs = [.ref h.x, .int s] ∧ HouseAt K H h ts ∧ (opn ts s = none → Q .non H) ∧ ∀ t a, opn ts s = some t → H a = some (.tup (thV t)) → Q (.ref a) H
def sp_House_many (K : PySem.W.Frag) : Sp := fun vs H Q _ => ∃ h ts, vs = [.ref h.x] ∧ HouseAt K H h ts ∧ Q (.int ts.length) H

section
variable {P : Program} {w : World} {K : PySem.W.Frag} {mg : Str → Option Value} {base : Heap}
theorem ok_House_init (T : Txt K mg) : Ok P w K mg base 1 (He.fAd K a_House_init) p_House_init (sp_House_init K) := by
  refine ok_by T.F_House_init sc_House_init bi_House_init (fun vs H Q E h => ?_) (fun cdv A outer s H vs Q E hr h => ?_)
  · obtain ⟨x, dx, rfl, _⟩ := h; rfl
  · obtain ⟨x, dx, rfl, hx, k⟩ := h
    refine ⟨_, (pss_cons (kps_fld (K := K) (pv 0) pe_dnewT rfl)
      (pss_one (kps_fld (K := K) (pv 0) (pe_lst (pa_cons pe_non pa_nil)) rfl))), ?_⟩
    intro d hd
    have hxd : x ≠ d := ne_of_none hx hd
    refine ⟨_, rfl, x, _, dx, [], rfl, upd_old hd hx, T.cl_House, T.no_House_numbers, (by show 0 < 1000; decide), ?_⟩
    refine ⟨(by show 1 ≤ sizeLine; decide), fun l hl => ?_⟩
    have hxl : x ≠ l := ne_of_none upd_same hl
    have hdl : d ≠ l := ne_of_none ((upd_ne hxd.symm).trans upd_same) hl
    refine ⟨_, rfl, x, _, dx, _, rfl, upd_old hl upd_same, T.cl_House, T.no_House_things, (by show 1 < 1000; decide), ?_⟩
    have f : Fr [x] H (upd (upd (upd (upd H d (.dT [])) x (.ins (He.ga K "House") dx (putF "numbers" (.ref d) []))) l (.lst [.non])) x (.ins (He.ga K "House") dx (putF "things" (.ref l) (putF "numbers" (.ref d) [])))) :=
      (((Fr.refl [x] H).new hd).set (upd_old hd hx) rfl (by simp)).new hl |>.set (upd_old hl upd_same) rfl (by simp)
    have hl0 : H l = none := by
      have e := (((Fr.refl [x] H).new hd).set (o := .ins (He.ga K "House") dx (putF "numbers" (.ref d) [])) (upd_old hd hx) rfl (by simp)).dom l hl
      exact e
    refine k ⟨x, d, l⟩ _ rfl hd hl0 ⟨⟨dx, ?_⟩, ?_, ⟨[], ?_, rfl, fun i a t e => by simp at e⟩, List.nodup_nil⟩ f
    · refine upd_same.trans (congrArg (fun q => some (HO.ins (He.ga K "House") dx q)) ?_)
      exact (congrArg (putF "things" (V.ref l)) (zip_more (ns := []) (vs := []) (f := "numbers") (v := .ref d) (by simp) rfl)).trans (zip_more (ns := ["numbers"]) (vs := [.ref d]) (f := "things") (v := .ref l) (by decide +kernel) rfl)
    · exact upd_at hxd.symm (upd_at hdl (upd_at hxd.symm upd_same))
    · exact upd_at hxl.symm upd_same
theorem ok_House_given (T : Txt K mg) : Ok P w K mg base 1 (He.fAd K a_House_given) p_House_given (sp_House_given K) := by
  refine ok_by T.F_House_given sc_House_given bi_House_given (fun vs H Q E h => ?_) (fun cdv A outer s H vs Q E hr h => ?_)
  · obtain ⟨h, ts, a, t, rfl, _⟩ := h; rfl
  · obtain ⟨h, ts, a, t, rfl, hh, ha, hlen, k⟩ := h
    have hu := hu_of hr
    obtain ⟨⟨dx, hx⟩, hd, ⟨as, hl, hth⟩, nd⟩ := id hh
    have xd := hh.xd
    have xl := hh.xl
    have dl := hh.dl
    have ad : a ≠ h.d := ne_of ha hd nofun
    have al : a ≠ h.l := ne_of ha hl nofun
    have ha' : H a = some (.tup ((thK t).map kV)) := by rw [thK_map]; exact ha
    have lkN : (hfs h).lookup ("numbers" : Str) = some (.ref h.d) := zip_lookup (i := 0) hN_nd rfl rfl
    have lkT : (hfs h).lookup ("things" : Str) = some (.ref h.l) := zip_lookup (i := 1) hN_nd rfl rfl
    refine ⟨_, (pss_cons (ps_if (pt_cmp (pc_dnotin hu (pv 1) (kpe_fld (K := K) (pv 0) rfl))) (pss_cons (ps_dput hu (kpe_fld (K := K) (pv 0) rfl) (pv 1) (pe_callB (kcall_len (K := K)) (by rfl) T.m_len (by decide +kernel) (pa_cons (kpe_fld (K := K) (pv 0) rfl) pa_nil)) rfl)
      (pss_one (ps_expr (kpe_bm (K := K) rfl (pe_bm PySem.F.plainAttrs_list PySem.F.slot_list_append PySem.F.type_list_append mt_append (kpe_fld (K := K) (pv 0) rfl) (pa_cons (pv 1) pa_nil)))))) pss_nil)
      (pss_one (ps_ret (pe_dget hu (kpe_fld (K := K) (pv 0) rfl) (pv 1) (fun _ _ => rfl))))), ?_⟩
    refine ⟨_, rfl, _, rfl, h.x, _, dx, _, _, rfl, hx, T.cl_House, T.no_House_numbers, lkN, h.d, _, rfl, DGet.t hd ha', _, rfl, ?_⟩
    rw [tab_val]
    cases e : ixOf ts t with
    | none =>
      have nin := ixOf_none.mp e
      refine iteT ?_
      refine ⟨_, rfl, h.x, _, dx, _, _, rfl, hx, T.cl_House, T.no_House_things, lkT, h.l, _, rfl, .inl (SqL.of hl), _, rfl, h.x, _, dx, _, _, rfl, hx, T.cl_House, T.no_House_numbers, lkN, _, rfl, h.d, _, rfl, DPut.t hd ha' (by rw [tab_len]; show ts.length < 16777216; omega), ?_⟩
      have hx1 : ∀ o, upd H h.d o h.x = some (.ins (He.ga K "House") dx (hfs h)) := fun o => upd_at xd hx
      have hl1 : ∀ o, upd H h.d o h.l = some (.lst (.non :: as.map V.ref)) := fun o => upd_at dl.symm hl
      refine ⟨_, rfl, h.x, _, dx, _, _, rfl, hx1 _, T.cl_House, T.no_House_things, lkT, .inl ⟨rfl, _, SqL.of (hl1 _)⟩, _, rfl, h.l, _, _, rfl, rfl, hl1 _, (by show (as.map V.ref).length + 1 < 16777216; rw [List.length_map, hth.1]; omega), ?_⟩
      have ev : putK (tab ts) (thK t) (V.int ((V.non :: as.map V.ref).length : Nat)) = tab (ts ++ [t]) := by
        rw [putK_new _ (by rw [tab_val, e]; rfl), tab_snoc]
        simp [hth.1]
      have ea : addT ts t = ts ++ [t] := if_neg nin
      have en : numT ts t = (ts.length : Int) + 1 := by unfold numT; rw [e]
      have el : (V.non :: as.map V.ref) ++ [V.ref a] = V.non :: (as ++ [a]).map V.ref := by simp
      have f : Fr [h.d, h.l] H (upd (upd H h.d (.dT (tab (ts ++ [t])))) h.l (.lst (V.non :: (as ++ [a]).map V.ref))) :=
        ((Fr.refl _ H).set hd rfl (by simp)).set (hl1 _) rfl (by simp)
      rw [ev, el]
      refine ⟨_, rfl, h.x, _, dx, _, _, rfl, upd_at xl (hx1 _), T.cl_House, T.no_House_numbers, lkN, _, rfl, h.d, V.int ((ts.length : Int) + 1), rfl, ?_, ?_⟩
      · have g := DGet.t (k := thK t) (kvs := tab (ts ++ [t])) (H := upd (upd H h.d (.dT (tab (ts ++ [t])))) h.l (.lst (V.non :: (as ++ [a]).map V.ref))) (upd_at dl upd_same) (f.tup _ _ ha')
        rw [tab_snoc, valV_snoc _ _ _ _ (by rw [tab_val, e]; rfl), if_pos rfl, ← tab_snoc] at g
        exact g
      · rw [← en]
        refine k _ ⟨⟨dx, upd_at xl (hx1 _)⟩, ?_, ⟨as ++ [a], upd_same, ?_, ?_⟩, ?_⟩ f
        · rw [ea]; exact upd_at dl upd_same
        · rw [ea, List.length_append, List.length_append, hth.1]; rfl
        · intro i b u h1 h2
          rw [ea] at h2
          by_cases hi : i < ts.length
          · rw [List.getElem?_append_left (by rw [hth.1]; exact hi)] at h1
            rw [List.getElem?_append_left hi] at h2
            exact f.tup _ _ (hth.2 i b u h1 h2)
          · rw [List.getElem?_append_right (by rw [hth.1]; omega), hth.1] at h1
            rw [List.getElem?_append_right (by omega)] at h2
            rcases (show i - ts.length = 0 ∨ 0 < i - ts.length by omega) with z | z
            · rw [z] at h1 h2
              cases h1; cases h2
              exact f.tup _ _ ha
            · rw [List.getElem?_eq_none (by simp; omega)] at h1
              cases h1
        · rw [ea]; exact List.nodup_append.mpr ⟨nd, by simp, fun u hu v hv => by rcases List.mem_singleton.mp hv with rfl; intro q; exact nin (q ▸ hu)⟩
    | some i =>
      have hi := ixOf_some e
      refine iteF ?_
      have ea : addT ts t = ts := if_pos (List.mem_of_getElem? hi)
      have en : numT ts t = (i : Int) + 1 := by unfold numT; rw [e]
      refine ⟨_, rfl, h.x, _, dx, _, _, rfl, hx, T.cl_House, T.no_House_numbers, lkN, _, rfl, h.d, V.int ((i : Int) + 1), rfl, ?_, ?_⟩
      · have g := DGet.t (k := thK t) hd ha'
        rw [tab_val, e] at g
        exact g
      · rw [← en]
        exact k H (by rw [ea]; exact hh) (Fr.refl _ _)
theorem ok_House_leaf (T : Txt K mg) : Ok P w K mg base 2 (He.fAd K a_House_leaf) p_House_leaf (sp_House_leaf K) := by
  refine ok_by T.F_House_leaf sc_House_leaf bi_House_leaf (fun vs H Q E h => ?_) (fun cdv A outer s H vs Q E hr h => ?_)
  · obtain ⟨h, ts, v, rfl, _⟩ := h; rfl
  · obtain ⟨h, ts, v, rfl, hh, hlen, k⟩ := h
    obtain ⟨dx, hx⟩ := id hh.ob
    refine ⟨_, (pss_one (ps_ret (pc_meth (ok_House_given T) T.cl_House T.me_House_given hr (pv 0) (pa_cons (pe_tup (pa_cons pe_str (pa_cons (pv 1) pa_nil))) pa_nil)))), ?_⟩
    refine ⟨_, rfl, h.x, dx, _, rfl, hx, zip_none (by decide +kernel), ?_⟩
    refine ⟨_, rfl, (by show 2 ≤ sizeLine; decide), fun p hp => ?_⟩
    have f0 : Fr [] H (upd H p (.tup [.str "leaf", .int v])) := (Fr.refl _ H).new hp
    refine ⟨h, ts, p, .leaf v, rfl, hh.same f0, upd_same, hlen, fun H' h1 f => ?_⟩
    exact k H' h1 (f0.nil.trans f)
theorem ok_House_pair (T : Txt K mg) : Ok P w K mg base 2 (He.fAd K a_House_pair) p_House_pair (sp_House_pair K) := by
  refine ok_by T.F_House_pair sc_House_pair bi_House_pair (fun vs H Q E h => ?_) (fun cdv A outer s H vs Q E hr h => ?_)
  · obtain ⟨h, ts, a, b, rfl, _⟩ := h; rfl
  · obtain ⟨h, ts, a, b, rfl, hh, hlen, k⟩ := h
    obtain ⟨dx, hx⟩ := id hh.ob
    refine ⟨_, (pss_one (ps_ret (pc_meth (ok_House_given T) T.cl_House T.me_House_given hr (pv 0) (pa_cons (pe_tup (pa_cons pe_str (pa_cons (pv 1) (pa_cons (pv 2) pa_nil)))) pa_nil)))), ?_⟩
    refine ⟨_, rfl, h.x, dx, _, rfl, hx, zip_none (by decide +kernel), ?_⟩
    refine ⟨_, rfl, _, rfl, (by show 3 ≤ sizeLine; decide), fun p hp => ?_⟩
    have f0 : Fr [] H (upd H p (.tup [.str "pair", .int a, .int b])) := (Fr.refl _ H).new hp
    refine ⟨h, ts, p, .pair a b, rfl, hh.same f0, upd_same, hlen, fun H' h1 f => ?_⟩
    exact k H' h1 (f0.nil.trans f)
theorem ok_House_opened (T : Txt K mg) : Ok P w K mg base 1 (He.fAd K a_House_opened) p_House_opened (sp_House_opened K) := by
  refine ok_by T.F_House_opened sc_House_opened bi_House_opened (fun vs H Q E h => ?_) (fun cdv A outer s H vs Q E hr h => ?_)
  · obtain ⟨h, ts, v, rfl, _⟩ := h; rfl
  · obtain ⟨h, ts, v, rfl, hh, kn, ks⟩ := h
    obtain ⟨⟨dx, hx⟩, hd, ⟨as, hl, hth⟩, nd⟩ := id hh
    have lkT : (hfs h).lookup ("things" : Str) = some (.ref h.l) := zip_lookup (i := 1) hN_nd rfl rfl
    refine ⟨_, (pss_cons (ps_if (pt_not (pt_chain op_lt op_lt pe_int (pv 1) (pe_callB (kcall_len (K := K)) (by rfl) T.m_len (by decide +kernel) (pa_cons (kpe_fld (K := K) (pv 0) rfl) pa_nil)))) (pss_one (ps_ret pe_non)) pss_nil)
      (pss_one (ps_ret (pe_ix (kix_list (K := K)) (kpe_fld (K := K) (pv 0) rfl) (pv 1) (fun _ _ => rfl))))), ?_⟩
    refine ⟨_, rfl, _, _, rfl, rfl, _, rfl, ?_⟩
    have len : ((V.non :: as.map V.ref).length : Int) = (ts.length : Int) + 1 := by simp [hth.1]
    by_cases h0 : 0 < v
    · rw [if_pos (decide_eq_true h0)]
      refine ⟨_, rfl, h.x, _, dx, _, _, rfl, hx, T.cl_House, T.no_House_things, lkT, h.l, _, rfl, .inl (SqL.of hl), _, _, rfl, rfl, _, rfl, ?_⟩
      rw [len]
      by_cases h1 : v < (ts.length : Int) + 1
      · rw [decide_eq_true h1]
        refine iteF ?_
        have hi : (v - 1).toNat < ts.length := by omega
        have hia : (v - 1).toNat < as.length := by rw [hth.1]; exact hi
        have e1 : ts[(v - 1).toNat]? = some ts[(v - 1).toNat] := List.getElem?_eq_getElem hi
        have e2 : as[(v - 1).toNat]? = some as[(v - 1).toNat] := List.getElem?_eq_getElem hia
        have ev : v = (((v - 1).toNat + 1 : Nat) : Int) := by omega
        refine ⟨_, rfl, h.x, _, dx, _, _, rfl, hx, T.cl_House, T.no_House_things, lkT, _, rfl, h.l, _, _, V.ref as[(v - 1).toNat], rfl, rfl, SqL.of hl, at_of ev ?_, ?_⟩
        · rw [List.getElem?_cons_succ, List.getElem?_map, e2]; rfl
        · exact ks _ _ (by unfold opn; rw [if_pos h0, e1]) (hth.2 _ _ _ e2 e1)
      · rw [decide_eq_false h1]
        refine iteT ?_
        exact kn (by unfold opn; rw [if_pos h0]; exact List.getElem?_eq_none (by omega))
    · rw [if_neg (by simp [h0])]
      refine ⟨_, rfl, ?_⟩
      refine iteT ?_
      exact kn (by unfold opn; rw [if_neg h0])
theorem ok_House_many (T : Txt K mg) : Ok P w K mg base 1 (He.fAd K a_House_many) p_House_many (sp_House_many K) := by
  refine ok_by T.F_House_many sc_House_many bi_House_many (fun vs H Q E h => ?_) (fun cdv A outer s H vs Q E hr h => ?_)
  · obtain ⟨h, ts, rfl, _⟩ := h; rfl
  · obtain ⟨h, ts, rfl, hh, k⟩ := h
    obtain ⟨⟨dx, hx⟩, hd, ⟨as, hl, hth⟩, nd⟩ := id hh
    have lkT : (hfs h).lookup ("things" : Str) = some (.ref h.l) := zip_lookup (i := 1) hN_nd rfl rfl
    refine ⟨_, (pss_one (ps_ret (pe_op op_sub (pe_callB (kcall_len (K := K)) (by rfl) T.m_len (by decide +kernel) (pa_cons (kpe_fld (K := K) (pv 0) rfl) pa_nil)) pe_int))), ?_⟩
    refine ⟨_, rfl, h.x, _, dx, _, _, rfl, hx, T.cl_House, T.no_House_things, lkT, h.l, _, rfl, .inl (SqL.of hl), _, _, rfl, rfl, ?_⟩
    have e : (((V.non :: as.map V.ref).length : Nat) : Int) - 1 = (ts.length : Int) := by simp [hth.1]
    show Q (V.int ((((V.non :: as.map V.ref).length : Nat) : Int) - 1)) H
    rw [e]
    exact k
end
end Ct

set_option Elab.async false
set_option linter.all false
set_option maxRecDepth 100000
set_option maxHeartbeats 4000000
namespace Ct
open PySem PySem.Spec PyProof.Rows L2 RT

/-! ### trees as data -/
def bitN (k j : Nat) : Nat := k / 2 ^ j % 2
theorem bitN_lt (k j : Nat) : bitN k j < 2 := Nat.mod_lt _ (by decide)
theorem bitN_int (k j : Nat) : ((k : Int) / 2 ^ j).fmod 2 = ((bitN k j : Nat) : Int) := by
  unfold bitN
  rw [Int.fmod_eq_emod_of_nonneg _ (by decide)]
  push_cast
  rfl
/-- the word of leaf k below a seal and the seals beside its path, from the top down -/
def dn (ts : List Thing) (k : Nat) : Nat → Int → Option (Int × List Int)
  | 0, s => match opn ts s with
    | some (.leaf w) => some (w, [])
    | _ => none
  | j + 1, s => match opn ts s with
    | some (.pair a b) => (dn ts k j (if bitN k j = 0 then a else b)).map fun r => (r.1, (if bitN k j = 0 then b else a) :: r.2)
    | _ => none
theorem dn_pair {ts : List Thing} {k j : Nat} {s a b : Int} (h : opn ts s = some (.pair a b)) : dn ts k (j + 1) s = (dn ts k j (if bitN k j = 0 then a else b)).map fun r => (r.1, (if bitN k j = 0 then b else a) :: r.2) := by
  show (match opn ts s with | some (.pair a b) => _ | _ => none) = _
  rw [h]
theorem dn_noP {ts : List Thing} {k j : Nat} {s : Int} (h : ∀ a b, opn ts s ≠ some (.pair a b)) : dn ts k (j + 1) s = none := by
  show (match opn ts s with | some (.pair a b) => _ | _ => none) = _
  split
  · rename_i e; exact absurd e (h _ _)
  · rfl
theorem dn_leaf {ts : List Thing} {k : Nat} {s v : Int} (h : opn ts s = some (.leaf v)) : dn ts k 0 s = some (v, []) := by
  show (match opn ts s with | some (.leaf w) => _ | _ => none) = _
  rw [h]
theorem dn_noL {ts : List Thing} {k : Nat} {s : Int} (h : ∀ v, opn ts s ≠ some (.leaf v)) : dn ts k 0 s = none := by
  show (match opn ts s with | some (.leaf w) => _ | _ => none) = _
  split
  · rename_i e; exact absurd e (h _)
  · rfl
theorem dn_len (ts : List Thing) (k : Nat) : ∀ (j : Nat) (s : Int) (w : Int) (bs : List Int), dn ts k j s = some (w, bs) → bs.length = j
  | 0, s, w, bs, h => by
    unfold dn at h
    split at h
    · cases h; rfl
    · cases h
  | j + 1, s, w, bs, h => by
    unfold dn at h
    split at h
    · cases e : dn ts k j (if bitN k j = 0 then _ else _) with
      | none => rw [e] at h; cases h
      | some r =>
        rw [e] at h
        cases h
        simp [dn_len ts k j _ r.1 r.2 e]
    · cases h
/-- the seals from leaf k up, by the seals beside the path (from the leaf up): the house behind, the seals, from the leaf on -/
def up1 (ts : List Thing) (k j : Nat) (s b : Int) : List Thing × Int := if bitN k j = 0 then (addT ts (.pair s b), numT ts (.pair s b)) else (addT ts (.pair b s), numT ts (.pair b s))
def rsN (ts : List Thing) (k : Nat) (w : Int) (bs : List Int) : Nat → List Thing × List Int
  | 0 => (addT ts (.leaf w), [numT ts (.leaf w)])
  | i + 1 => ((up1 (rsN ts k w bs i).1 k i ((rsN ts k w bs i).2.getD i 0) (bs.getD i 0)).1, (rsN ts k w bs i).2 ++ [(up1 (rsN ts k w bs i).1 k i ((rsN ts k w bs i).2.getD i 0) (bs.getD i 0)).2])
theorem rsN_len (ts : List Thing) (k : Nat) (w : Int) (bs : List Int) : ∀ i, (rsN ts k w bs i).2.length = i + 1
  | 0 => rfl
  | i + 1 => by
    show ((rsN ts k w bs i).2 ++ [_]).length = _
    rw [List.length_append, rsN_len ts k w bs i]; rfl
theorem addT_len (ts : List Thing) (t : Thing) : (addT ts t).length ≤ ts.length + 1 := by
  unfold addT; split
  · omega
  · rw [List.length_append]; exact Nat.le_refl _
theorem up1_len (ts : List Thing) (k j : Nat) (s b : Int) : (up1 ts k j s b).1.length ≤ ts.length + 1 := by
  unfold up1; split <;> exact addT_len _ _
theorem rsN_house (ts : List Thing) (k : Nat) (w : Int) (bs : List Int) : ∀ i, (rsN ts k w bs i).1.length ≤ ts.length + 1 + i
  | 0 => addT_len _ _
  | i + 1 => by
    have h1 := rsN_house ts k w bs i
    have h2 := up1_len (rsN ts k w bs i).1 k i ((rsN ts k w bs i).2.getD i 0) (bs.getD i 0)
    show (up1 (rsN ts k w bs i).1 k i ((rsN ts k w bs i).2.getD i 0) (bs.getD i 0)).1.length ≤ _
    omega

/-! ### promises -/
def sp_way_down (K : PySem.W.Frag) : Sp := fun vs H Q _ => ∃ h ts s d k, vs = [.ref h.x, .int s, .int (d : Nat), .int (k : Nat)] ∧ HouseAt K H h ts ∧ d ≤ 1000 ∧ k < 2 ^ d ∧
  (∀ H', Fr [] H H' → dn ts k d s = none → Q .non H') ∧ ∀ H' v bs p l, Fr [] H H' → dn ts k d s = some (v, bs) → H' p = some (.tup [.int v, .ref l]) → H' l = some (.lst (bs.map V.int)) → Q (.ref p) H'
def sp_word_in (K : PySem.W.Frag) : Sp := fun vs H Q _ => ∃ h ts s d k, vs = [.ref h.x, .int s, .int (d : Nat), .int (k : Nat)] ∧ HouseAt K H h ts ∧ d ≤ 1000 ∧ k < 2 ^ d ∧
  ∀ H', Fr [] H H' → Q (match dn ts k d s with | none => .non | some r => .int r.1) H'
def sp_path_in (K : PySem.W.Frag) : Sp := fun vs H Q _ => ∃ h ts s d k, vs = [.ref h.x, .int s, .int (d : Nat), .int (k : Nat)] ∧ HouseAt K H h ts ∧ d ≤ 1000 ∧ k < 2 ^ d ∧
  (∀ H', Fr [] H H' → dn ts k d s = none → Q .non H') ∧ ∀ H' v bs p l, Fr [] H H' → dn ts k d s = some (v, bs) → H' p = some (.tup [.int v, .ref l]) → H' l = some (.tup (bs.reverse.map V.int)) → Q (.ref p) H'
def sp_raised (K : PySem.W.Frag) : Sp := fun vs H Q _ => ∃ (h : HA) (ts : List Thing) (d k : Nat) (v : Int) (sb : Addr) (bs : List Int), vs = [.ref h.x, .int (d : Nat), .int (k : Nat), .int v, .ref sb] ∧ HouseAt K H h ts ∧ H sb = some (.tup (bs.map V.int)) ∧ bs.length = d ∧ d ≤ 1000 ∧ ts.length + d + 2 < 1000000 ∧
  ∀ H' l, HouseAt K H' h (rsN ts k v bs d).1 → Fr [h.d, h.l] H H' → H l = none → H' l = some (.lst ((rsN ts k v bs d).2.map V.int)) → Q (.ref l) H'
def sp_put_in (K : PySem.W.Frag) : Sp := fun vs H Q _ => ∃ h ts s d k v, vs = [.ref h.x, .int s, .int (d : Nat), .int (k : Nat), .int v] ∧ HouseAt K H h ts ∧ d ≤ 1000 ∧ k < 2 ^ d ∧ ts.length + d + 2 < 1000000 ∧
  (∀ H', Fr [] H H' → dn ts k d s = none → Q .non H') ∧ ∀ H' u bs, Fr [h.d, h.l] H H' → dn ts k d s = some (u, bs) → HouseAt K H' h (rsN ts k v bs.reverse d).1 → Q (.int ((rsN ts k v bs.reverse d).2.getD d 0)) H'
section
variable {P : Program} {w : World} {K : PySem.W.Frag} {mg : Str → Option Value} {base : Heap}
theorem ok_way_down (T : Txt K mg) : Ok P w K mg base 2 (He.fAd K a_way_down) p_way_down (sp_way_down K) := by
  refine ok_by T.F_way_down sc_way_down bi_way_down (fun vs H Q E h => ?_) (fun cdv A outer s H vs Q E hr h => ?_)
  · obtain ⟨h, ts, v, d, k, rfl, _⟩ := h; rfl
  · obtain ⟨h, ts, v, d, k, rfl, hh, hd, hk, kn, ks⟩ := h
    have pow : (1 : Int) * 2 ^ ((d : Int).toNat) = ((2 ^ d : Nat) : Int) := by rw [Int.one_mul, Int.toNat_natCast]; push_cast; rfl
    refine ⟨_, (pss_cons (ps_if (pt_not (pt_chain op_le op_lt pe_int (pv 3) (pe_op op_shl pe_int (pv 2)))) (pss_one (ps_ret pe_non)) pss_nil)
      (pss_cons (ps_set (i := 4) sc_way_down.nd rfl (Or.inl rfl) (pe_lst pa_nil))
      (pss_cons (ps_for PassesOwn.never rfl (pi_range3 (by rfl) T.m_range (pa_cons (pe_op op_sub (pv 2) pe_int) (pa_cons (pe_un un_neg pe_int) (pa_cons (pe_un un_neg pe_int) pa_nil)))) (pg_name (i := 5) sc_way_down.nd rfl (Or.inl rfl)) (pss_cons (ps_set (i := 6) sc_way_down.nd rfl (Or.inl rfl) (pc_meth (ok_House_opened T) T.cl_House T.me_House_opened hr (pv 0) (pa_cons (pv 1) pa_nil)))
      (pss_cons (ps_if (PW.pt (pw_or (pt_cmpR op_isN (pv 6) pe_non (nomark _)) (pw_or1 (pt_cmpR op_ne (pe_ix (kix_tup (K := K)) (pv 6) pe_int (fun _ _ => rfl)) pe_str (nomark _))))) (pss_one (ps_ret pe_non)) pss_nil)
      (pss_cons (ps_set (i := 7) sc_way_down.nd rfl (Or.inl rfl) (pe_op op_modN (pe_op op_shr (pv 3) (pv 5)) pe_int))
      (pss_cons (ps_expr (kpe_bm (K := K) rfl (pe_bm PySem.F.plainAttrs_list PySem.F.slot_list_append PySem.F.type_list_append mt_append (pv 4) (pa_cons (pe_ix (kix_tup (K := K)) (pv 6) (pe_op op_sub pe_int (pv 7)) (fun _ _ => rfl)) pa_nil))))
      (pss_one (ps_set (i := 1) sc_way_down.nd rfl (Or.inl rfl) (pe_ix (kix_tup (K := K)) (pv 6) (pe_op op_add pe_int (pv 7)) (fun _ _ => rfl)))))))))
      (pss_cons (ps_set (i := 6) sc_way_down.nd rfl (Or.inl rfl) (pc_meth (ok_House_opened T) T.cl_House T.me_House_opened hr (pv 0) (pa_cons (pv 1) pa_nil)))
      (pss_cons (ps_if (PW.pt (pw_or (pt_cmpR op_isN (pv 6) pe_non (nomark _)) (pw_or1 (pt_cmpR op_ne (pe_ix (kix_tup (K := K)) (pv 6) pe_int (fun _ _ => rfl)) pe_str (nomark _))))) (pss_one (ps_ret pe_non)) pss_nil)
      (pss_one (ps_ret (pe_tup (pa_cons (pe_ix (kix_tup (K := K)) (pv 6) pe_int (fun _ _ => rfl)) (pa_cons (pv 4) pa_nil)))))))))), ?_⟩
    -- the place is within the tree
    refine ⟨_, rfl, _, _, rfl, rfl, _, rfl, ?_⟩
    rw [if_pos (decide_eq_true (Int.natCast_nonneg k))]
    refine ⟨_, rfl, _, _, rfl, rfl, ⟨by omega, by omega, by decide⟩, _, _, rfl, rfl, _, rfl, ?_⟩
    rw [pow, decide_eq_true (show (k : Int) < ((2 ^ d : Nat) : Int) by exact_mod_cast hk)]
    refine iteF ?_
    refine ⟨(by show 0 ≤ sizeLine; decide), fun l hl => ?_⟩
    have f0 : Fr [] H (upd H l (.lst [])) := (Fr.refl _ H).new hl
    refine ⟨_, rfl, _, _, rfl, rfl, _, rfl, _, rfl, _, _, _, _, rfl, RgC.neg (i := (d : Int) - 1) (j := -1) (by omega) (by omega) (by decide) (by decide), ?_⟩
    have en : ((d : Int) - 1 - -1).toNat = d := by omega
    rw [en]
    refine for_rangeC (lo := (d : Int) - 1) (c := -1) (n := d) (fun i σ H2 => ∃ s' acc o1 o2 o3, σ = [some (.ref h.x), some (.int s'), some (.int (d : Nat)), some (.int (k : Nat)), some (.ref l), o1, o2, o3] ∧ Fr [] H H2 ∧ H2 l = some (.lst (acc.map V.int)) ∧ acc.length = i ∧
      dn ts k d v = (dn ts k (d - i) s').map fun r => (r.1, acc ++ r.2)) ⟨v, [], none, none, none, rfl, f0, upd_same, rfl, ?_⟩ ?_ ?_
    · cases dn ts k d v <;> rfl
    · rintro i σ H2 hi ⟨s', acc, o1, o2, o3, rfl, f, hl2, hlen, eq⟩
      obtain ⟨m, em⟩ : ∃ m, d - i = m + 1 := ⟨d - i - 1, by omega⟩
      have ej : ((d : Int) - 1 + (i : Nat) * -1) = (m : Int) := by omega
      rw [em] at eq
      rw [ej]
      have hh2 := hh.same f
      obtain ⟨dx, hx⟩ := id hh2.ob
      refine ⟨_, rfl, h.x, dx, _, rfl, hx, zip_none (by decide +kernel), _, rfl, h, ts, s', rfl, hh2, fun e => ?_, fun t a e ha => ?_⟩
      · refine ⟨_, rfl, rfl, _, rfl, ?_⟩
        refine iteT ?_
        exact kn H2 f (by rw [eq, dn_noP (by rw [e]; nofun)]; rfl)
      · refine ⟨_, rfl, rfl, _, rfl, ?_⟩
        refine iteF ?_
        cases t with
        | leaf u =>
          refine ⟨_, rfl, a, _, _, _, rfl, rfl, SqT.of ha, at_of (j := 0) rfl rfl, rfl, _, rfl, ?_⟩
          refine iteT ?_
          exact kn H2 f (by rw [eq, dn_noP (by rw [e]; nofun)]; rfl)
        | pair a1 b1 =>
          refine ⟨_, rfl, a, _, _, _, rfl, rfl, SqT.of ha, at_of (j := 0) rfl rfl, rfl, _, rfl, ?_⟩
          refine iteF ?_
          refine ⟨_, rfl, _, rfl, _, _, rfl, rfl, by show (0 : Int) ≤ (m : Int); omega, _, _, rfl, rfl, by show (2 : Int) ≠ 0; decide, ?_⟩
          have eb : ((k : Int) / 2 ^ (m : Int).toNat).fmod 2 = ((bitN k m : Nat) : Int) := by rw [Int.toNat_natCast]; exact bitN_int k m
          refine at_g (v' := .int ((bitN k m : Nat) : Int)) ?_ ?_
          · exact congrArg V.int eb
          have hb := bitN_lt k m
          have step : ∀ (x y : Int), (if bitN k m = 0 then a1 else b1) = x → (if bitN k m = 0 then b1 else a1) = y → dn ts k d v = (dn ts k m x).map fun r => (r.1, (acc ++ [y]) ++ r.2) := by
            intro x y hx hy
            rw [eq, dn_pair e, hx, hy, Option.map_map]
            congr 1
            funext r
            show (r.1, acc ++ (y :: r.2)) = _
            rw [List.append_assoc]
            rfl
          have ed : d - (i + 1) = m := by omega
          have nx : ∀ (x y : Int), (if bitN k m = 0 then a1 else b1) = x → (if bitN k m = 0 then b1 else a1) = y → ∀ o1 o2 o3, ∃ s' acc' p1 p2 p3, [some (V.ref h.x), some (.int x), some (.int (d : Nat)), some (.int (k : Nat)), some (.ref l), o1, o2, o3] = [some (.ref h.x), some (.int s'), some (.int (d : Nat)), some (.int (k : Nat)), some (.ref l), p1, p2, p3] ∧
              Fr [] H (upd H2 l (.lst (acc.map V.int ++ [.int y]))) ∧ upd H2 l (.lst (acc.map V.int ++ [.int y])) l = some (.lst (acc'.map V.int)) ∧ acc'.length = i + 1 ∧ dn ts k d v = (dn ts k (d - (i + 1)) s').map fun r => (r.1, acc' ++ r.2) := fun x y hx hy o1 o2 o3 =>
            ⟨x, acc ++ [y], o1, o2, o3, rfl, f.mine hl, by rw [upd_same, List.map_append]; rfl, by simp [hlen], by rw [ed]; exact step x y hx hy⟩
          rcases (show bitN k m = 0 ∨ bitN k m = 1 by omega) with z | z
          · rw [z]
            refine ⟨_, rfl, .inl ⟨rfl, _, SqL.of hl2⟩, _, rfl, _, rfl, _, _, rfl, rfl, a, _, _, V.int b1, rfl, rfl, SqT.of ha, at_of (j := 2) rfl rfl, l, _, _, rfl, rfl, hl2, (by rw [List.length_map, hlen]; show i < 16777216; omega), ?_⟩
            refine ⟨_, rfl, _, rfl, _, _, rfl, rfl, a, _, _, V.int a1, rfl, rfl, SqT.of (upd_at (ne_of ha hl2 nofun) ha), at_of (j := 1) rfl rfl, ?_⟩
            exact nx a1 b1 (by rw [z]; rfl) (by rw [z]; rfl) _ _ _
          · rw [z]
            refine ⟨_, rfl, .inl ⟨rfl, _, SqL.of hl2⟩, _, rfl, _, rfl, _, _, rfl, rfl, a, _, _, V.int a1, rfl, rfl, SqT.of ha, at_of (j := 1) rfl rfl, l, _, _, rfl, rfl, hl2, (by rw [List.length_map, hlen]; show i < 16777216; omega), ?_⟩
            refine ⟨_, rfl, _, rfl, _, _, rfl, rfl, a, _, _, V.int b1, rfl, rfl, SqT.of (upd_at (ne_of ha hl2 nofun) ha), at_of (j := 2) rfl rfl, ?_⟩
            exact nx b1 a1 (by rw [z]; rfl) (by rw [z]; rfl) _ _ _
    · rintro σ H2 ⟨s', acc, o1, o2, o3, rfl, f, hl2, hlen, eq⟩
      rw [Nat.sub_self] at eq
      have hh2 := hh.same f
      obtain ⟨dx, hx⟩ := id hh2.ob
      refine ⟨_, rfl, h.x, dx, _, rfl, hx, zip_none (by decide +kernel), _, rfl, h, ts, s', rfl, hh2, fun e => ?_, fun t a e ha => ?_⟩
      · refine ⟨_, rfl, rfl, _, rfl, ?_⟩
        refine iteT ?_
        exact kn H2 f (by rw [eq, dn_noL (by rw [e]; nofun)]; rfl)
      · refine ⟨_, rfl, rfl, _, rfl, ?_⟩
        refine iteF ?_
        cases t with
        | pair a1 b1 =>
          refine ⟨_, rfl, a, _, _, _, rfl, rfl, SqT.of ha, at_of (j := 0) rfl rfl, rfl, _, rfl, ?_⟩
          refine iteT ?_
          exact kn H2 f (by rw [eq, dn_noL (by rw [e]; nofun)]; rfl)
        | leaf u =>
          refine ⟨_, rfl, a, _, _, _, rfl, rfl, SqT.of ha, at_of (j := 0) rfl rfl, rfl, _, rfl, ?_⟩
          refine iteF ?_
          refine ⟨_, rfl, a, _, _, V.int u, rfl, rfl, SqT.of ha, at_of (j := 1) rfl rfl, _, rfl, (by show 2 ≤ sizeLine; decide), fun p hp => ?_⟩
          refine ks _ u acc p l (f.new hp) (by rw [eq, dn_leaf e]; simp) upd_same (upd_old hp hl2)
theorem ok_word_in (T : Txt K mg) : Ok P w K mg base 3 (He.fAd K a_word_in) p_word_in (sp_word_in K) := by
  refine ok_by T.F_word_in sc_word_in bi_word_in (fun vs H Q E h => ?_) (fun cdv A outer s H vs Q E hr h => ?_)
  · obtain ⟨h, ts, v, d, k, rfl, _⟩ := h; rfl
  · obtain ⟨h, ts, v, d, k, rfl, hh, hd, hk, kk⟩ := h
    refine ⟨_, (pss_cons (ps_set (i := 4) sc_word_in.nd rfl (Or.inl rfl) (pc_call (ok_way_down T) hr rfl T.g_way_down (pa_cons (pv 0) (pa_cons (pv 1) (pa_cons (pv 2) (pa_cons (pv 3) pa_nil))))))
      (pss_cons (ps_if (pt_cmpR op_isN (pv 4) pe_non (nomark _)) (pss_one (ps_ret pe_non)) pss_nil)
      (pss_one (ps_ret (pe_ix (kix_tup (K := K)) (pv 4) pe_int (fun _ _ => rfl)))))), ?_⟩
    refine ⟨_, rfl, _, rfl, _, rfl, _, rfl, h, ts, v, d, k, rfl, hh, hd, hk, fun H' f e => ?_, fun H' u bs p l f e hp hl => ?_⟩
    · refine ⟨_, rfl, rfl, _, rfl, ?_⟩
      refine iteT ?_
      have z := kk H' f
      rw [e] at z
      exact z
    · refine ⟨_, rfl, rfl, _, rfl, ?_⟩
      refine iteF ?_
      refine ⟨_, rfl, p, _, _, V.int u, rfl, rfl, SqT.of hp, at_of (j := 0) rfl rfl, ?_⟩
      have z := kk H' f
      rw [e] at z
      exact z
theorem ok_path_in (T : Txt K mg) : Ok P w K mg base 3 (He.fAd K a_path_in) p_path_in (sp_path_in K) := by
  refine ok_by T.F_path_in sc_path_in bi_path_in (fun vs H Q E h => ?_) (fun cdv A outer s H vs Q E hr h => ?_)
  · obtain ⟨h, ts, v, d, k, rfl, _⟩ := h; rfl
  · obtain ⟨h, ts, v, d, k, rfl, hh, hd, hk, kn, ks⟩ := h
    refine ⟨_, (pss_cons (ps_set (i := 4) sc_path_in.nd rfl (Or.inl rfl) (pc_call (ok_way_down T) hr rfl T.g_way_down (pa_cons (pv 0) (pa_cons (pv 1) (pa_cons (pv 2) (pa_cons (pv 3) pa_nil))))))
      (pss_cons (ps_if (pt_cmpR op_isN (pv 4) pe_non (nomark _)) (pss_one (ps_ret pe_non)) pss_nil)
      (pss_one (ps_ret (pe_tup (pa_cons (pe_ix (kix_tup (K := K)) (pv 4) pe_int (fun _ _ => rfl)) (pa_cons (pe_tupRev rfl rfl T.m_tuple rfl T.m_reversed (pe_ix (kix_tup (K := K)) (pv 4) pe_int (fun _ _ => rfl))) pa_nil))))))), ?_⟩
    refine ⟨_, rfl, _, rfl, _, rfl, _, rfl, h, ts, v, d, k, rfl, hh, hd, hk, fun H' f e => ?_, fun H' u bs p l f e hp hl => ?_⟩
    · refine ⟨_, rfl, rfl, _, rfl, ?_⟩
      refine iteT ?_
      exact kn H' f e
    · refine ⟨_, rfl, rfl, _, rfl, ?_⟩
      refine iteF ?_
      refine ⟨_, rfl, p, _, _, V.int u, rfl, rfl, SqT.of hp, at_of (j := 0) rfl rfl, _, rfl, p, _, _, V.ref l, rfl, rfl, SqT.of hp, at_of (j := 1) rfl rfl, l, _, rfl, SqL.of hl, fun q hq => ?_⟩
      refine ⟨(by show 2 ≤ sizeLine; decide), fun p2 hp2 => ?_⟩
      refine ks _ u bs p2 q ((f.new hq).new hp2) e upd_same (upd_old hp2 ?_)
      rw [upd_same, List.map_reverse]
theorem ok_raised (T : Txt K mg) : Ok P w K mg base 3 (He.fAd K a_raised) p_raised (sp_raised K) := by
  refine ok_by T.F_raised sc_raised bi_raised (fun vs H Q E h => ?_) (fun cdv A outer s H vs Q E hr h => ?_)
  · obtain ⟨h, ts, d, k, v, sb, bs, rfl, _⟩ := h; rfl
  · obtain ⟨h, ts, d, k, v, sb, bs, rfl, hh, hsb, hbs, hd, hlen, kk⟩ := h
    obtain ⟨dx, hx⟩ := id hh.ob
    refine ⟨_, (pss_cons (ps_set (i := 5) sc_raised.nd rfl (Or.inl rfl) (pe_lst (pa_cons (pc_meth (ok_House_leaf T) T.cl_House T.me_House_leaf hr (pv 0) (pa_cons (pv 3) pa_nil)) pa_nil)))
      (pss_cons (ps_for PassesOwn.never rfl (pi_range1 (by rfl) T.m_range (pa_cons (pv 1) pa_nil)) (pg_name (i := 6) sc_raised.nd rfl (Or.inl rfl)) (pss_one (ps_if (pt_cmpR op_eq (pe_op op_modN (pe_op op_shr (pv 2) (pv 6)) pe_int) pe_int (nomark _)) (pss_one (ps_expr (kpe_bm (K := K) rfl (pe_bm PySem.F.plainAttrs_list PySem.F.slot_list_append PySem.F.type_list_append mt_append (pv 5) (pa_cons (pc_meth (ok_House_pair T) T.cl_House T.me_House_pair hr (pv 0) (pa_cons (pe_ix (kix_list (K := K)) (pv 5) (pv 6) (fun _ _ => rfl)) (pa_cons (pe_ix (kix_tup (K := K)) (pv 4) (pv 6) (fun _ _ => rfl)) pa_nil))) pa_nil))))) (pss_one (ps_expr (kpe_bm (K := K) rfl (pe_bm PySem.F.plainAttrs_list PySem.F.slot_list_append PySem.F.type_list_append mt_append (pv 5) (pa_cons (pc_meth (ok_House_pair T) T.cl_House T.me_House_pair hr (pv 0) (pa_cons (pe_ix (kix_tup (K := K)) (pv 4) (pv 6) (fun _ _ => rfl)) (pa_cons (pe_ix (kix_list (K := K)) (pv 5) (pv 6) (fun _ _ => rfl)) pa_nil))) pa_nil))))))))
      (pss_one (ps_ret (pv 5))))), ?_⟩
    refine ⟨_, rfl, h.x, dx, _, rfl, hx, zip_none (by decide +kernel), _, rfl, h, ts, v, rfl, hh, by omega, fun H1 hh1 f1 => ?_⟩
    refine ⟨(by show 1 ≤ sizeLine; decide), fun l hl => ?_⟩
    have hl0 : H l = none := f1.dom l hl
    refine ⟨_, rfl, _, rfl, by omega, by omega, ?_⟩
    rw [Int.toNat_natCast]
    refine for_range (lo := 0) (n := d) (fun i σ H2 => ∃ o1, σ = [some (.ref h.x), some (.int (d : Nat)), some (.int (k : Nat)), some (.int v), some (.ref sb), some (.ref l), o1] ∧ Fr [h.d, h.l] H H2 ∧ HouseAt K H2 h (rsN ts k v bs i).1 ∧ H2 l = some (.lst ((rsN ts k v bs i).2.map V.int)))
      ⟨none, rfl, f1.new hl, hh1.same ((Fr.refl [] H1).new hl), upd_same⟩ ?_ ?_
    · rintro i σ H2 hi ⟨o1, rfl, f, hh2, hl2⟩
      rw [Int.zero_add]
      obtain ⟨dy, hy⟩ := id hh2.ob
      have hsb2 := f.tup _ _ hsb
      have hL := rsN_len ts k v bs i
      have hN := rsN_house ts k v bs i
      refine ⟨_, rfl, _, rfl, _, _, rfl, rfl, by show (0 : Int) ≤ (i : Int); omega, _, _, rfl, rfl, by show (2 : Int) ≠ 0; decide, rfl, _, rfl, ?_⟩
      have eb : ((k : Int) / 2 ^ (i : Int).toNat).fmod 2 = ((bitN k i : Nat) : Int) := by rw [Int.toNat_natCast]; exact bitN_int k i
      have eq0 : decide (V.int (((k : Int) / 2 ^ (i : Int).toNat).fmod 2) = V.int 0) = decide (bitN k i = 0) := by
        rw [eb]
        by_cases z : bitN k i = 0
        · rw [z]; rfl
        · rw [decide_eq_false z, decide_eq_false (fun e => z (by injection e with e; exact_mod_cast e))]
      show (if decide (V.int (((k : Int) / 2 ^ (i : Int).toNat).fmod 2) = V.int 0) = true then _ else _)
      rw [eq0]
      have e1 : (rsN ts k v bs i).2[i]? = some ((rsN ts k v bs i).2.getD i 0) := by
        rw [List.getD_eq_getElem?_getD, List.getElem?_eq_getElem (by omega)]; rfl
      have e2 : bs[i]? = some (bs.getD i 0) := by
        rw [List.getD_eq_getElem?_getD, List.getElem?_eq_getElem (by omega)]; rfl
      have m1 : (List.map V.int (rsN ts k v bs i).2)[i]? = some (V.int ((rsN ts k v bs i).2.getD i 0)) := by rw [List.getElem?_map, e1]; rfl
      have m2 : (List.map V.int bs)[i]? = some (V.int (bs.getD i 0)) := by rw [List.getElem?_map, e2]; rfl
      have fin : ∀ (r : List Thing × Int) H3, r = up1 (rsN ts k v bs i).1 k i ((rsN ts k v bs i).2.getD i 0) (bs.getD i 0) → HouseAt K H3 h r.1 → Fr [h.d, h.l] H2 H3 → H3 l = some (.lst ((rsN ts k v bs i).2.map V.int)) →
          Fr [h.d, h.l] H (upd H3 l (.lst ((rsN ts k v bs i).2.map V.int ++ [V.int r.2]))) ∧ HouseAt K (upd H3 l (.lst ((rsN ts k v bs i).2.map V.int ++ [V.int r.2]))) h (rsN ts k v bs (i + 1)).1 ∧ upd H3 l (.lst ((rsN ts k v bs i).2.map V.int ++ [V.int r.2])) l = some (.lst ((rsN ts k v bs (i + 1)).2.map V.int)) := by
        rintro r H3 rfl h3 f3 hl3
        refine ⟨(f.trans f3).mine hl0, ?_, ?_⟩
        · obtain ⟨dz, hz⟩ := id h3.ob
          obtain ⟨as, ha, _⟩ := id h3.lst
          refine (show HouseAt K H3 h (rsN ts k v bs (i + 1)).1 from h3).mono (S := [l]) ((Fr.refl _ H3).set hl3 rfl (by simp)) ?_ ?_ ?_
          · simp only [List.mem_singleton]; exact ne_of hz hl3 nofun
          · simp only [List.mem_singleton]; exact ne_of h3.dct hl3 nofun
          · simp only [List.mem_singleton]
            intro q
            obtain ⟨as0, ha0, _⟩ := id hh.lst
            exact ne_of_none ha0 hl0 q
        · rw [upd_same]
          show some (HO.lst _) = some (HO.lst (((rsN ts k v bs i).2 ++ [_]).map V.int))
          rw [List.map_append]
          rfl
      have lnl : l ≠ h.l := by
        obtain ⟨as0, ha0, _⟩ := id hh.lst
        exact (ne_of_none ha0 hl0).symm
      have lnd : l ≠ h.d := (ne_of_none hh.dct hl0).symm
      have small : (rsN ts k v bs i).2.length < sizeLine := by rw [hL]; show i + 1 < 16777216; omega
      by_cases z : bitN k i = 0
      · rw [if_pos (decide_eq_true z)]
        have ez : up1 (rsN ts k v bs i).1 k i ((rsN ts k v bs i).2.getD i 0) (bs.getD i 0) = (addT (rsN ts k v bs i).1 (.pair ((rsN ts k v bs i).2.getD i 0) (bs.getD i 0)), numT (rsN ts k v bs i).1 (.pair ((rsN ts k v bs i).2.getD i 0) (bs.getD i 0))) := by unfold up1; rw [if_pos z]
        refine ⟨_, rfl, .inl ⟨rfl, _, SqL.of hl2⟩, ?_⟩
        refine ⟨_, rfl, h.x, dy, _, rfl, hy, zip_none (by decide +kernel), _, rfl, _, rfl, l, _, _, _, rfl, rfl, SqL.of hl2, at_of (j := i) rfl m1, _, rfl, _, rfl, sb, _, _, _, rfl, rfl, SqT.of hsb2, at_of (j := i) rfl m2, h, _, _, _, rfl, hh2, by omega, fun H3 h3 f3 => ?_⟩
        have hl3 := f3.keep _ _ hl2 (by simp [lnl, lnd])
        refine ⟨l, _, _, rfl, rfl, hl3, by rw [List.length_map]; exact small, ?_⟩
        exact ⟨_, rfl, fin (_, _) H3 ez.symm h3 f3 hl3⟩
      · rw [if_neg (by rw [decide_eq_false z]; exact Bool.false_ne_true)]
        have ez : up1 (rsN ts k v bs i).1 k i ((rsN ts k v bs i).2.getD i 0) (bs.getD i 0) = (addT (rsN ts k v bs i).1 (.pair (bs.getD i 0) ((rsN ts k v bs i).2.getD i 0)), numT (rsN ts k v bs i).1 (.pair (bs.getD i 0) ((rsN ts k v bs i).2.getD i 0))) := by unfold up1; rw [if_neg z]
        refine ⟨_, rfl, .inl ⟨rfl, _, SqL.of hl2⟩, ?_⟩
        refine ⟨_, rfl, h.x, dy, _, rfl, hy, zip_none (by decide +kernel), _, rfl, _, rfl, sb, _, _, _, rfl, rfl, SqT.of hsb2, at_of (j := i) rfl m2, _, rfl, _, rfl, l, _, _, _, rfl, rfl, SqL.of hl2, at_of (j := i) rfl m1, h, _, _, _, rfl, hh2, by omega, fun H3 h3 f3 => ?_⟩
        have hl3 := f3.keep _ _ hl2 (by simp [lnl, lnd])
        refine ⟨l, _, _, rfl, rfl, hl3, by rw [List.length_map]; exact small, ?_⟩
        exact ⟨_, rfl, fin (_, _) H3 ez.symm h3 f3 hl3⟩
    · rintro σ H2 ⟨o1, rfl, f, hh2, hl2⟩
      exact ⟨_, rfl, kk H2 l hh2 f hl0 hl2⟩
theorem ok_put_in (T : Txt K mg) : Ok P w K mg base 4 (He.fAd K a_put_in) p_put_in (sp_put_in K) := by
  refine ok_by T.F_put_in sc_put_in bi_put_in (fun vs H Q E h => ?_) (fun cdv A outer s H vs Q E hr h => ?_)
  · obtain ⟨h, ts, v, d, k, u, rfl, _⟩ := h; rfl
  · obtain ⟨h, ts, v, d, k, u, rfl, hh, hd, hk, hlen, kn, ks⟩ := h
    refine ⟨_, (pss_cons (ps_set (i := 5) sc_put_in.nd rfl (Or.inl rfl) (pc_call (ok_path_in T) hr rfl T.g_path_in (pa_cons (pv 0) (pa_cons (pv 1) (pa_cons (pv 2) (pa_cons (pv 3) pa_nil))))))
      (pss_cons (ps_if (pt_cmpR op_isN (pv 5) pe_non (nomark _)) (pss_one (ps_ret pe_non)) pss_nil)
      (pss_one (ps_ret (pe_ix (kix_list (K := K)) (pc_call (ok_raised T) hr rfl T.g_raised (pa_cons (pv 0) (pa_cons (pv 2) (pa_cons (pv 3) (pa_cons (pv 4) (pa_cons (pe_ix (kix_tup (K := K)) (pv 5) pe_int (fun _ _ => rfl)) pa_nil)))))) (pv 2) (fun _ _ => rfl)))))), ?_⟩
    refine ⟨_, rfl, _, rfl, _, rfl, _, rfl, h, ts, v, d, k, rfl, hh, hd, hk, fun H1 f e => ?_, fun H1 x bs p l f e hp hl => ?_⟩
    · refine ⟨_, rfl, rfl, _, rfl, ?_⟩
      refine iteT ?_
      exact kn H1 f e
    · refine ⟨_, rfl, rfl, _, rfl, ?_⟩
      refine iteF ?_
      have hb := dn_len ts k d v x bs e
      refine ⟨_, rfl, _, rfl, _, rfl, _, rfl, _, rfl, p, _, _, V.ref l, rfl, rfl, SqT.of hp, at_of (j := 1) rfl rfl, h, ts, d, k, u, l, bs.reverse, rfl, hh.same f, hl, by rw [List.length_reverse]; exact hb, hd, hlen, fun H2 l2 h2 f2 n2 hl2 => ?_⟩
      refine ⟨_, rfl, l2, _, _, V.int ((rsN ts k u bs.reverse d).2.getD d 0), rfl, rfl, SqL.of hl2, at_of (j := d) rfl ?_, ?_⟩
      · rw [List.getElem?_map, List.getD_eq_getElem?_getD, List.getElem?_eq_getElem (by rw [rsN_len]; omega)]; rfl
      · exact ks H2 x bs (f.nil.trans f2) e h2
end
end Ct

set_option Elab.async false
set_option linter.all false
set_option maxRecDepth 100000
set_option maxHeartbeats 4000000
namespace Ct
open PySem PySem.Spec PyProof.Rows L2 RT

/-! ### opened paths -/
theorem is_thing {H : Hp} {a : Addr} {t : Thing} (h : H a = some (.tup (thV t))) : Is H (.ref a) (thD t) := by
  cases t with
  | leaf w =>
    refine .tup h rfl fun i x d h1 h2 => ?_
    match i, h1, h2 with
    | 0, h1, h2 => cases h1; cases h2; exact .str _
    | 1, h1, h2 => cases h1; cases h2; exact .int _
    | i + 2, h1, h2 => simp [thV] at h1
  | pair a b =>
    refine .tup h rfl fun i x d h1 h2 => ?_
    match i, h1, h2 with
    | 0, h1, h2 => cases h1; cases h2; exact .str _
    | 1, h1, h2 => cases h1; cases h2; exact .int _
    | 2, h1, h2 => cases h1; cases h2; exact .int _
    | i + 3, h1, h2 => simp [thV] at h1
theorem thD_fit (t : Thing) : (thD t).canLay0 = true ∧ (thD t).depth ≤ 63 := by
  cases t with
  | leaf w => exact ⟨by show (PyData.strOk "leaf" && true) = true; decide +kernel, by show 0 + 1 ≤ 63; decide⟩
  | pair a b => exact ⟨by show (PyData.strOk "pair" && (true && true)) = true; decide +kernel, by show 0 + 1 ≤ 63; decide⟩
def opD (ts : List Thing) (s : Int) : PyData := match opn ts s with
  | none => .none
  | some t => thD t
theorem opD_fit (ts : List Thing) (s : Int) : (opD ts s).canLay0 = true ∧ (opD ts s).depth ≤ 63 := by
  unfold opD
  split
  · exact ⟨rfl, Nat.zero_le _⟩
  · exact thD_fit _
theorem opD_none (ts : List Thing) (s : Int) : PyData.eqv (opD ts s) .none = (opn ts s).isNone := by
  unfold opD
  cases opn ts s with
  | none => rfl
  | some t => cases t <;> rfl
structure Pth where
  k : Nat
  w : Int
  bs : List Int
def PthAt (H : Hp) (a : Addr) (p : Pth) : Prop := ∃ sb, H a = some (.tup [.int (p.k : Nat), .int p.w, .ref sb]) ∧ H sb = some (.tup (p.bs.map V.int))
theorem PthAt.mono {S : List Addr} {H H' : Hp} {a : Addr} {p : Pth} (f : Fr S H H') (h : PthAt H a p) : PthAt H' a p := let ⟨sb, h1, h2⟩ := h; ⟨sb, f.tup _ _ h1, f.tup _ _ h2⟩
/-- a tuple of paths -/
def PthsAt (H : Hp) (a : Addr) (ps : List Pth) : Prop := ∃ as : List Addr, H a = some (.tup (as.map V.ref)) ∧ as.length = ps.length ∧ ∀ (i : Nat) b p, as[i]? = some b → ps[i]? = some p → PthAt H b p
theorem PthsAt.mono {S : List Addr} {H H' : Hp} {a : Addr} {ps : List Pth} (f : Fr S H H') (h : PthsAt H a ps) : PthsAt H' a ps :=
  let ⟨as, h1, h2, h3⟩ := h; ⟨as, f.tup _ _ h1, h2, fun i b p e1 e2 => (h3 i b p e1 e2).mono f⟩
def pOk (ts : List Thing) (d : Nat) (met : List Nat) (p : Pth) : Bool := decide (p.k < 2 ^ d) && (!decide (p.k ∈ met) && (decide (0 ≤ p.w ∧ p.w < 4294967296) && (decide (p.bs.length = d) && !p.bs.any fun b => (opn ts b).isNone)))
def hform (ts : List Thing) (d : Nat) : List Pth → List Nat → Bool
  | [], met => decide (0 < met.length)
  | p :: ps, met => pOk ts d met p && hform ts d ps (met ++ [p.k])
def sp_is_word : Sp := fun vs H Q _ => ∃ i : Int, vs = [.int i] ∧ Q (.bl (decide (0 ≤ i ∧ i < 4294967296))) H
def sp_have_form (K : PySem.W.Frag) : Sp := fun vs H Q _ => ∃ (h : HA) (ts : List Thing) (d : Nat) (a : Addr) (ps : List Pth), vs = [.ref h.x, .int (d : Nat), .ref a] ∧ HouseAt K H h ts ∧ d ≤ 1000 ∧ PthsAt H a ps ∧ ps.length ≤ 1000 ∧ (∀ p ∈ ps, p.bs.length ≤ 10000) ∧
  ∀ H', Fr [] H H' → Q (.bl (hform ts d ps [])) H'
section
variable {P : Program} {w : World} {K : PySem.W.Frag} {mg : Str → Option Value} {base : Heap}
theorem ok_is_word (T : Txt K mg) : Ok P w K mg base 1 (He.fAd K a_is_word) p_is_word sp_is_word := by
  refine ok_by T.F_is_word sc_is_word bi_is_word (fun vs H Q E h => ?_) (fun cdv A outer s H vs Q E hr h => ?_)
  · obtain ⟨i, rfl, _⟩ := h; rfl
  · obtain ⟨i, rfl, k⟩ := h
    refine ⟨_, (pss_one (ps_ret (pe_and (pe_callB (kcall_isi (K := K)) (by rfl) T.m_isinstance (by decide +kernel) (pa_cons (pv 0) (pa_cons (pe_bltn (v := .ty "int") rfl T.m_int (by decide +kernel) rfl) pa_nil))) (pe_and (pe_not (pe_callB (kcall_isi (K := K)) (by rfl) T.m_isinstance (by decide +kernel) (pa_cons (pv 0) (pa_cons (pe_bltn (v := .ty "bool") rfl T.m_bool (by decide +kernel) rfl) pa_nil)))) (pe_one (pe_chain op_le op_lt pe_int (pv 0) (pe_glob (v := .int 4294967296) rfl T.v_WIDE.choose_spec ⟨_, rfl⟩))))))), ?_⟩
    refine ⟨_, rfl, _, _, _, _, _, rfl, .ty _, .base (.int i), kit_ii, true, rfl, ?_⟩
    refine iteT ?_
    refine ⟨_, rfl, _, _, _, _, _, rfl, .ty _, .base (.int i), kit_ib, false, rfl, true, rfl, ?_⟩
    refine iteT ?_
    refine ⟨_, rfl, _, _, rfl, rfl, _, rfl, ?_⟩
    by_cases h0 : 0 ≤ i
    · rw [if_pos (decide_eq_true h0)]
      refine ⟨_, _, rfl, rfl, ?_⟩
      have e : decide (0 ≤ i ∧ i < 4294967296) = decide (i < 4294967296) := by simp [h0]
      rw [e] at k
      exact k
    · rw [if_neg (by rw [decide_eq_false h0]; exact Bool.false_ne_true)]
      have e : decide (0 ≤ i ∧ i < 4294967296) = false := by simp [h0]
      rw [e] at k
      exact k
theorem ok_have_form (T : Txt K mg) : Ok P w K mg base 2 (He.fAd K a_have_form) p_have_form (sp_have_form K) := by
  refine ok_by T.F_have_form sc_have_form bi_have_form (fun vs H Q E h => ?_) (fun cdv A outer s H vs Q E hr h => ?_)
  · obtain ⟨h, ts, d, a, ps, rfl, _⟩ := h; rfl
  · obtain ⟨h, ts, d, a, ps, rfl, hh, hd, hp, hpl, hbl, kk⟩ := h
    have pow : (1 : Int) * 2 ^ ((d : Int).toNat) = ((2 ^ d : Nat) : Int) := by rw [Int.one_mul, Int.toNat_natCast]; push_cast; rfl
    obtain ⟨as, ha, hal, hat⟩ := id hp
    refine ⟨_, (pss_cons (ps_set (i := 3) sc_have_form.nd rfl (Or.inl rfl) (pe_lst pa_nil))
      (pss_cons (ps_for PassesOwn.never rfl (kpi_tup (K := K) (pv 2)) (pg_tup rfl (pgs_cons (pg_name (i := 4) sc_have_form.nd rfl (Or.inl rfl)) (pgs_cons (pg_name (i := 5) sc_have_form.nd rfl (Or.inl rfl)) (pgs_cons (pg_name (i := 6) sc_have_form.nd rfl (Or.inl rfl)) pgs_nil)))) (pss_cons (ps_if (PW.pt (pw_or (pt_not (pt_chain op_le op_lt pe_int (pv 4) (pe_op op_shl pe_int (pv 1)))) (pw_or (pt_cmpR (kop_in (K := K)) (pv 4) (pv 3) (by rfl)) (pw_or (pt_not (pt_val (pc_call (ok_is_word T) hr rfl T.g_is_word (pa_cons (pv 5) pa_nil)))) (pw_or1 (pt_cmpR op_ne (pe_callB (kcall_len (K := K)) (by rfl) T.m_len (by decide +kernel) (pa_cons (pv 6) pa_nil)) (pv 1) (nomark _))))))) (pss_one (ps_ret pe_bl)) pss_nil)
      (pss_cons (ps_if (pt_cmpR (kop_inD (K := K) (hu65 hr)) pe_non (pe_lc (own := [("seal", 7)]) rfl sc_have_form.nd (kpi_tup (K := K) (pv 6)) (blkOk_by (own := [("seal", 7)]) (N := n_have_form) (sc := defScope s_have_form) (by decide +kernel)) (fun _ _ _ _ _ => (pg_name (i := 7) sc_have_form.nd rfl (Or.inl rfl))) (fun _ _ _ _ _ => pts_nil) (fun _ _ _ _ _ => (pc_meth (ok_House_opened T) T.cl_House T.me_House_opened hr (pv 0) (pa_cons (pv 7) pa_nil)))) rfl) (pss_one (ps_ret pe_bl)) pss_nil)
      (pss_one (ps_expr (kpe_bm (K := K) rfl (pe_bm PySem.F.plainAttrs_list PySem.F.slot_list_append PySem.F.type_list_append mt_append (pv 3) (pa_cons (pv 4) pa_nil))))))))
      (pss_one (ps_ret (pe_cmpR op_gt (pe_callB (kcall_len (K := K)) (by rfl) T.m_len (by decide +kernel) (pa_cons (pv 3) pa_nil)) pe_int (nomark _)))))), ?_⟩
    refine ⟨(by show 0 ≤ sizeLine; decide), fun l hl => ?_⟩
    have ha1 := (upd_old (o := .lst []) hl ha)
    refine ⟨_, rfl, a, rfl, ⟨_, SqT.of ha1⟩, for_tup (K := K) (a := a) (xs := as.map V.ref) (fun i σ H2 => ∃ (met : List Nat) (o1 o2 o3 o4 : Option V), σ = [some (.ref h.x), some (.int (d : Nat)), some (.ref a), some (.ref l), o1, o2, o3, o4] ∧ Fr [] H H2 ∧ H2 l = some (.lst (met.map fun (n : Nat) => V.int n)) ∧ met.length = i ∧ hform ts d ps [] = hform ts d (ps.drop i) met)
      ⟨[], none, none, none, none, rfl, (Fr.refl _ H).new hl, upd_same, rfl, rfl⟩ (fun i σ H2 _ ⟨_, _, _, _, _, _, f, _⟩ => SqT.of (f.tup _ _ ha)) ?_ ?_⟩
    · rintro i y σ H2 hi ⟨met, o1, o2, o3, o4, rfl, f, hl2, hml, eq⟩
      obtain ⟨b, hb, rfl⟩ : ∃ b, as[i]? = some b ∧ y = V.ref b := by
        rw [List.getElem?_map] at hi
        cases e : as[i]? with
        | none => rw [e] at hi; cases hi
        | some c => rw [e] at hi; exact ⟨c, rfl, (Option.some.inj hi).symm⟩
      have hil : i < ps.length := by rw [← hal]; exact (List.getElem?_eq_some_iff.mp hb).1
      obtain ⟨p, hpi⟩ : ∃ p, ps[i]? = some p := ⟨ps[i], List.getElem?_eq_getElem hil⟩
      have hdrop : ps.drop i = p :: ps.drop (i + 1) := by
        rw [List.drop_eq_getElem_cons hil]
        rw [List.getElem?_eq_getElem hil] at hpi
        rw [Option.some.inj hpi]
      rw [hdrop] at eq
      obtain ⟨sb, hb1, hb2⟩ := (hat i b p hb hpi).mono f
      have hps := hbl p (List.mem_of_getElem? hpi)
      refine ⟨b, _, rfl, SqT.of hb1, rfl, _, _, rfl, _, _, rfl, _, _, rfl, rfl, ?_⟩
      -- the place
      refine ⟨_, rfl, _, _, rfl, rfl, _, rfl, ?_⟩
      rw [if_pos (decide_eq_true (Int.natCast_nonneg p.k))]
      refine ⟨_, rfl, _, _, rfl, rfl, ⟨by omega, by omega, by decide⟩, _, _, rfl, rfl, _, rfl, ?_⟩
      rw [pow]
      by_cases c1 : p.k < 2 ^ d
      · rw [decide_eq_true (show (p.k : Int) < ((2 ^ d : Nat) : Int) by exact_mod_cast c1)]
        refine iteF ?_
        -- met
        refine ⟨_, rfl, _, rfl, l, _, rfl, .inl (SqL.of hl2), rfl, by rw [List.all_map]; exact List.all_eq_true.mpr fun _ _ => rfl, _, rfl, ?_⟩
        have em : inV (V.int (p.k : Nat)) (met.map fun (n : Nat) => V.int n) = decide (p.k ∈ met) := by
          unfold inV
          rw [List.any_map, Bool.eq_iff_iff, List.any_eq_true, decide_eq_true_eq]
          constructor
          · rintro ⟨n, hn, e⟩
            have e' : ((n : Int) == (p.k : Int)) = true := e
            have e2 : (n : Int) = (p.k : Int) := eq_of_beq e'
            have e3 : n = p.k := by exact_mod_cast e2
            rw [← e3]; exact hn
          · intro hn
            exact ⟨p.k, hn, by show (((p.k : Int)) == (p.k : Int)) = true; exact beq_self_eq_true _⟩
        show (if inV (V.int (p.k : Nat)) (met.map fun (n : Nat) => V.int n) = true then _ else _)
        rw [em]
        by_cases c2 : p.k ∈ met
        · rw [if_pos (decide_eq_true c2)]
          refine iteT ?_
          have e0 : hform ts d ps [] = false := by rw [eq]; show (pOk ts d met p && _) = false; unfold pOk; simp [c2]
          have z := kk H2 f
          rw [e0] at z
          exact z
        · rw [if_neg (by simp [c2])]
          -- a word, a length
          refine ⟨_, rfl, p.w, rfl, _, rfl, ?_⟩
          by_cases c3 : 0 ≤ p.w ∧ p.w < 4294967296
          · rw [decide_eq_true c3]
            refine iteF ?_
            refine ⟨_, rfl, sb, _, rfl, .inr (SqT.of hb2), _, rfl, ?_⟩
            show (scal (V.int ((p.bs.map V.int).length : Nat)) (V.int (d : Nat)) = true ∧ _)
            refine ⟨rfl, _, rfl, ?_⟩
            rw [List.length_map]
            by_cases c4 : p.bs.length = d
            · have e4 : decide (V.int ((p.bs.length : Nat) : Int) = V.int ((d : Nat) : Int)) = true := by rw [c4]; exact decide_eq_true rfl
              rw [e4]
              refine iteF ?_
              -- what the siblings open to
              refine ⟨_, rfl, sb, rfl, ⟨_, SqT.of hb2⟩, fun D hD => ?_⟩
              refine lc_tup (K := K) (a := sb) (xs := p.bs.map V.int) (fun j H3 => Fr [] H H3 ∧ H2 D = none ∧ Fr [] H2 H3 ∧ ∃ acc : List V, H3 D = some (.lst acc) ∧ acc.length = j ∧ ∀ (q : Nat) x s', acc[q]? = some x → p.bs[q]? = some s' → Is H3 x (opD ts s'))
                ⟨f.new hD, hD, (Fr.refl _ H2).new hD, [], upd_same, rfl, fun q x s' e => by simp at e⟩ (fun j H3 _ ⟨_, _, f3, _⟩ => SqT.of (f3.tup _ _ hb2)) ?_ ?_
              · rintro j y H3 hy ⟨f3, hD2, f23, acc, hacc, hal3, hat3⟩
                obtain ⟨s1, hs1, rfl⟩ : ∃ s1, p.bs[j]? = some s1 ∧ y = V.int s1 := by
                  rw [List.getElem?_map] at hy
                  cases e : p.bs[j]? with
                  | none => rw [e] at hy; cases hy
                  | some c => rw [e] at hy; exact ⟨c, rfl, (Option.some.inj hy).symm⟩
                have hj := (List.getElem?_eq_some_iff.mp hs1).1
                refine ⟨rfl, ?_⟩
                refine yesT ?_
                have hh3 := hh.same f3
                obtain ⟨dx, hx⟩ := id hh3.ob
                have fin : ∀ x : V, Is H3 x (opD ts s1) → ∃ acc', H3 D = some (.lst acc') ∧ acc'.length < sizeLine ∧ (Fr [] H (upd H3 D (.lst (acc' ++ [x]))) ∧ H2 D = none ∧ Fr [] H2 (upd H3 D (.lst (acc' ++ [x]))) ∧ ∃ acc2 : List V, upd H3 D (.lst (acc' ++ [x])) D = some (.lst acc2) ∧ acc2.length = j + 1 ∧ ∀ (q : Nat) x' s', acc2[q]? = some x' → p.bs[q]? = some s' → Is (upd H3 D (.lst (acc' ++ [x]))) x' (opD ts s')) := by
                  intro x hx'
                  have fd : Fr [D] H3 (upd H3 D (.lst (acc ++ [x]))) := (Fr.refl _ H3).set hacc rfl (by simp)
                  refine ⟨acc, hacc, by rw [hal3]; show j < 16777216; omega, f3.mine (f.dom D hD2), hD2, f23.mine hD2, acc ++ [x], upd_same, by simp [hal3], fun q x' s' e1 e2 => ?_⟩
                  by_cases hq : q < acc.length
                  · rw [List.getElem?_append_left hq] at e1
                    exact (hat3 q x' s' e1 e2).mono fd
                  · rw [List.getElem?_append_right (by omega)] at e1
                    have z : q - acc.length = 0 := by
                      have := (List.getElem?_eq_some_iff.mp e1).1
                      simp at this; omega
                    rw [z] at e1
                    have e3 : x = x' := Option.some.inj e1
                    have e4 : q = j := by omega
                    rw [e4, hs1] at e2
                    rw [← e3, ← Option.some.inj e2]
                    exact hx'.mono fd
                refine ⟨_, rfl, h.x, dx, _, rfl, hx, zip_none (by decide +kernel), _, rfl, h, ts, s1, rfl, hh3, fun e => ?_, fun t c e hc => ?_⟩
                · exact fin _ (by unfold opD; rw [e]; exact .non)
                · exact fin _ (by unfold opD; rw [e]; exact is_thing hc)
              · rintro H3 ⟨f3, hD2, f23, acc, hacc, hal3, hat3⟩
                rw [List.length_map] at hal3
                have hdl : acc.length = (p.bs.map (opD ts)).length := by rw [hal3, List.length_map]
                refine ⟨_, _, .non, dpl (SqL.of hacc) hdl (fun q x d' e1 e2 => ?_), rfl, shaped_list (fun d' hd' => ?_), _, rfl, ?_⟩
                · rw [List.getElem?_map] at e2
                  cases e : p.bs[q]? with
                  | none => rw [e] at e2; cases e2
                  | some s' => rw [e] at e2; cases e2; exact hat3 q x s' e1 e
                · obtain ⟨s', _, rfl⟩ := List.mem_map.mp hd'
                  exact opD_fit ts s'
                · have ea : ((p.bs.map (opD ts)).any fun z => PyData.eqv z .none) = p.bs.any fun b => (opn ts b).isNone := by
                    rw [List.any_map]
                    congr 1
                    funext b
                    exact opD_none ts b
                  rw [ea]
                  have hl3 := f23.keep _ _ hl2 (by simp)
                  cases c5 : p.bs.any fun b => (opn ts b).isNone with
                  | true =>
                    refine iteT ?_
                    have e0 : hform ts d ps [] = false := by rw [eq]; show (pOk ts d met p && _) = false; unfold pOk; rw [c5]; simp
                    have z := kk H3 f3
                    rw [e0] at z
                    exact z
                  | false =>
                    refine iteF ?_
                    refine ⟨_, rfl, .inl ⟨rfl, _, SqL.of hl3⟩, _, rfl, l, _, _, rfl, rfl, hl3, by rw [List.length_map, hml]; show i < 16777216; omega, ?_⟩
                    refine ⟨met ++ [p.k], _, _, _, _, rfl, f3.mine hl, ?_, by simp [hml], ?_⟩
                    · rw [upd_same, List.map_append]; rfl
                    · rw [eq]
                      show (pOk ts d met p && hform ts d (ps.drop (i + 1)) (met ++ [p.k])) = _
                      have e1 : pOk ts d met p = true := by unfold pOk; rw [c5]; simp [c1, c2, c3.1, c3.2, c4]
                      rw [e1, Bool.true_and]
            · have e4 : decide (V.int ((p.bs.length : Nat) : Int) = V.int ((d : Nat) : Int)) = false := decide_eq_false fun z => c4 (by injection z with z; exact_mod_cast z)
              rw [e4]
              refine iteT ?_
              have e0 : hform ts d ps [] = false := by rw [eq]; show (pOk ts d met p && _) = false; unfold pOk; simp [c4]
              have z := kk H2 f
              rw [e0] at z
              exact z
          · rw [decide_eq_false c3]
            refine iteT ?_
            refine iteT ?_
            have e0 : hform ts d ps [] = false := by rw [eq]; show (pOk ts d met p && _) = false; unfold pOk; rw [decide_eq_false c3]; simp
            have z := kk H2 f
            rw [e0] at z
            exact z
      · rw [decide_eq_false (show ¬ (p.k : Int) < ((2 ^ d : Nat) : Int) by exact_mod_cast c1)]
        refine iteT ?_
        refine iteT ?_
        have e0 : hform ts d ps [] = false := by rw [eq]; show (pOk ts d met p && _) = false; unfold pOk; rw [decide_eq_false c1]; simp
        have z := kk H2 f
        rw [e0] at z
        exact z
    · rintro σ H2 ⟨met, o1, o2, o3, o4, rfl, f, hl2, hml, eq⟩
      refine ⟨_, rfl, l, _, rfl, .inl (SqL.of hl2), _, _, rfl, rfl, ?_⟩
      have z := kk H2 f
      have e0 : ps.drop (as.map V.ref).length = [] := by rw [List.length_map, hal]; exact List.drop_length
      rw [eq, e0] at z
      have e1 : decide ((0 : Int) < ((met.map fun (n : Nat) => V.int n).length : Nat)) = decide (0 < met.length) := by
        rw [List.length_map]
        by_cases c : 0 < met.length
        · rw [decide_eq_true c, decide_eq_true (by omega)]
        · rw [decide_eq_false c, decide_eq_false (by omega)]
      show Q (V.bl (decide ((0 : Int) < ((met.map fun (n : Nat) => V.int n).length : Nat)))) H2
      rw [e1]
      exact z
end
end Ct

set_option Elab.async false
set_option linter.all false
set_option maxRecDepth 100000
set_option maxHeartbeats 4000000
namespace Ct
open PySem PySem.Spec PyProof.Rows L2 RT

/-! ### the deal: a dict with a list in it -/
abbrev dlN : List Key := [.inr "seed", .inr "number", .inr "left"]
theorem dlN_nd : dlN.Nodup := by decide +kernel
abbrev dlT (s n : Int) (l : Addr) : List (Key × V) := dlN.zip [.int s, .int n, .ref l]
structure DealIn (H : Hp) (d l : Addr) (s n : Int) (ns : List Int) : Prop where
  dct : H d = some (.dK (dlT s n l))
  lst : H l = some (.lst (ns.map V.int))
  s0 : 0 ≤ s
  s1 : s < 2147483647
  n0 : 0 ≤ n
  ns0 : ∀ x ∈ ns, 0 ≤ x
def DealAt (H : Hp) (d l : Addr) : Prop := ∃ s n ns, DealIn H d l s n ns
theorem DealIn.dl {H : Hp} {d l : Addr} {s n : Int} {ns : List Int} (a : DealIn H d l s n ns) : d ≠ l := ne_of a.dct a.lst nofun
theorem DealAt.dl {H : Hp} {d l : Addr} (a : DealAt H d l) : d ≠ l := let ⟨_, _, _, b⟩ := a; b.dl
theorem DealAt.mono {S : List Addr} {H H' : Hp} {d l : Addr} (f : Fr S H H') (a : DealAt H d l) (hd : d ∉ S) (hl : l ∉ S) : DealAt H' d l :=
  let ⟨s, n, ns, b⟩ := a; ⟨s, n, ns, f.keep _ _ b.dct hd, f.keep _ _ b.lst hl, b.s0, b.s1, b.n0, b.ns0⟩
theorem DealAt.same {H H' : Hp} {d l : Addr} (f : Fr [] H H') (a : DealAt H d l) : DealAt H' d l := a.mono f (by simp) (by simp)
def sp_law_draw : Sp := fun vs H Q _ => ∃ (d l : Addr) (m : Int), vs = [.ref d, .int m] ∧ DealAt H d l ∧ 1 ≤ m ∧ m < 2 ^ 63 ∧ ∀ v H', 0 ≤ v → v < m → DealAt H' d l → Fr [d, l] H H' → Q (.int v) H'
def sp_law_deal (K : PySem.W.Frag) : Sp := fun vs H Q _ => ∃ (a : Addr) (ns : List Int), vs = [.ref a, .int 0] ∧ SqL K H a (ns.map V.int) ∧ ns.length ≤ 63 ∧ ∀ d l H', DealAt H' d l → Fr [] H H' → H d = none → H l = none → Q (.ref d) H'
theorem lk_seed {H : Hp} {d l : Addr} {s n : Int} (h : H d = some (.dK (dlT s n l))) : DGet H d (.str "seed") (some (.int s)) := key_str h (valZ (i := 0) dlN_nd rfl rfl)
theorem lk_number {H : Hp} {d l : Addr} {s n : Int} (h : H d = some (.dK (dlT s n l))) : DGet H d (.str "number") (some (.int n)) := key_str h (valZ (i := 1) dlN_nd rfl rfl)
theorem lk_left {H : Hp} {d l : Addr} {s n : Int} (h : H d = some (.dK (dlT s n l))) : DGet H d (.str "left") (some (.ref l)) := key_str h (valZ (i := 2) dlN_nd rfl rfl)
theorem st_seed {H : Hp} {d l : Addr} {s n v : Int} (h : H d = some (.dK (dlT s n l))) : DPut H d (.str "seed") (.int v) (upd H d (.dK (dlT v n l))) := put_str h (by show 3 < 16777216; decide) (putZ (i := 0) dlN_nd rfl (by show 0 < 3; decide))
theorem st_number {H : Hp} {d l : Addr} {s n v : Int} (h : H d = some (.dK (dlT s n l))) : DPut H d (.str "number") (.int v) (upd H d (.dK (dlT s v l))) := put_str h (by show 3 < 16777216; decide) (putZ (i := 1) dlN_nd rfl (by show 1 < 3; decide))
theorem fmod_lo (x : Int) {m : Int} (h : 0 < m) : 0 ≤ x.fmod m := by rw [Int.fmod_eq_emod_of_nonneg _ (Int.le_of_lt h)]; exact Int.emod_nonneg _ (by omega)
theorem fmod_hi (x : Int) {m : Int} (h : 0 < m) : x.fmod m < m := by rw [Int.fmod_eq_emod_of_nonneg _ (Int.le_of_lt h)]; exact Int.emod_lt_of_pos _ h
theorem log63 {m : Int} (h0 : 1 ≤ m) (h : m < 2 ^ 63) : m.natAbs.log2 < 9000 := by
  have h1 : m.natAbs < 2 ^ 63 := by omega
  have h2 : m.natAbs ≠ 0 := by omega
  have := (Nat.log2_lt h2).mpr h1
  omega
section
variable {P : Program} {w : World} {K : PySem.W.Frag} {mg : Str → Option Value} {base : Heap}
theorem ok_law_draw (T : Txt K mg) : Ok P w K mg base 1 (He.fAd K a_law_draw) p_law_draw sp_law_draw := by
  refine ok_by T.F_law_draw sc_law_draw bi_law_draw (fun vs H Q E h => ?_) (fun cdv A outer s H vs Q E hr h => ?_)
  · obtain ⟨d, l, m, rfl, _⟩ := h; rfl
  · obtain ⟨d, l, m, rfl, ⟨s0, n0, ns0, D⟩, hm1, hm2, k⟩ := h
    have hu := hu_of hr
    have dl := D.dl
    refine ⟨_, (Evl.pss_cut (ps_while PassesOwn.never (PW.pt (pw_and (pt_cmpR op_eq (pe_dget hu (pv 0) pe_str (fun _ _ => rfl)) pe_int (nomark _)) (pw_and1 (pt_cmpR op_gt (pe_callB (kcall_len (K := K)) (by rfl) T.m_len (by decide +kernel) (pa_cons (pe_dget hu (pv 0) pe_str (fun _ _ => rfl)) pa_nil)) pe_int (nomark _))))) (pss_one (ps_dput hu (pv 0) pe_str (pe_bm0 PySem.F.plainAttrs_list PySem.F.slot_list_pop PySem.F.type_list_pop mt_pop (pe_dget hu (pv 0) pe_str (fun _ _ => rfl))) rfl)))
      (pss_cons (ps_set (i := 2) sc_law_draw.nd rfl (Or.inl rfl) (pe_dget hu (pv 0) pe_str (fun _ _ => rfl)))
      (pss_cons (ps_if (pt_cmpR op_gt (pv 2) pe_int (nomark _)) (pss_cons (ps_dput hu (pv 0) pe_str (pe_op op_fdivW (pv 2) (pv 1)) rfl)
      (pss_one (ps_ret (pe_op op_modN (pv 2) (pv 1))))) pss_nil)
      (pss_cons (ps_set (i := 3) sc_law_draw.nd rfl (Or.inl rfl) (pe_op op_modN (pe_op op_add (pe_op op_mul (pe_dget hu (pv 0) pe_str (fun _ _ => rfl)) pe_int) pe_int) pe_int))
      (pss_cons (ps_dput hu (pv 0) pe_str (pe_op op_modN (pe_op op_add (pe_op op_mul (pv 3) pe_int) pe_int) pe_int) rfl)
      (pss_cons (ps_set (i := 4) sc_law_draw.nd rfl (Or.inl rfl) (pe_op op_modN (pe_op op_mul (pe_dget hu (pv 0) pe_str (fun _ _ => rfl)) (pe_dget hu (pv 0) pe_str (fun _ _ => rfl))) pe_int))
      (pss_one (ps_ret (pe_op op_modN (pe_op op_add (pe_op op_mul (pe_op op_modN (pe_op op_mul (pv 3) (pv 3)) pe_int) pe_int) (pv 4)) (pv 1)))))))))), ?_⟩
    -- the while: what stands behind it
    refine ⟨fun σ H2 => σ = [some (.ref d), some (.int m), none, none, none] ∧ Fr [d, l] H H2 ∧ ∃ n ns, DealIn H2 d l s0 n ns, ?_, ?_⟩
    · refine ⟨fun m' σ H2 => ∃ n ns, σ = [some (.ref d), some (.int m), none, none, none] ∧ Fr [d, l] H H2 ∧ DealIn H2 d l s0 n ns ∧ m' = ns.length, ⟨_, n0, ns0, rfl, Fr.refl _ _, D, rfl⟩, ?_⟩
      rintro m' σ H2 ⟨n, ns, rfl, f, E, rfl⟩
      refine ⟨_, rfl, d, _, rfl, lk_number E.dct, rfl, _, rfl, ?_⟩
      by_cases hn : n = 0
      · subst hn
        refine (if_pos (show decide (V.int 0 = V.int 0) = true from decide_eq_true rfl)).mpr ?_
        refine ⟨_, rfl, d, _, rfl, lk_left E.dct, l, _, rfl, .inl (SqL.of E.lst), _, _, rfl, rfl, _, rfl, ?_⟩
        rw [List.length_map]
        by_cases hz : (0 : Int) < (ns.length : Int)
        · rw [decide_eq_true hz]
          refine iteT ?_
          have hlast : ns[ns.length - 1]? = some (ns.getLastD 0) := by
            rw [List.getLastD_eq_getLast?, List.getLast?_eq_getElem?, List.getElem?_eq_getElem (by omega)]; rfl
          refine ⟨fun σ' H' => ∃ n ns', σ' = [some (.ref d), some (.int m), none, none, none] ∧ Fr [d, l] H H' ∧ DealIn H' d l s0 n ns' ∧ ns'.length < ns.length, fun σ' H' ⟨n, ns', e1, e2, e3, e4⟩ => ⟨_, e4, n, ns', e1, e2, e3, rfl⟩, ?_⟩
          refine ⟨_, rfl, d, _, rfl, lk_left E.dct, .inl ⟨rfl, _, SqL.of E.lst⟩, l, _, V.int (ns.getLastD 0), rfl, rfl, E.lst, by rw [List.length_map, List.getElem?_map, hlast]; rfl, ?_⟩
          have hd1 : upd H2 l (.lst (ns.map V.int).dropLast) d = some (.dK (dlT s0 0 l)) := upd_at dl E.dct
          refine ⟨_, rfl, d, _, rfl, st_number hd1, ?_⟩
          refine ⟨ns.getLastD 0, ns.dropLast, rfl, (f.set E.lst rfl (by simp)).set hd1 rfl (by simp), ⟨upd_same, upd_at dl.symm (upd_same.trans (by rw [List.map_dropLast])), E.s0, E.s1, ?_, fun x hx => E.ns0 x (List.dropLast_subset _ hx)⟩, by rw [List.length_dropLast]; omega⟩
          exact E.ns0 _ (List.mem_of_getElem? hlast)
        · rw [decide_eq_false hz]
          refine iteF ?_
          exact ⟨rfl, f, 0, ns, E⟩
      · refine (if_neg (show ¬ decide (V.int n = V.int 0) = true from fun z => hn (by have := of_decide_eq_true z; injection this))).mpr ?_
        refine iteF ?_
        exact ⟨rfl, f, n, ns, E⟩
    · rintro σ H2 ⟨rfl, f, n, ns, E⟩
      refine ⟨_, rfl, d, _, rfl, lk_number E.dct, ?_⟩
      refine ⟨_, rfl, _, _, rfl, rfl, _, rfl, ?_⟩
      by_cases hn : 0 < n
      · rw [decide_eq_true hn]
        refine iteT ?_
        refine ⟨_, rfl, _, rfl, _, _, rfl, rfl, ⟨by omega, log63 hm1 hm2⟩, _, rfl, d, _, rfl, st_number E.dct, ?_⟩
        refine ⟨_, rfl, _, rfl, _, _, rfl, rfl, by omega, ?_⟩
        refine k _ _ (fmod_lo _ (by omega)) (fmod_hi _ (by omega)) ⟨s0, n / m, ns, upd_same, upd_at dl.symm E.lst, E.s0, E.s1, Int.ediv_nonneg E.n0 (by omega), E.ns0⟩ (f.set E.dct rfl (by simp))
      · rw [decide_eq_false hn]
        refine iteF ?_
        have z0 := E.s0
        have z1 := E.s1
        refine ⟨_, rfl, d, _, rfl, lk_seed E.dct, _, _, rfl, rfl, Or.inl ⟨by omega, by omega⟩, _, _, rfl, rfl, _, _, rfl, rfl, by show (2147483647 : Int) ≠ 0; decide, ?_⟩
        have a0 := fmod_lo (s0 * 48271 + 7919) (m := 2147483647) (by decide)
        have a1 := fmod_hi (s0 * 48271 + 7919) (m := 2147483647) (by decide)
        refine ⟨_, rfl, _, _, rfl, rfl, Or.inl ⟨by omega, by omega⟩, _, _, rfl, rfl, _, _, rfl, rfl, by show (2147483399 : Int) ≠ 0; decide, _, rfl, d, _, rfl, st_seed E.dct, ?_⟩
        have b0 := fmod_lo ((s0 * 48271 + 7919).fmod 2147483647 * 40692 + 104729) (m := 2147483399) (by decide)
        have b1 := fmod_hi ((s0 * 48271 + 7919).fmod 2147483647 * 40692 + 104729) (m := 2147483399) (by decide)
        refine ⟨_, rfl, d, _, rfl, lk_seed upd_same, _, rfl, d, _, rfl, lk_seed upd_same, _, _, rfl, rfl, Or.inl ⟨by omega, by omega⟩, _, _, rfl, rfl, by show (2147483563 : Int) ≠ 0; decide, ?_⟩
        have c0 := fmod_lo ((s0 * 48271 + 7919).fmod 2147483647 * (s0 * 48271 + 7919).fmod 2147483647) (m := 2147483629) (by decide)
        have c1 := fmod_hi ((s0 * 48271 + 7919).fmod 2147483647 * (s0 * 48271 + 7919).fmod 2147483647) (m := 2147483629) (by decide)
        refine ⟨_, rfl, _, rfl, _, _, rfl, rfl, Or.inl ⟨by omega, by omega⟩, _, _, rfl, rfl, by show (2147483629 : Int) ≠ 0; decide, _, _, rfl, rfl, Or.inl ⟨by omega, by omega⟩, _, rfl, _, _, rfl, rfl, _, rfl, _, _, rfl, rfl, by omega, ?_⟩
        exact k _ _ (fmod_lo _ (by omega)) (fmod_hi _ (by omega)) ⟨_, n, ns, upd_same, upd_at dl.symm E.lst, b0, by omega, E.n0, E.ns0⟩ (f.set E.dct rfl (by simp))
theorem ok_law_deal (T : Txt K mg) : Ok P w K mg base 1 (He.fAd K a_law_deal) p_law_deal (sp_law_deal K) := by
  refine ok_by T.F_law_deal sc_law_deal bi_law_deal (fun vs H Q E h => ?_) (fun cdv A outer s H vs Q E hr h => ?_)
  · obtain ⟨a, ns, rfl, _⟩ := h; rfl
  · obtain ⟨a, ns, rfl, hS, hlen, k⟩ := h
    refine ⟨_, (pss_cons (ps_setLc (i := 2) (own := [("one", 4)]) rfl sc_law_deal.nd rfl rfl (sw_true rfl rfl rfl (by decide +kernel)) (kpi_list (K := K) (pe_slice (ksl_list (K := K)) (pv 0) (po_some (pv 1)) (po_some pe_int))) (blkOk_by (own := [("one", 4)]) (N := n_law_deal) (sc := defScope s_law_deal) (by decide +kernel)) (fun _ _ _ _ _ => (pg_name (i := 4) sc_law_deal.nd rfl (Or.inl rfl))) (fun _ _ _ _ _ => pts_nil) (fun _ _ _ _ _ => (pe_callB (call_max2 rfl) (by rfl) T.m_max (by decide +kernel) (pa_cons (pv 4) (pa_cons (pe_op op_sub pe_int (pv 4)) pa_nil)))))
      (pss_cons (ps_set (i := 3) sc_law_deal.nd rfl (Or.inl rfl) (pe_op op_add pe_int (pv 1)))
      (pss_cons (ps_for PassesOwn.never rfl (kpi_list (K := K) (pv 2)) (pg_name (i := 4) sc_law_deal.nd rfl (Or.inl rfl)) (pss_one (ps_set (i := 3) sc_law_deal.nd rfl (Or.inl rfl) (pe_op op_modN (pe_op op_add (pe_op op_mul (pv 3) pe_int) (pe_op op_modN (pv 4) pe_int)) pe_int))))
      (pss_one (ps_ret (pe_disp (pps_cons pe_str (pv 3) (pps_cons pe_str pe_int (pps_cons pe_str (pe_lstRev rfl rfl T.m_list rfl T.m_reversed (pe_lc (own := [("one", 4)]) rfl sc_law_deal.nd (kpi_list (K := K) (pv 2)) (blkOk_by (own := [("one", 4)]) (N := n_law_deal) (sc := defScope s_law_deal) (by decide +kernel)) (fun _ _ _ _ _ => (pg_name (i := 4) sc_law_deal.nd rfl (Or.inl rfl))) (fun _ _ _ _ _ => (pts_one (pt_cmpR op_ge (pv 4) (pe_op op_pow pe_int pe_int) (nomark _)))) (fun _ _ _ _ _ => (pv 4)))) pps_nil))) (by rfl) (by rfl) (fun z => by cases z) (by decide))))))), ?_⟩
    -- some
    refine ⟨_, rfl, _, rfl, _, rfl, _, rfl, a, _, rfl, hS, fun p hp => ?_⟩
    obtain ⟨ms, em, hml, _⟩ := cut_ints ns (some 0) (some 63)
    rw [em]
    refine ⟨p, rfl, ⟨_, SqL.of upd_same⟩, fun D hD => ?_⟩
    have hDp : D ≠ p := fun z => by subst z; rw [upd_same] at hD; cases hD
    have hD0 : H D = none := by rw [← hD, upd_ne hDp]
    have f1 : Fr [] H (upd H p (.lst (ms.map V.int))) := (Fr.refl _ H).new hp
    refine lc_list (K := K) (a := p) (xs := ms.map V.int) (fun i H3 => Fr [] H H3 ∧ H3 p = some (.lst (ms.map V.int)) ∧ ∃ acc : List Int, H3 D = some (.lst (acc.map V.int)) ∧ acc.length = i ∧ ∀ x ∈ acc, 0 ≤ x)
      ⟨f1.new hD, upd_old hD upd_same, [], upd_same, rfl, by simp⟩ (fun i H3 _ ⟨_, e, _⟩ => SqL.of e) ?_ ?_
    · rintro i y H3 hy ⟨f3, hp3, acc, hacc, hal, ha0⟩
      obtain ⟨z, hz, rfl⟩ : ∃ z, ms[i]? = some z ∧ y = V.int z := by
        rw [List.getElem?_map] at hy
        cases e : ms[i]? with
        | none => rw [e] at hy; cases hy
        | some c => rw [e] at hy; exact ⟨c, rfl, (Option.some.inj hy).symm⟩
      have hi := (List.getElem?_eq_some_iff.mp hz).1
      refine ⟨rfl, ?_⟩
      refine yesT ?_
      refine ⟨_, rfl, _, rfl, _, _, rfl, rfl, _, _, rfl, acc.map V.int, hacc, by rw [List.length_map, hal]; show i < 16777216; omega, f3.mine hD0, upd_at hDp.symm hp3, ?_⟩
      refine ⟨acc ++ [if 0 - z > z then 0 - z else z], by rw [upd_same, List.map_append]; rfl, by simp [hal], fun x hx => ?_⟩
      rcases List.mem_append.mp hx with q | q
      · exact ha0 x q
      · rw [List.mem_singleton.mp q]
        split <;> omega
    · rintro H3 ⟨f3, hp3, so, hso, hsl, hs0⟩
      rw [List.length_map] at hsl
      -- number
      refine ⟨_, rfl, _, _, rfl, rfl, ?_⟩
      refine ⟨_, rfl, D, rfl, ⟨_, SqL.of hso⟩, for_list (K := K) (a := D) (xs := so.map V.int) (fun i σ H4 => ∃ (nu : Int) (o1 : Option V), σ = [some (.ref a), some (.int 0), some (.ref D), some (.int nu), o1] ∧ H4 = H3 ∧ 0 ≤ nu ∧ nu < 2147483647)
        ⟨_, _, rfl, rfl, by decide, by decide⟩ (fun i σ H4 _ ⟨_, _, _, e, _⟩ => by rw [e]; exact SqL.of hso) ?_ ?_⟩
      · rintro i y σ H4 hy ⟨nu, o1, rfl, rfl, n0, n1⟩
        obtain ⟨z, hz, rfl⟩ : ∃ z, so[i]? = some z ∧ y = V.int z := by
          rw [List.getElem?_map] at hy
          cases e : so[i]? with
          | none => rw [e] at hy; cases hy
          | some c => rw [e] at hy; exact ⟨c, rfl, (Option.some.inj hy).symm⟩
        refine ⟨_, rfl, _, _, rfl, rfl, Or.inl ⟨by omega, by omega⟩, _, rfl, _, _, rfl, rfl, by show (2147483629 : Int) ≠ 0; decide, _, _, rfl, rfl, _, _, rfl, rfl, by show (2147483647 : Int) ≠ 0; decide, ?_⟩
        exact ⟨_, _, rfl, rfl, fmod_lo _ (by decide), fmod_hi _ (by decide)⟩
      · rintro σ H4 ⟨nu, o1, rfl, rfl, n0, n1⟩
        -- the dict
        intro q hq
        have f4 : Fr [] H (upd H4 q (.dK [])) := f3.new hq
        have hqD : q ≠ D := (ne_of_none hso hq).symm
        refine ⟨_, rfl, _, rfl, D, rfl, ⟨_, SqL.of (upd_old hq hso)⟩, fun B hB => ?_⟩
        have hBq : B ≠ q := fun z => by subst z; rw [upd_same] at hB; cases hB
        have hBD : B ≠ D := fun z => by subst z; rw [upd_old hq hso] at hB; cases hB
        have hB0 : H B = none := f4.dom B hB
        refine lc_list (K := K) (a := D) (xs := so.map V.int) (fun i H5 => Fr [] H H5 ∧ H5 q = some (.dK []) ∧ H5 D = some (.lst (so.map V.int)) ∧ ∃ acc : List Int, H5 B = some (.lst (acc.map V.int)) ∧ acc.length ≤ i ∧ ∀ x ∈ acc, 0 ≤ x)
          ⟨f4.new hB, upd_old hB upd_same, upd_old hB (upd_old hq hso), [], upd_same, Nat.zero_le _, by simp⟩ (fun i H5 _ ⟨_, _, e, _⟩ => SqL.of e) ?_ ?_
        · rintro i y H5 hy ⟨f5, hq5, hD5, acc, hacc, hal, ha0⟩
          obtain ⟨z, hz, rfl⟩ : ∃ z, so[i]? = some z ∧ y = V.int z := by
            rw [List.getElem?_map] at hy
            cases e : so[i]? with
            | none => rw [e] at hy; cases hy
            | some c => rw [e] at hy; exact ⟨c, rfl, (Option.some.inj hy).symm⟩
          have hi := (List.getElem?_eq_some_iff.mp hz).1
          refine ⟨rfl, ?_⟩
          refine ⟨_, rfl, _, _, rfl, rfl, ⟨by decide, by decide, by decide⟩, _, _, rfl, rfl, _, rfl, ?_⟩
          refine ite2 (fun _ => ?_) fun _ => ⟨f5, hq5, hD5, acc, hacc, by omega, ha0⟩
          refine ⟨_, rfl, acc.map V.int, hacc, by rw [List.length_map]; show acc.length < 16777216; omega, f5.mine hB0, upd_at hBq.symm hq5, upd_at hBD.symm hD5, acc ++ [z], by rw [upd_same, List.map_append]; rfl, by simp; omega, fun x hx => ?_⟩
          rcases List.mem_append.mp hx with q | q
          · exact ha0 x q
          · rw [List.mem_singleton.mp q]
            exact hs0 z (List.mem_of_getElem? hz)
        · rintro H5 ⟨f5, hq5, hD5, acc, hacc, hal, ha0⟩
          refine ⟨B, _, rfl, SqL.of hacc, fun l hl => ?_⟩
          have hlq : q ≠ l := ne_of_none hq5 hl
          refine ⟨upd_old hl hq5, dlT nu 0 l, rfl, by show 3 ≤ 15; decide, ?_⟩
          have hq0 : H q = none := f3.dom q hq
          refine k q l _ ⟨nu, 0, acc.reverse, ?_, ?_, n0, n1, Int.le_refl 0, fun x hx => ha0 x (List.mem_reverse.mp hx)⟩ ((f5.new hl).mine hq0) hq0 (f5.dom l hl)
          · rw [upd_same, merge_nd (by show dlN.Nodup; exact dlN_nd)]
          · rw [upd_ne hlq.symm, upd_same, List.map_reverse]
end
end Ct

set_option Elab.async false
set_option linter.all false
set_option maxRecDepth 100000
set_option maxHeartbeats 4000000
namespace Ct
open PySem PySem.Spec PyProof.Rows L2 RT

/-! ### what the law has been told: a dict from numbers to things -/
def tlk (as : List Addr) : List (Key × V) := as.zipIdx.map fun p => (Sum.inl ((p.2 : Int) + 1), V.ref p.1)
theorem tlk_from (s : Int) : ∀ (as : List Addr) (n : Nat), valV ((as.zipIdx n).map fun p => ((Sum.inl ((p.2 : Int) + 1) : Key), V.ref p.1)) (Sum.inl s) = if (n : Int) < s then (as[(s - 1 - n).toNat]?).map V.ref else none
  | [], n => by split <;> rfl
  | a :: as, n => by
    rw [List.zipIdx_cons, List.map_cons]
    by_cases h : (n : Int) + 1 = s
    · rw [valV_pos (by rw [h]), if_pos (by omega)]
      have e : (s - 1 - (n : Int)).toNat = 0 := by omega
      rw [e]; rfl
    · rw [valV_neg (fun e => h (by injection e)), tlk_from s as (n + 1)]
      by_cases h2 : (n : Int) < s
      · rw [if_pos (by push_cast; omega), if_pos h2]
        have e : (s - 1 - (n : Int)).toNat = (s - 1 - ((n + 1 : Nat) : Int)).toNat + 1 := by push_cast; omega
        rw [e, List.getElem?_cons_succ]
      · rw [if_neg (by push_cast; omega), if_neg h2]
theorem tlk_val (as : List Addr) (s : Int) : valV (tlk as) (Sum.inl s) = if 0 < s then (as[(s - 1).toNat]?).map V.ref else none := by
  have h := tlk_from s as 0
  simpa [tlk] using h
theorem tlk_len (as : List Addr) : (tlk as).length = as.length := by unfold tlk; rw [List.length_map, List.length_zipIdx]
theorem tlk_snoc (as : List Addr) (a : Addr) : tlk (as ++ [a]) = tlk as ++ [(Sum.inl ((as.length : Int) + 1), V.ref a)] := by
  unfold tlk
  rw [List.zipIdx_append]
  simp
def nums (n : Nat) : List Int := (List.range n).map fun (i : Nat) => (i : Int) + 1
theorem tlk_keys (as : List Addr) : ((tlk as).map fun kv => kV kv.1) = (nums as.length).map V.int := by
  unfold tlk nums
  apply List.ext_getElem?
  intro i
  simp only [List.getElem?_map, List.getElem?_zipIdx, List.getElem?_range']
  by_cases h : i < as.length
  · simp [List.getElem?_eq_getElem h, List.getElem?_range h, kV]
  · rw [List.getElem?_eq_none (by omega), List.getElem?_eq_none (by simp; omega)]; rfl
theorem nums_at {n i : Nat} (h : i < n) : (nums n)[i]? = some ((i : Int) + 1) := by
  unfold nums
  rw [List.getElem?_map, List.getElem?_range h]; rfl
theorem nums_len (n : Nat) : (nums n).length = n := by unfold nums; simp
def ToldAt (H : Hp) (e : Addr) (ts : List Thing) : Prop := ∃ as, H e = some (.dK (tlk as)) ∧ ThsAt H as ts
theorem ToldAt.mono {S : List Addr} {H H' : Hp} {e : Addr} {ts : List Thing} (f : Fr S H H') (a : ToldAt H e ts) (h : e ∉ S) : ToldAt H' e ts := let ⟨as, h1, h2⟩ := a; ⟨as, f.keep _ _ h1 h, h2.mono f⟩
theorem ToldAt.same {H H' : Hp} {e : Addr} {ts : List Thing} (f : Fr [] H H') (a : ToldAt H e ts) : ToldAt H' e ts := a.mono f (by simp)
/-- what is looked up -/
theorem ToldAt.get {H : Hp} {e : Addr} {ts : List Thing} (a : ToldAt H e ts) (s : Int) : ∃ o, DGet H e (.int s) o ∧ (∀ t, opn ts s = some t → ∃ b, o = some (.ref b) ∧ H b = some (.tup (thV t))) ∧ (opn ts s = none → o = none) := by
  obtain ⟨as, h1, h2, h3⟩ := a
  refine ⟨valV (tlk as) (Sum.inl s), DGet.k (k := Sum.inl s) h1, fun t ht => ?_, fun ht => ?_⟩
  · rw [tlk_val]
    unfold opn at ht
    split at ht
    · rename_i h0
      rw [if_pos h0]
      have hi := (List.getElem?_eq_some_iff.mp ht).1
      have e1 : as[(s - 1).toNat]? = some as[(s - 1).toNat] := List.getElem?_eq_getElem (by rw [h2]; exact hi)
      exact ⟨_, by rw [e1]; rfl, h3 _ _ _ e1 ht⟩
    · cases ht
  · rw [tlk_val]
    unfold opn at ht
    split at ht
    · rename_i h0
      rw [if_pos h0]
      rw [List.getElem?_eq_none_iff] at ht
      rw [List.getElem?_eq_none (by omega)]; rfl
    · rename_i h0
      rw [if_neg h0]
theorem opn_some {ts : List Thing} {s : Int} (h0 : 0 < s) (h1 : s ≤ (ts.length : Int)) : ∃ t, opn ts s = some t := by
  unfold opn
  rw [if_pos h0]
  exact ⟨_, List.getElem?_eq_getElem (by omega)⟩
theorem opn_none {ts : List Thing} {s : Int} (h : s ≤ 0 ∨ (ts.length : Int) < s) : opn ts s = none := by
  unfold opn
  split
  · exact List.getElem?_eq_none (by omega)
  · rfl
/-- pairs are of numbers that were told -/
def Wf (ts : List Thing) : Prop := ∀ t ∈ ts, match t with
  | .leaf w => 0 ≤ w ∧ w < 4294967296
  | .pair a b => 0 < a ∧ a ≤ (ts.length : Int) ∧ 0 < b ∧ b ≤ (ts.length : Int)
theorem Wf.more {ts : List Thing} (h : Wf ts) {t : Thing} (ht : match t with | .leaf w => 0 ≤ w ∧ w < 4294967296 | .pair a b => 0 < a ∧ a ≤ (ts.length : Int) ∧ 0 < b ∧ b ≤ (ts.length : Int)) : Wf (addT ts t) := by
  unfold addT
  split
  · exact h
  · intro u hu
    have gen : ∀ u : Thing, (match u with | .leaf w => 0 ≤ w ∧ w < 4294967296 | .pair a b => 0 < a ∧ a ≤ (ts.length : Int) ∧ 0 < b ∧ b ≤ (ts.length : Int)) → match u with | .leaf w => 0 ≤ w ∧ w < 4294967296 | .pair a b => 0 < a ∧ a ≤ ((ts ++ [t]).length : Int) ∧ 0 < b ∧ b ≤ ((ts ++ [t]).length : Int) := by
      intro u hu
      cases u with
      | leaf _ => exact hu
      | pair a b =>
        obtain ⟨h1, h2, h3, h4⟩ := hu
        rw [List.length_append, List.length_singleton]
        exact ⟨h1, by push_cast; omega, h3, by push_cast; omega⟩
    rcases List.mem_append.mp hu with q | q
    · exact gen u (h u q)
    · rw [List.mem_singleton.mp q]; exact gen t ht
/-- the numbers of the things that are t -/
theorem which_at (ts : List Thing) (nd : ts.Nodup) (t : Thing) : ((List.range ts.length).filter fun i => decide (ts[i]? = some t)) = match ixOf ts t with | none => [] | some i => [i] := by
  cases e : ixOf ts t with
  | none =>
    refine List.filter_eq_nil_iff.mpr fun i _ h => ixOf_none.mp e ?_
    exact List.mem_of_getElem? (of_decide_eq_true h)
  | some i =>
    have hi := ixOf_some e
    have hl := (List.getElem?_eq_some_iff.mp hi).1
    have e2 : (fun j => decide (ts[j]? = some t)) = fun j => decide (j = i) := by
      funext j
      by_cases q : ts[j]? = some t
      · rw [decide_eq_true q, decide_eq_true (nd_ix nd q hi)]
      · rw [decide_eq_false q, decide_eq_false (fun z => q (by rw [z]; exact hi))]
    rw [e2]
    show (List.range ts.length).filter (fun j => decide (j = i)) = [i]
    have gen : ∀ n, i < n → (List.range n).filter (fun j => decide (j = i)) = [i] := by
      intro n
      induction n with
      | zero => intro h; omega
      | succ n ih =>
        intro h
        rw [List.range_succ, List.filter_append]
        by_cases q : i < n
        · rw [ih q]
          have : ¬ n = i := by omega
          simp [this]
        · have e3 : n = i := by omega
          subst e3
          have : (List.range n).filter (fun j => decide (j = n)) = [] := List.filter_eq_nil_iff.mpr fun j hj h => by
            have := List.mem_range.mp hj
            have := of_decide_eq_true h
            omega
          rw [this]; simp
    exact gen _ hl
theorem eqv_th (t u : Thing) : PyData.eqv (thD t) (thD u) = decide (t = u) := by
  have lp : (("leaf" : Str) == ("pair" : Str)) = false := by decide +kernel
  have pl : (("pair" : Str) == ("leaf" : Str)) = false := by decide +kernel
  cases t with
  | leaf w => cases u with
    | leaf v =>
      show ((("leaf" : Str) == "leaf") && ((w == v) && true)) = _
      rw [beq_self_eq_true, Bool.true_and, Bool.and_true]
      by_cases h : w = v
      · subst h; simp
      · rw [decide_eq_false (fun z => h (by injection z)), beq_eq_false_iff_ne.mpr h]
    | pair a b =>
      show ((("leaf" : Str) == "pair") && ((w == a) && false)) = _
      rw [lp, Bool.false_and, decide_eq_false (fun z => by cases z)]
  | pair a b => cases u with
    | leaf v =>
      show ((("pair" : Str) == "leaf") && ((a == v) && false)) = _
      rw [pl, Bool.false_and, decide_eq_false (fun z => by cases z)]
    | pair x y =>
      show ((("pair" : Str) == "pair") && ((a == x) && ((b == y) && true))) = _
      rw [beq_self_eq_true, Bool.true_and, Bool.and_true]
      by_cases h : a = x ∧ b = y
      · obtain ⟨rfl, rfl⟩ := h; simp
      · rw [decide_eq_false (fun z => h (by injection z with z1 z2; exact ⟨z1, z2⟩))]
        by_cases ha : a = x
        · have hb : ¬ b = y := fun z => h ⟨ha, z⟩
          rw [beq_eq_false_iff_ne.mpr hb, Bool.and_false]
        · rw [beq_eq_false_iff_ne.mpr ha, Bool.false_and]
theorem numT_le (ts : List Thing) (t : Thing) : 0 < numT ts t ∧ numT ts t ≤ (ts.length : Int) + 1 := by
  unfold numT
  cases e : ixOf ts t with
  | none => exact ⟨by show 0 < (ts.length : Int) + 1; omega, Int.le_refl _⟩
  | some i =>
    have := (List.getElem?_eq_some_iff.mp (ixOf_some e)).1
    exact ⟨by show 0 < (i : Int) + 1; omega, by show (i : Int) + 1 ≤ _; omega⟩
abbrev TWf (n : Nat) (t : Thing) : Prop := match t with
  | .leaf w => 0 ≤ w ∧ w < 4294967296
  | .pair a b => 0 < a ∧ a ≤ (n : Int) ∧ 0 < b ∧ b ≤ (n : Int)
theorem hl_ne {K : PySem.W.Frag} {H : Hp} {h : HA} {ts : List Thing} {l : Addr} {ns : List Int} (hh : HouseAt K H h ts) (hl : H l = some (.lst (ns.map V.int))) : h.l ≠ l := by
  obtain ⟨as, e, _⟩ := hh.lst
  refine ne_of e hl fun q => ?_
  injection q with q
  cases ns <;> cases q
def sp_law_made (K : PySem.W.Frag) : Sp := fun vs H Q _ => ∃ (d l : Addr) (h : HA) (e : Addr) (ts : List Thing), vs = [.ref d, .ref h.x, .ref e] ∧ DealAt H d l ∧ HouseAt K H h ts ∧ ToldAt H e ts ∧ Wf ts ∧ ts.length < 1000 ∧ e ≠ d ∧
  ∀ ts' H', HouseAt K H' h ts' → ToldAt H' e ts' → Wf ts' → ts'.length ≤ ts.length + 1 → DealAt H' d l → Fr [d, l, h.d, h.l, e] H H' → Q (.bl true) H'
section
variable {P : Program} {w : World} {K : PySem.W.Frag} {mg : Str → Option Value} {base : Heap}
theorem ok_law_made (T : Txt K mg) : Ok P w K mg base 3 (He.fAd K a_law_made) p_law_made (sp_law_made K) := by
  refine ok_by T.F_law_made sc_law_made bi_law_made (fun vs H Q E h => ?_) (fun cdv A outer s H vs Q E hr h => ?_)
  · obtain ⟨d, l, h, e, ts, rfl, _⟩ := h; rfl
  · obtain ⟨d, l, h, e, ts, rfl, hD, hh, hT, wf, hn, hed, k⟩ := h
    have hu := hu_of hr
    obtain ⟨as, he, hth⟩ := id hT
    have nel : e ≠ l := by obtain ⟨_, _, _, D⟩ := hD; exact ne_of he D.lst nofun
    have nedd : e ≠ h.d := ne_of he hh.dct nofun
    have nedl : e ≠ h.l := by obtain ⟨_, q, _⟩ := hh.lst; exact ne_of he q nofun
    have ndd : h.d ≠ d := by obtain ⟨_, _, _, D⟩ := hD; exact ne_of hh.dct D.dct nofun
    have ndl : h.d ≠ l := by obtain ⟨_, _, _, D⟩ := hD; exact ne_of hh.dct D.lst nofun
    have nld : h.l ≠ d := by obtain ⟨_, _, _, D⟩ := hD; obtain ⟨_, q, _⟩ := hh.lst; exact ne_of q D.dct nofun
    have nll : h.l ≠ l := by obtain ⟨_, _, _, D⟩ := hD; exact hl_ne hh D.lst
    have nxd : h.x ≠ d := by obtain ⟨_, _, _, D⟩ := hD; obtain ⟨_, q⟩ := hh.ob; exact ne_of q D.dct nofun
    have nxl : h.x ≠ l := by obtain ⟨_, _, _, D⟩ := hD; obtain ⟨_, q⟩ := hh.ob; exact ne_of q D.lst nofun
    have stay : ∀ {H1 H2 : Hp}, Fr [d, l] H1 H2 → HouseAt K H1 h ts → HouseAt K H2 h ts := fun f a => a.mono f (by simp [nxd, nxl]) (by simp [ndd, ndl]) (by simp [nld, nll])
    have sub : ∀ {H1 H2 : Hp}, Fr [d, l] H1 H2 → Fr [d, l, h.d, h.l, e] H1 H2 := fun f => f.mono (by simp)
    have sub2 : ∀ {H1 H2 : Hp}, Fr [h.d, h.l] H1 H2 → Fr [d, l, h.d, h.l, e] H1 H2 := fun f => f.mono (by simp)
    refine ⟨_, (pss_cons (ps_set (i := 3) sc_law_made.nd rfl (Or.inl rfl) (pe_callTy (call_list_dK rfl) (by rfl) T.m_list (by decide +kernel) (pa_cons (pv 2) pa_nil)))
      (Evl.pss_cut (ps_if (pt_cut (PW.pt (pw_or (pt_cmpR op_lt (pe_callB (kcall_len (K := K)) (by rfl) T.m_len (by decide +kernel) (pa_cons (pv 3) pa_nil)) pe_int (nomark _)) (pw_or1 (pt_cmpR op_eq (pc_call (ok_law_draw T) hr rfl T.g_law_draw (pa_cons (pv 0) (pa_cons pe_int pa_nil))) pe_int (nomark _)))))) (pss_cons (ps_set (i := 4) sc_law_made.nd rfl (Or.inr rfl) (pe_tup (pa_cons pe_str (pa_cons (pc_call (ok_law_draw T) hr rfl T.g_law_draw (pa_cons (pv 0) (pa_cons (pe_ix (kix_list (K := K)) (pe_lst (pa_cons pe_int (pa_cons pe_int pa_nil))) (pc_call (ok_law_draw T) hr rfl T.g_law_draw (pa_cons (pv 0) (pa_cons pe_int pa_nil))) (fun _ _ => rfl)) pa_nil))) pa_nil))))
      (pss_one (ps_set (i := 5) sc_law_made.nd rfl (Or.inl rfl) (pc_meth (ok_House_leaf T) T.cl_House T.me_House_leaf hr (pv 1) (pa_cons (pe_ix (kix_tup (K := K)) (pv 4) pe_int (fun _ _ => rfl)) pa_nil))))) (pss_cons (ps_set (i := 4) sc_law_made.nd rfl (Or.inr rfl) (pe_tup (pa_cons pe_str (pa_cons (pe_ix (kix_list (K := K)) (pv 3) (pc_call (ok_law_draw T) hr rfl T.g_law_draw (pa_cons (pv 0) (pa_cons (pe_callB (kcall_len (K := K)) (by rfl) T.m_len (by decide +kernel) (pa_cons (pv 3) pa_nil)) pa_nil))) (fun _ _ => rfl)) (pa_cons (pe_ix (kix_list (K := K)) (pv 3) (pc_call (ok_law_draw T) hr rfl T.g_law_draw (pa_cons (pv 0) (pa_cons (pe_callB (kcall_len (K := K)) (by rfl) T.m_len (by decide +kernel) (pa_cons (pv 3) pa_nil)) pa_nil))) (fun _ _ => rfl)) pa_nil)))))
      (pss_one (ps_set (i := 5) sc_law_made.nd rfl (Or.inl rfl) (pc_meth (ok_House_pair T) T.cl_House T.me_House_pair hr (pv 1) (pa_cons (pe_ix (kix_tup (K := K)) (pv 4) pe_int (fun _ _ => rfl)) (pa_cons (pe_ix (kix_tup (K := K)) (pv 4) pe_int (fun _ _ => rfl)) pa_nil)))))))
      (pss_cons (ps_if (pt_cut (PW.pt (pw_or (pt_not (pt_val (pe_callB (kcall_isi (K := K)) (by rfl) T.m_isinstance (by decide +kernel) (pa_cons (pv 5) (pa_cons (pe_bltn (v := .ty "int") rfl T.m_int (by decide +kernel) rfl) pa_nil))))) (pw_or (pt_val (pe_callB (kcall_isi (K := K)) (by rfl) T.m_isinstance (by decide +kernel) (pa_cons (pv 5) (pa_cons (pe_bltn (v := .ty "bool") rfl T.m_bool (by decide +kernel) rfl) pa_nil)))) (pw_or1 (pt_not (pt_chain op_lt op_lt pe_int (pv 5) (pe_glob (v := .int 1000000000000) rfl T.v_GREAT.choose_spec ⟨_, rfl⟩)))))))) (pss_one (ps_ret pe_bl)) pss_nil)
      (pss_cons (ps_setLc (i := 6) (own := [("one", 7)]) rfl sc_law_made.nd rfl rfl (sw_true rfl rfl rfl (by decide +kernel)) (kpi_list (K := K) (pv 3)) (blkOk_by (own := [("one", 7)]) (N := n_law_made) (sc := defScope s_law_made) (by decide +kernel)) (fun _ _ _ _ _ => (pg_name (i := 7) sc_law_made.nd rfl (Or.inl rfl))) (fun _ _ _ _ _ => (pts_one (pt_cmpR (kop_eqD (K := K) hr.units) (pe_dget hu (pv 2) (pv 7) (fun _ _ => rfl)) (pv 4) (nomark _)))) (fun _ _ _ _ _ => (pv 7)))
      (pss_cons (ps_if (pt_cmpR (kop_neD (K := K) hr.units) (pv 6) (pe_lst pa_nil) (nomark _)) (pss_one (ps_ret (pe_cmpR (kop_eqD (K := K) hr.units) (pv 6) (pe_lst (pa_cons (pv 5) pa_nil)) (nomark _)))) pss_nil)
      (pss_cons (ps_if (pt_cmp (pc_din hu (pv 5) (pv 2))) (pss_one (ps_ret pe_bl)) pss_nil)
      (pss_cons (ps_dput hu (pv 2) (pv 5) (pv 4) rfl)
      (pss_one (ps_ret pe_bl))))))))), ?_⟩
    refine ⟨_, rfl, e, _, rfl, he, fun p hp => ?_⟩
    rw [tlk_keys]
    have f0 : Fr [] H (upd H p (.lst ((nums as.length).map V.int))) := (Fr.refl _ H).new hp
    have hp0 : upd H p (.lst ((nums as.length).map V.int)) p = some (.lst ((nums as.length).map V.int)) := upd_same
    have ed : ∀ q ∈ [d, l], p ≠ q := fun q hq => by
      obtain ⟨_, _, _, D⟩ := hD
      rcases List.mem_cons.mp hq with rfl | hq
      · exact (ne_of_none D.dct hp).symm
      · rw [List.mem_singleton.mp hq]; exact (ne_of_none D.lst hp).symm
    have pnd : p ∉ [d, l] := fun q => ed p q rfl
    have pnh : p ∉ [h.d, h.l] := by
      obtain ⟨_, q, _⟩ := hh.lst
      simp only [List.mem_cons, List.not_mem_nil, or_false, not_or]
      exact ⟨(ne_of_none hh.dct hp).symm, (ne_of_none q hp).symm⟩
    have D1 : DealAt (upd H p (.lst ((nums as.length).map V.int))) d l := hD.same f0
    have h1 : HouseAt K (upd H p (.lst ((nums as.length).map V.int))) h ts := hh.same f0
    generalize upd H p (.lst ((nums as.length).map V.int)) = H1 at f0 hp0 D1 h1 ⊢
    have F1 : Fr [d, l, h.d, h.l, e] H H1 := f0.nil
    have hT1 : ToldAt H1 e ts := hT.same f0
    -- a thing and its number
    refine ⟨fun σ H2 => ∃ a t, σ = [some (.ref d), some (.ref h.x), some (.ref e), some (.ref p), some (.ref a), some (.int (numT ts t)), none, none] ∧ Fr [d, l, h.d, h.l, e] H H2 ∧ DealAt H2 d l ∧ HouseAt K H2 h (addT ts t) ∧ ToldAt H2 e ts ∧
      H2 a = some (.tup (thV t)) ∧ H2 p = some (.lst ((nums as.length).map V.int)) ∧ TWf ts.length t, ?_, ?_⟩
    · refine ⟨fun b H2 => Fr [d, l] H1 H2 ∧ DealAt H2 d l ∧ (b = false → 2 ≤ ts.length), ?_, ?_⟩
      · refine ⟨_, rfl, p, _, rfl, .inl (SqL.of hp0), _, _, rfl, rfl, _, rfl, ?_⟩
        rw [List.length_map, nums_len, hth.1]
        by_cases h2 : ((ts.length : Nat) : Int) < 2
        · rw [decide_eq_true h2]
          refine iteT ?_
          exact ⟨Fr.refl _ _, D1, fun z => by cases z⟩
        · rw [decide_eq_false h2]
          refine iteF ?_
          refine ⟨_, rfl, d, l, 2, rfl, D1, by decide, by decide, fun v H2 v0 v1 D2 f => ?_⟩
          exact ⟨rfl, _, rfl, f, D2, fun _ => by omega⟩
      · rintro b H2 ⟨f2, D2, hb⟩
        have hp2 := f2.keep _ _ hp0 pnd
        cases b with
        | true =>
          refine iteT ?_
          refine ⟨_, rfl, ?_⟩
          refine ⟨(by show 2 ≤ sizeLine; decide), fun q hq => ?_⟩
          have f3 : Fr [d, l] H1 (upd H2 q (.lst [.int 4, .int 4294967296])) := f2.new hq
          refine ⟨_, rfl, d, l, 2, rfl, D2.same ((Fr.refl _ H2).new hq), by decide, by decide, fun v H3 v0 v1 D3 f4 => ?_⟩
          have hqd : q ∉ [d, l] := by
            obtain ⟨_, _, _, DD⟩ := D2
            simp only [List.mem_cons, List.not_mem_nil, or_false, not_or]
            exact ⟨(ne_of_none DD.dct hq).symm, (ne_of_none DD.lst hq).symm⟩
          have hq3 := f4.keep q _ upd_same hqd
          obtain ⟨m, hm, m1, m2⟩ : ∃ m : Int, ([V.int 4, V.int 4294967296] : List V)[v.toNat]? = some (V.int m) ∧ 1 ≤ m ∧ m ≤ 4294967296 := by
            rcases (show v = 0 ∨ v = 1 by omega) with rfl | rfl
            · exact ⟨4, rfl, by decide, by decide⟩
            · exact ⟨4294967296, rfl, by decide, by decide⟩
          refine ⟨q, _, v, V.int m, rfl, rfl, SqL.of hq3, at_of (j := v.toNat) (by omega) hm, d, l, m, rfl, D3, m1, by omega, fun x H4 x0 x1 D4 f5 => ?_⟩
          refine ⟨(by show 2 ≤ sizeLine; decide), fun a ha => ?_⟩
          have g4 : Fr [d, l] H1 H4 := (f3.trans f4).trans f5
          have ha5 : upd H4 a (.tup (thV (.leaf x))) a = some (.tup (thV (.leaf x))) := upd_same
          have g5 : Fr [d, l] H1 (upd H4 a (.tup (thV (.leaf x)))) := g4.new ha
          have D5 : DealAt (upd H4 a (.tup (thV (.leaf x)))) d l := D4.same ((Fr.refl _ H4).new ha)
          obtain ⟨dx, hx⟩ := (stay g5 h1).ob
          refine ⟨_, rfl, h.x, dx, _, rfl, hx, zip_none (by decide +kernel), _, rfl, a, _, _, V.int x, rfl, rfl, SqT.of ha5, at_of (j := 1) rfl rfl, h, ts, x, rfl, stay g5 h1, by omega, fun H6 h6 f6 => ?_⟩
          have g6 := (F1.trans (sub g5)).trans (sub2 f6)
          exact ⟨a, .leaf x, rfl, g6, D5.mono f6 (by simp [ndd.symm, nld.symm]) (by simp [ndl.symm, nll.symm]), h6, (hT1.mono g5 (by simp [hed, nel])).mono f6 (by simp [nedd, nedl]), f6.tup _ _ ha5, f6.keep _ _ (g5.keep _ _ hp0 pnd) pnh, x0, by omega⟩
        | false =>
          have h2 := hb rfl
          refine iteF ?_
          have pick : ∀ (x : Int) (n : Nat), 0 ≤ x → x < (n : Int) → n = as.length → ((nums as.length).map V.int)[x.toNat]? = some (V.int (x + 1)) := by
            intro x n x0 x1 en
            rw [List.getElem?_map, nums_at (by omega)]
            show some (V.int ((x.toNat : Int) + 1)) = _
            rw [Int.toNat_of_nonneg x0]
          refine ⟨_, rfl, _, rfl, _, rfl, p, _, rfl, .inl (SqL.of hp2), d, l, _, rfl, D2, ?_, ?_, fun x H3 x0 x1 D3 f3 => ?_⟩
          · rw [List.length_map, nums_len, hth.1]; omega
          · rw [List.length_map, nums_len, hth.1]; omega
          rw [List.length_map, nums_len] at x1
          have hp3 := f3.keep _ _ hp2 pnd
          refine ⟨p, _, x, _, rfl, rfl, SqL.of hp3, at_of (j := x.toNat) (by omega) (pick x as.length x0 x1 rfl), _, rfl, _, rfl, _, rfl, p, _, rfl, .inl (SqL.of hp3), d, l, _, rfl, D3, ?_, ?_, fun y H4 y0 y1 D4 f4 => ?_⟩
          · rw [List.length_map, nums_len, hth.1]; omega
          · rw [List.length_map, nums_len, hth.1]; omega
          rw [List.length_map, nums_len] at y1
          have hp4 := f4.keep _ _ hp3 pnd
          refine ⟨p, _, y, _, rfl, rfl, SqL.of hp4, at_of (j := y.toNat) (by omega) (pick y as.length y0 y1 rfl), (by show 3 ≤ sizeLine; decide), fun a ha => ?_⟩
          have g4 : Fr [d, l] H1 H4 := (f2.trans f3).trans f4
          have ha5 : upd H4 a (.tup (thV (.pair (x + 1) (y + 1)))) a = some (.tup (thV (.pair (x + 1) (y + 1)))) := upd_same
          have g5 : Fr [d, l] H1 (upd H4 a (.tup (thV (.pair (x + 1) (y + 1))))) := g4.new ha
          have D5 : DealAt (upd H4 a (.tup (thV (.pair (x + 1) (y + 1))))) d l := D4.same ((Fr.refl _ H4).new ha)
          obtain ⟨dx, hx⟩ := (stay g5 h1).ob
          refine ⟨_, rfl, h.x, dx, _, rfl, hx, zip_none (by decide +kernel), _, rfl, a, _, _, V.int (x + 1), rfl, rfl, SqT.of ha5, at_of (j := 1) rfl rfl, _, rfl, a, _, _, V.int (y + 1), rfl, rfl, SqT.of ha5, at_of (j := 2) rfl rfl, h, ts, _, _, rfl, stay g5 h1, by omega, fun H6 h6 f6 => ?_⟩
          have g6 := (F1.trans (sub g5)).trans (sub2 f6)
          have hl := hth.1
          exact ⟨a, .pair (x + 1) (y + 1), rfl, g6, D5.mono f6 (by simp [ndd.symm, nld.symm]) (by simp [ndl.symm, nll.symm]), h6, (hT1.mono g5 (by simp [hed, nel])).mono f6 (by simp [nedd, nedl]), f6.tup _ _ ha5, f6.keep _ _ (g5.keep _ _ hp0 pnd) pnh, by omega, by omega, by omega, by omega⟩
    · rintro σ H2 ⟨a, t, rfl, f, D2, h2, T2, ha, hp2, tw⟩
      have nb := numT_le ts t
      -- an int within bounds
      refine ⟨fun b H3 => b = false ∧ H3 = H2, ?_, ?_⟩
      · refine ⟨_, rfl, _, _, _, _, _, rfl, .ty _, .base (.int _), kit_ii, true, rfl, ?_⟩
        refine (if_neg Bool.false_ne_true).mpr ?_
        refine ⟨_, rfl, _, _, _, _, _, rfl, .ty _, .base (.int _), kit_ib, false, rfl, ?_⟩
        refine (if_neg Bool.false_ne_true).mpr ?_
        refine ⟨_, rfl, _, _, rfl, rfl, _, rfl, ?_⟩
        rw [if_pos (decide_eq_true nb.1)]
        refine ⟨_, _, rfl, rfl, _, rfl, ?_, rfl⟩
        rw [decide_eq_true (by omega)]; rfl
      · rintro b H3 ⟨rfl, rfl⟩
        refine iteF ?_
        have nd := hh.nd
        have hal : as.length = ts.length := hth.1
        -- known
        refine ⟨_, rfl, p, rfl, ⟨_, SqL.of hp2⟩, fun D hD => ?_⟩
        have hDp : p ≠ D := ne_of_none hp2 hD
        refine lc_list (K := K) (a := p) (xs := (nums as.length).map V.int) (fun i H4 => Fr [] H3 H4 ∧ H4 D = some (.lst ((((List.range i).filter fun q => decide (ts[q]? = some t)).map fun (q : Nat) => (q : Int) + 1).map V.int)))
          ⟨(Fr.refl _ H3).new hD, upd_same⟩ (fun i H4 _ ⟨f4, _⟩ => SqL.of (f4.keep _ _ hp2 (by simp))) ?_ ?_
        · rintro i y H4 hy ⟨f4, hD4⟩
          have hi : i < ts.length := by
            have := (List.getElem?_eq_some_iff.mp hy).1
            rw [List.length_map, nums_len] at this
            omega
          obtain rfl : y = V.int ((i : Int) + 1) := by
            rw [List.getElem?_map, nums_at (by omega)] at hy
            exact (Option.some.inj hy).symm
          refine ⟨rfl, ?_⟩
          have ho : opn ts ((i : Int) + 1) = some ts[i] := by
            unfold opn
            rw [if_pos (by omega)]
            have : ((i : Int) + 1 - 1).toNat = i := by omega
            rw [this, List.getElem?_eq_getElem hi]
          obtain ⟨o, hg, ho1, _⟩ := (T2.same f4).get ((i : Int) + 1)
          obtain ⟨b, rfl, hb⟩ := ho1 _ ho
          refine ⟨_, rfl, _, rfl, e, _, rfl, hg, _, rfl, thD ts[i], thD t, (is_thing hb).dp, (is_thing (f4.tup _ _ ha)).dp, ?_, ?_, _, rfl, ?_⟩
          · unfold SeqAt.shaped; rw [Bool.and_eq_true]; exact ⟨(thD_fit _).1, decide_eq_true (Nat.le_trans (thD_fit _).2 (by decide))⟩
          · unfold SeqAt.shaped; rw [Bool.and_eq_true]; exact ⟨(thD_fit _).1, decide_eq_true (Nat.le_trans (thD_fit _).2 (by decide))⟩
          rw [eqv_th]
          have er : (List.range (i + 1)).filter (fun q => decide (ts[q]? = some t)) = (List.range i).filter (fun q => decide (ts[q]? = some t)) ++ if ts[i] = t then [i] else [] := by
            rw [List.range_succ, List.filter_append]
            congr 1
            rw [List.filter_cons, List.getElem?_eq_getElem hi]
            by_cases z : ts[i] = t
            · simp [z]
            · simp [z]
          by_cases z : ts[i] = t
          · rw [decide_eq_true z]
            refine iteT ?_
            refine ⟨_, rfl, _, hD4, ?_, f4.mine hD, ?_⟩
            · rw [List.length_map, List.length_map]
              refine Nat.lt_of_le_of_lt (List.length_filter_le _ _) ?_
              rw [List.length_range]; show i < 16777216; omega
            · rw [upd_same, er, if_pos z]
              simp
          · rw [decide_eq_false z]
            refine iteF ?_
            exact ⟨f4, by rw [hD4, er, if_neg z, List.append_nil]⟩
        · rintro H4 ⟨f4, hD4⟩
          rw [List.length_map, nums_len, hal, which_at ts nd t] at hD4
          have h4 := h2.same f4
          have D4 := D2.same f4
          have T4 := T2.same f4
          refine ⟨_, rfl, (by show 0 ≤ sizeLine; decide), fun q hq => ?_⟩
          have hqD : D ≠ q := ne_of_none hD4 hq
          have f5 : Fr [] H4 (upd H4 q (.lst [])) := (Fr.refl _ H4).new hq
          have sl : ∀ (xs : List Int), SeqAt.shaped (.list (xs.map PyData.int)) = true := fun xs => shaped_list fun d' hd' => by
            obtain ⟨x, _, rfl⟩ := List.mem_map.mp hd'
            exact ⟨rfl, Nat.zero_le _⟩
          have dl : ∀ {H : Hp} {c : Addr} (xs : List Int), H c = some (.lst (xs.map V.int)) → Dp K H (.ref c) (.list (xs.map PyData.int)) := fun {H c} xs hc => dpl (SqL.of hc) (by simp) fun i x d' h1 h2 => by
            rw [List.getElem?_map] at h1 h2
            cases e : xs[i]? with
            | none => rw [e] at h1; cases h1
            | some n => rw [e] at h1 h2; cases h1; cases h2; exact .int n
          refine ⟨_, _, dl _ (upd_old hq hD4), dl [] upd_same, sl _, sl [], _, rfl, ?_⟩
          cases ei : ixOf ts t with
          | some j =>
            rw [ei] at hD4
            refine iteT ?_
            have en : numT ts t = (j : Int) + 1 := by unfold numT; rw [ei]
            refine ⟨_, rfl, _, rfl, (by show 1 ≤ sizeLine; decide), fun r hr' => ?_⟩
            refine ⟨_, _, dl [(j : Int) + 1] (upd_old hr' (upd_old hq hD4)), dl [numT ts t] upd_same, sl _, sl _, ?_⟩
            have ev : PyData.eqv (.list (([(j : Int) + 1] : List Int).map PyData.int)) (.list (([numT ts t] : List Int).map PyData.int)) = true := by
              rw [en]
              show ((((j : Int) + 1) == ((j : Int) + 1)) && true) = true
              rw [beq_self_eq_true]; rfl
            rw [ev]
            have fz : Fr [] H4 (upd (upd H4 q (.lst [])) r (.lst [V.int (numT ts t)])) := f5.new hr'
            have ea : addT ts t = ts := if_pos (List.mem_of_getElem? (ixOf_some ei))
            exact k (addT ts t) _ (h4.same fz) (by rw [ea]; exact T4.same fz) (wf.more tw) (addT_len _ _) (D4.same fz) (f.trans (f4.trans fz).nil)
          | none =>
            refine iteF ?_
            have en : numT ts t = (ts.length : Int) + 1 := by unfold numT; rw [ei]
            have ea : addT ts t = ts ++ [t] := if_neg (ixOf_none.mp ei)
            have T5 := T4.same f5
            obtain ⟨o, hg, _, ho2⟩ := T5.get (numT ts t)
            have ho := ho2 (opn_none (Or.inr (by rw [en]; omega)))
            subst ho
            refine ⟨_, rfl, _, rfl, e, _, rfl, hg, _, rfl, ?_⟩
            refine iteF ?_
            obtain ⟨as5, he5, hth5⟩ := T5
            refine ⟨_, rfl, _, rfl, _, rfl, e, _, rfl, DPut.k (k := Sum.inl (numT ts t)) he5 (by rw [tlk_len, hth5.1]; show ts.length < 16777216; omega), ?_⟩
            have ep : putK (tlk as5) (Sum.inl (numT ts t) : Key) (V.ref a) = tlk (as5 ++ [a]) := by
              rw [putK_new _ ?_, tlk_snoc, en, hth5.1]
              rw [tlk_val, if_pos nb.1, List.getElem?_eq_none (by rw [hth5.1, en]; omega)]
              rfl
            rw [ep]
            have fz : Fr [e] H4 (upd (upd H4 q (.lst [])) e (.dK (tlk (as5 ++ [a])))) := f5.nil.set he5 rfl (by simp)
            refine k (addT ts t) _ (h4.mono fz ?_ ?_ ?_) ⟨as5 ++ [a], upd_same, ?_, ?_⟩ (wf.more tw) (addT_len _ _) (D4.mono fz (by simp [hed.symm]) (by simp [nel.symm])) (f.trans (f4.nil.trans (fz.mono (by simp))))
            · obtain ⟨_, z⟩ := h4.ob
              obtain ⟨_, q1, _⟩ := T4
              simp only [List.mem_singleton]
              exact ne_of z q1 nofun
            · simp [nedd.symm]
            · simp [nedl.symm]
            · rw [ea, List.length_append, List.length_append, hth5.1]; rfl
            · intro i b u h1 h2
              rw [ea] at h2
              have ha5 := fz.tup _ _ (f4.tup _ _ ha)
              by_cases hi : i < ts.length
              · rw [List.getElem?_append_left (by rw [hth5.1]; exact hi)] at h1
                rw [List.getElem?_append_left hi] at h2
                have z := hth5.2 i b u h1 h2
                rw [upd_ne (ne_of z he5 nofun)]
                exact z
              · rw [List.getElem?_append_right (by rw [hth5.1]; omega), hth5.1] at h1
                rw [List.getElem?_append_right (by omega)] at h2
                rcases (show i - ts.length = 0 ∨ 0 < i - ts.length by omega) with z | z
                · rw [z] at h1 h2
                  cases h1; cases h2
                  exact ha5
                · rw [List.getElem?_eq_none (by simp; omega)] at h1
                  cases h1
end
end Ct

set_option Elab.async false
set_option linter.all false
set_option maxRecDepth 100000
set_option maxHeartbeats 4000000
namespace Ct
open PySem PySem.Spec PyProof.Rows L2 RT

def sp_law_never : Sp := fun vs H Q _ => ∃ (d l e e2 : Addr) (ts us : List Thing), vs = [.ref d, .ref e, .ref e2] ∧ DealAt H d l ∧ ToldAt H e ts ∧ ToldAt H e2 us ∧ ts.length < 1000 ∧ us.length < 1000 ∧ e ≠ d ∧ e2 ≠ d ∧
  ∀ v H', (v ≤ 0 ∨ (ts.length : Int) < v) → DealAt H' d l → Fr [d, l] H H' → Q (.int v) H'
def sp_law_walked : Sp := fun vs H Q _ => ∃ (e : Addr) (ts : List Thing) (s : Int) (d k : Nat), vs = [.ref e, .int s, .int (d : Nat), .int (k : Nat)] ∧ ToldAt H e ts ∧ Wf ts ∧ (∃ t, opn ts s = some t) ∧ d ≤ 1000 ∧
  (∀ H', Fr [] H H' → dn ts k d s = none → Q .non H') ∧ ∀ H' v bs p l, Fr [] H H' → dn ts k d s = some (v, bs) → H' p = some (.tup [.int v, .ref l]) → H' l = some (.tup (bs.reverse.map V.int)) → Q (.ref p) H'
theorem told_get {H : Hp} {e : Addr} {ts : List Thing} (a : ToldAt H e ts) {s : Int} {t : Thing} (h : opn ts s = some t) : ∃ b, DGet H e (.int s) (some (.ref b)) ∧ H b = some (.tup (thV t)) := by
  obtain ⟨o, g, h1, _⟩ := a.get s
  obtain ⟨b, rfl, hb⟩ := h1 t h
  exact ⟨b, g, hb⟩
theorem told_not {H : Hp} {e : Addr} {ts : List Thing} (a : ToldAt H e ts) {s : Int} (h : opn ts s = none) : DGet H e (.int s) none := by
  obtain ⟨o, g, _, h2⟩ := a.get s
  rw [h2 h] at g
  exact g
theorem wf_opn {ts : List Thing} (wf : Wf ts) {s a b : Int} (h : opn ts s = some (.pair a b)) : (∃ t, opn ts a = some t) ∧ ∃ t, opn ts b = some t := by
  have hm : Thing.pair a b ∈ ts := by
    unfold opn at h
    split at h
    · exact List.mem_of_getElem? h
    · cases h
  obtain ⟨h1, h2, h3, h4⟩ := wf _ hm
  exact ⟨opn_some h1 h2, opn_some h3 h4⟩
section
variable {P : Program} {w : World} {K : PySem.W.Frag} {mg : Str → Option Value} {base : Heap}
theorem ok_law_never (T : Txt K mg) : Ok P w K mg base 2 (He.fAd K a_law_never) p_law_never sp_law_never := by
  refine ok_by T.F_law_never sc_law_never bi_law_never (fun vs H Q E h => ?_) (fun cdv A outer s H vs Q E hr h => ?_)
  · obtain ⟨d, l, e, e2, ts, us, rfl, _⟩ := h; rfl
  · obtain ⟨d, l, e, e2, ts, us, rfl, hD, hT, hU, hn, hn2, hed, hed2, k⟩ := h
    have hu := hu_of hr
    obtain ⟨as, he, hth⟩ := id hT
    obtain ⟨bs, he2, hth2⟩ := id hU
    have nel : e ≠ l := by obtain ⟨_, _, _, D⟩ := hD; exact ne_of he D.lst nofun
    have nel2 : e2 ≠ l := by obtain ⟨_, _, _, D⟩ := hD; exact ne_of he2 D.lst nofun
    have kT : ∀ {H'}, Fr [d, l] H H' → ToldAt H' e ts := fun f => hT.mono f (by simp [hed, nel])
    have kE : ∀ {H'}, Fr [d, l] H H' → H' e = some (.dK (tlk as)) := fun f => f.keep _ _ he (by simp [hed, nel])
    have kE2 : ∀ {H'}, Fr [d, l] H H' → H' e2 = some (.dK (tlk bs)) := fun f => f.keep _ _ he2 (by simp [hed2, nel2])
    have sv : ∀ {H' : Hp} {q : Addr} {xs : List V}, H' q = some (.lst xs) → DealAt H' d l → q ≠ l → q ∉ [d, l] := fun hq D n => by
      obtain ⟨_, _, _, D⟩ := D
      simp only [List.mem_cons, List.not_mem_nil, or_false, not_or]
      exact ⟨ne_of hq D.dct nofun, n⟩
    refine ⟨_, (pss_cons (ps_set (i := 3) sc_law_never.nd rfl (Or.inl rfl) (pe_lst (pa_cons (pe_op op_add pe_int (pc_call (ok_law_draw T) hr rfl T.g_law_draw (pa_cons (pv 0) (pa_cons pe_int pa_nil)))) (pa_cons pe_int (pa_cons (pe_op op_sub (pe_op op_sub pe_int pe_int) (pc_call (ok_law_draw T) hr rfl T.g_law_draw (pa_cons (pv 0) (pa_cons pe_int pa_nil)))) (pa_cons (pe_glob (v := .int 1000000000000) rfl T.v_GREAT.choose_spec ⟨_, rfl⟩) (pa_cons (pe_op op_add (pe_glob (v := .int 1000000000000) rfl T.v_GREAT.choose_spec ⟨_, rfl⟩) (pc_call (ok_law_draw T) hr rfl T.g_law_draw (pa_cons (pv 0) (pa_cons pe_int pa_nil)))) pa_nil)))))))
      (pss_cons (ps_set (i := 3) sc_law_never.nd rfl (Or.inl rfl) (pe_op op_cat (pe_op op_cat (pv 3) (pe_lst (pa_cons (pe_op op_add (pe_op op_add (pe_callB (kcall_max (K := K) rfl) (by rfl) T.m_max (by decide +kernel) (pa_cons (pe_op op_cat (pe_callTy (call_list_dK rfl) (by rfl) T.m_list (by decide +kernel) (pa_cons (pv 1) pa_nil)) (pe_lst (pa_cons pe_int pa_nil))) pa_nil)) pe_int) (pc_call (ok_law_draw T) hr rfl T.g_law_draw (pa_cons (pv 0) (pa_cons pe_int pa_nil)))) pa_nil))) (pe_callTy (call_list_dK rfl) (by rfl) T.m_list (by decide +kernel) (pa_cons (pv 2) pa_nil))))
      (pss_cons (ps_set (i := 4) sc_law_never.nd rfl (Or.inl rfl) (pe_ix (kix_list (K := K)) (pv 3) (pc_call (ok_law_draw T) hr rfl T.g_law_draw (pa_cons (pv 0) (pa_cons (pe_callB (kcall_len (K := K)) (by rfl) T.m_len (by decide +kernel) (pa_cons (pv 3) pa_nil)) pa_nil))) (fun _ _ => rfl)))
      (Evl.pss_cut (ps_while PassesOwn.never (pt_cmp (pc_din hu (pv 4) (pv 1))) (pss_one (ps_set (i := 4) sc_law_never.nd rfl (Or.inl rfl) (pe_op op_add (pv 4) pe_int))))
      (pss_one (ps_ret (pv 4))))))), ?_⟩
    refine ⟨_, rfl, d, l, _, rfl, hD, by decide, by decide, fun v1 H1 _ _ D1 f1 => ?_⟩
    refine ⟨_, _, rfl, rfl, _, _, rfl, rfl, _, rfl, d, l, _, rfl, D1, by decide, by decide, fun v2 H2 _ _ D2 f2 => ?_⟩
    refine ⟨_, _, rfl, rfl, _, rfl, d, l, _, rfl, D2, by decide, by decide, fun v3 H3 _ _ D3 f3 => ?_⟩
    refine ⟨_, _, rfl, rfl, (by show 5 ≤ sizeLine; decide), fun p hp => ?_⟩
    have g3 := (f1.trans f2).trans f3
    have g4 : Fr [d, l] H (upd H3 p (.lst [.int (1 + v1), .int 0, .int (0 - 1 - v2), .int 1000000000000, .int (1000000000000 + v3)])) := g3.new hp
    have D4 := D3.same ((Fr.refl [] H3).new (o := .lst [.int (1 + v1), .int 0, .int (0 - 1 - v2), .int 1000000000000, .int (1000000000000 + v3)]) hp)
    have hp4 : upd H3 p (.lst [.int (1 + v1), .int 0, .int (0 - 1 - v2), .int 1000000000000, .int (1000000000000 + v3)]) p = some (.lst (([1 + v1, 0, 0 - 1 - v2, 1000000000000, 1000000000000 + v3] : List Int).map V.int)) := upd_same
    have npl : p ≠ l := by obtain ⟨_, _, _, D⟩ := D3; exact (ne_of_none D.lst hp).symm
    have npd : p ≠ d := by obtain ⟨_, _, _, D⟩ := D3; exact (ne_of_none D.dct hp).symm
    have hls : ([1 + v1, 0, 0 - 1 - v2, 1000000000000, 1000000000000 + v3] : List Int).length = 5 := rfl
    generalize ([1 + v1, 0, 0 - 1 - v2, 1000000000000, 1000000000000 + v3] : List Int) = ls at hp4 hls
    generalize upd H3 p (.lst [.int (1 + v1), .int 0, .int (0 - 1 - v2), .int 1000000000000, .int (1000000000000 + v3)]) = H4 at g4 D4 hp4 ⊢
    -- some + [max(..) ..] + list(other)
    refine ⟨_, rfl, _, rfl, e, _, rfl, kE g4, fun q hq => ?_⟩
    rw [tlk_keys]
    have hq1 : upd H4 q (.lst ((nums as.length).map V.int)) q = some (.lst ((nums as.length).map V.int)) := upd_same
    refine ⟨(by show 1 ≤ sizeLine; decide), fun r hr1 => ?_⟩
    have hqr : q ≠ r := ne_of_none hq1 hr1
    refine ⟨q, r, _, _, rfl, rfl, upd_old hr1 hq1, upd_same, by rw [List.length_map, nums_len]; show as.length + 1 ≤ 16777216; rw [hth.1]; omega, fun t ht => ?_⟩
    refine ⟨t, nums as.length ++ [0], rfl, SqL.of (upd_same.trans (by rw [List.map_append]; rfl)), by simp, fun m _ _ => ?_⟩
    refine ⟨_, _, rfl, rfl, ?_⟩
    have g5 := ((g4.new (o := .lst ((nums as.length).map V.int)) hq).new (o := .lst [.int 0]) hr1).new (o := .lst ((nums as.length).map V.int ++ [.int 0])) ht
    have e5 := (((Fr.refl [] H4).new (o := .lst ((nums as.length).map V.int)) hq).new (o := .lst [.int 0]) hr1).new (o := .lst ((nums as.length).map V.int ++ [.int 0])) ht
    refine ⟨_, rfl, d, l, _, rfl, D4.same e5, by decide, by decide, fun v4 H5 _ _ D5 f5 => ?_⟩
    refine ⟨_, _, rfl, rfl, (by show 1 ≤ sizeLine; decide), fun u hu1 => ?_⟩
    have g6 := g5.trans f5
    have hp5 : H5 p = some (.lst (ls.map V.int)) := f5.keep _ _ (e5.keep _ _ hp4 (by simp)) (by simp [npd, npl])
    refine ⟨p, u, _, _, rfl, rfl, upd_old hu1 hp5, upd_same, by rw [List.length_map, hls]; show 5 + 1 ≤ 16777216; decide, fun x hx => ?_⟩
    have g7 := (g6.new (o := .lst [.int (m + 1 + v4)]) hu1).new (o := .lst (ls.map V.int ++ [.int (m + 1 + v4)])) hx
    have D7 := D5.same (((Fr.refl [] H5).new (o := .lst [.int (m + 1 + v4)]) hu1).new (o := .lst (ls.map V.int ++ [.int (m + 1 + v4)])) hx)
    have hx7 : upd (upd H5 u (.lst [.int (m + 1 + v4)])) x (.lst (ls.map V.int ++ [.int (m + 1 + v4)])) x = some (.lst ((ls ++ [m + 1 + v4]).map V.int)) := upd_same.trans (by rw [List.map_append]; rfl)
    have hls2 : (ls ++ [m + 1 + v4]).length = 6 := by rw [List.length_append, hls]; rfl
    generalize (ls ++ [m + 1 + v4]) = ms at hx7 hls2
    generalize upd (upd H5 u (.lst [.int (m + 1 + v4)])) x (.lst (ls.map V.int ++ [.int (m + 1 + v4)])) = H7 at g7 D7 hx7 ⊢
    refine ⟨_, rfl, e2, _, rfl, kE2 g7, fun y hy => ?_⟩
    rw [tlk_keys]
    refine ⟨x, y, _, _, rfl, rfl, upd_old hy hx7, upd_same, by rw [List.length_map, List.length_map, hls2, nums_len, hth2.1]; show 6 + us.length ≤ 16777216; omega, fun z hz => ?_⟩
    have g8 := (g7.new (o := .lst ((nums bs.length).map V.int)) hy).new (o := .lst (ms.map V.int ++ (nums bs.length).map V.int)) hz
    have D8 := D7.same (((Fr.refl [] H7).new (o := .lst ((nums bs.length).map V.int)) hy).new (o := .lst (ms.map V.int ++ (nums bs.length).map V.int)) hz)
    have hz8 : upd (upd H7 y (.lst ((nums bs.length).map V.int))) z (.lst (ms.map V.int ++ (nums bs.length).map V.int)) z = some (.lst ((ms ++ nums bs.length).map V.int)) := upd_same.trans (by rw [List.map_append])
    have hll : (ms ++ nums bs.length).length = 6 + us.length := by rw [List.length_append, hls2, nums_len, hth2.1]
    have nzl : z ≠ l := by obtain ⟨_, _, _, D⟩ := D7; exact (ne_of_none (upd_old hy D.lst) hz).symm
    generalize (ms ++ nums bs.length) = qs at hz8 hll
    generalize upd (upd H7 y (.lst ((nums bs.length).map V.int))) z (.lst (ms.map V.int ++ (nums bs.length).map V.int)) = H8 at g8 D8 hz8 ⊢
    -- one of them
    refine ⟨_, rfl, _, rfl, _, rfl, z, _, rfl, .inl (SqL.of hz8), d, l, _, rfl, D8, by rw [List.length_map, hll]; omega, by rw [List.length_map, hll]; omega, fun v H9 v0 v1' D9 f9 => ?_⟩
    rw [List.length_map, hll] at v1'
    have hz9 := f9.keep _ _ hz8 (sv hz8 D8 nzl)
    have g9 := g8.trans f9
    have hv : qs[v.toNat]? = some (qs.getD v.toNat 0) := by rw [List.getD_eq_getElem?_getD, List.getElem?_eq_getElem (by rw [hll]; omega)]; rfl
    refine ⟨z, _, v, V.int (qs.getD v.toNat 0), rfl, rfl, SqL.of hz9, at_of (j := v.toNat) (by omega) (by rw [List.getElem?_map, hv]; rfl), ?_⟩
    refine ⟨fun σ H' => ∃ x : Int, (x ≤ 0 ∨ (ts.length : Int) < x) ∧ σ = [some (.ref d), some (.ref e), some (.ref e2), some (.ref z), some (.int x)] ∧ H9 = H', ?_, ?_⟩
    · refine ⟨fun m σ H' => ∃ x : Int, σ = [some (.ref d), some (.ref e), some (.ref e2), some (.ref z), some (.int x)] ∧ H9 = H' ∧ m = ((ts.length : Int) + 1 - x).toNat, ⟨_, _, rfl, rfl, rfl⟩, ?_⟩
      rintro m' σ H' ⟨x, rfl, rfl, rfl⟩
      by_cases hx : x ≤ 0 ∨ (ts.length : Int) < x
      · refine ⟨_, rfl, _, rfl, e, none, rfl, told_not (kT g9) (opn_none hx), _, rfl, ?_⟩
        refine (if_neg Bool.false_ne_true).mpr ?_
        exact ⟨x, hx, rfl, rfl⟩
      · obtain ⟨t, ht⟩ := opn_some (ts := ts) (s := x) (by omega) (by omega)
        obtain ⟨b, hg, _⟩ := told_get (kT g9) ht
        refine ⟨_, rfl, _, rfl, e, _, rfl, hg, _, rfl, ?_⟩
        refine (if_pos (show (some (V.ref b)).isSome = true from rfl)).mpr ?_
        refine ⟨fun σ' H' => σ' = [some (.ref d), some (.ref e), some (.ref e2), some (.ref z), some (.int (x + 1))] ∧ H9 = H', fun σ' H' ⟨q1, q2⟩ => ⟨_, ?_, x + 1, q1, q2, rfl⟩, ?_⟩
        · omega
        · exact ⟨_, rfl, _, _, rfl, rfl, rfl, rfl⟩
    · rintro σ H' ⟨x, hx, rfl, rfl⟩
      exact ⟨_, rfl, k x _ hx D9 g9⟩
theorem ok_law_walked (T : Txt K mg) : Ok P w K mg base 1 (He.fAd K a_law_walked) p_law_walked sp_law_walked := by
  refine ok_by T.F_law_walked sc_law_walked bi_law_walked (fun vs H Q E h => ?_) (fun cdv A outer s H vs Q E hr h => ?_)
  · obtain ⟨e, ts, s, d, k, rfl, _⟩ := h; rfl
  · obtain ⟨e, ts, s0, d, k, rfl, hT, wf, hs0, hd, kn, ks⟩ := h
    have hu := hu_of hr
    refine ⟨_, (pss_cons (ps_set (i := 4) sc_law_walked.nd rfl (Or.inl rfl) (pe_lst pa_nil))
      (pss_cons (ps_for PassesOwn.never rfl (pi_range3 (by rfl) T.m_range (pa_cons (pe_op op_sub (pv 2) pe_int) (pa_cons (pe_un un_neg pe_int) (pa_cons (pe_un un_neg pe_int) pa_nil)))) (pg_name (i := 5) sc_law_walked.nd rfl (Or.inl rfl)) (pss_cons (ps_if (pt_cmpR op_ne (pe_ix (kix_tup (K := K)) (pe_dget hu (pv 0) (pv 1) (fun _ _ => rfl)) pe_int (fun _ _ => rfl)) pe_str (nomark _)) (pss_one (ps_ret pe_non)) pss_nil)
      (pss_cons (ps_set (i := 6) sc_law_walked.nd rfl (Or.inl rfl) (pe_op op_odd (pe_op op_shr (pv 3) (pv 5)) pe_int))
      (pss_cons (ps_expr (kpe_bm (K := K) rfl (pe_bm PySem.F.plainAttrs_list PySem.F.slot_list_append PySem.F.type_list_append mt_append (pv 4) (pa_cons (pe_ix (kix_tup (K := K)) (pe_dget hu (pv 0) (pv 1) (fun _ _ => rfl)) (pe_op op_sub pe_int (pv 6)) (fun _ _ => rfl)) pa_nil))))
      (pss_one (ps_set (i := 1) sc_law_walked.nd rfl (Or.inl rfl) (pe_ix (kix_tup (K := K)) (pe_dget hu (pv 0) (pv 1) (fun _ _ => rfl)) (pe_op op_add pe_int (pv 6)) (fun _ _ => rfl))))))))
      (pss_cons (ps_if (pt_cmpR op_ne (pe_ix (kix_tup (K := K)) (pe_dget hu (pv 0) (pv 1) (fun _ _ => rfl)) pe_int (fun _ _ => rfl)) pe_str (nomark _)) (pss_one (ps_ret pe_non)) pss_nil)
      (pss_one (ps_ret (pe_tup (pa_cons (pe_ix (kix_tup (K := K)) (pe_dget hu (pv 0) (pv 1) (fun _ _ => rfl)) pe_int (fun _ _ => rfl)) (pa_cons (pe_callTy (kcall_tuple (K := K)) (by rfl) T.m_tuple (by decide +kernel) (pa_cons (pe_revL (pv 4)) pa_nil)) pa_nil)))))))), ?_⟩
    refine ⟨(by show 0 ≤ sizeLine; decide), fun l hl => ?_⟩
    have f0 : Fr [] H (upd H l (.lst [])) := (Fr.refl _ H).new hl
    refine ⟨_, rfl, _, _, rfl, rfl, _, rfl, _, rfl, _, _, _, _, rfl, RgC.neg (i := (d : Int) - 1) (j := -1) (by omega) (by omega) (by decide) (by decide), ?_⟩
    have en : ((d : Int) - 1 - -1).toNat = d := by omega
    rw [en]
    refine for_rangeC (lo := (d : Int) - 1) (c := -1) (n := d) (fun i σ H2 => ∃ s' acc o1 o2, σ = [some (.ref e), some (.int s'), some (.int (d : Nat)), some (.int (k : Nat)), some (.ref l), o1, o2] ∧ Fr [] H H2 ∧ H2 l = some (.lst (acc.map V.int)) ∧ acc.length = i ∧
      dn ts k d s0 = ((dn ts k (d - i) s').map fun r => (r.1, acc ++ r.2)) ∧ ∃ t, opn ts s' = some t) ⟨s0, [], none, none, rfl, f0, upd_same, rfl, ?_, hs0⟩ ?_ ?_
    · cases dn ts k d s0 <;> rfl
    · rintro i σ H2 hi ⟨s', acc, o1, o2, rfl, f, hl2, hlen, eq, t, ht⟩
      obtain ⟨m, em⟩ : ∃ m, d - i = m + 1 := ⟨d - i - 1, by omega⟩
      have ej : ((d : Int) - 1 + (i : Nat) * -1) = (m : Int) := by omega
      rw [em] at eq
      rw [ej]
      obtain ⟨a, hg, ha⟩ := told_get (hT.same f) ht
      cases t with
      | leaf u =>
        refine ⟨_, rfl, _, rfl, e, _, rfl, hg, a, _, _, _, rfl, rfl, SqT.of ha, at_of (j := 0) rfl rfl, rfl, _, rfl, ?_⟩
        refine iteT ?_
        exact kn H2 f (by rw [eq, dn_noP (by rw [ht]; nofun)]; rfl)
      | pair a1 b1 =>
        refine ⟨_, rfl, _, rfl, e, _, rfl, hg, a, _, _, _, rfl, rfl, SqT.of ha, at_of (j := 0) rfl rfl, rfl, _, rfl, ?_⟩
        refine iteF ?_
        refine ⟨_, rfl, _, rfl, _, _, rfl, rfl, by show (0 : Int) ≤ (m : Int); omega, k / 2 ^ m, ?_, rfl, ?_⟩
        · show V.int ((k : Int) / 2 ^ (m : Int).toNat) = V.int ((k / 2 ^ m : Nat) : Int)
          rw [Int.toNat_natCast]; push_cast; rfl
        have hb : k / 2 ^ m % 2 = bitN k m := rfl
        have hb2 := bitN_lt k m
        rw [hb]
        obtain ⟨w1, w2⟩ := wf_opn wf ht
        have ed : d - (i + 1) = m := by omega
        have nx : ∀ (x y : Int), (if bitN k m = 0 then a1 else b1) = x → (if bitN k m = 0 then b1 else a1) = y → (∃ t, opn ts x = some t) → ∀ o1 o2, ∃ s' acc' p1 p2, [some (V.ref e), some (.int x), some (.int (d : Nat)), some (.int (k : Nat)), some (.ref l), o1, o2] = [some (.ref e), some (.int s'), some (.int (d : Nat)), some (.int (k : Nat)), some (.ref l), p1, p2] ∧
            Fr [] H (upd H2 l (.lst (acc.map V.int ++ [.int y]))) ∧ upd H2 l (.lst (acc.map V.int ++ [.int y])) l = some (.lst (acc'.map V.int)) ∧ acc'.length = i + 1 ∧ (dn ts k d s0 = (dn ts k (d - (i + 1)) s').map fun r => (r.1, acc' ++ r.2)) ∧ ∃ t, opn ts s' = some t := fun x y hx hy hw o1 o2 => by
          refine ⟨x, acc ++ [y], o1, o2, rfl, f.mine hl, by rw [upd_same, List.map_append]; rfl, by simp [hlen], ?_, hw⟩
          rw [ed, eq, dn_pair ht, hx, hy, Option.map_map]
          congr 1
          funext r
          show (r.1, acc ++ (y :: r.2)) = _
          rw [List.append_assoc]
          rfl
        have nla : a ≠ l := ne_of ha hl2 nofun
        rcases (show bitN k m = 0 ∨ bitN k m = 1 by omega) with z | z
        · rw [z]
          refine ⟨_, rfl, .inl ⟨rfl, _, SqL.of hl2⟩, _, rfl, _, rfl, e, _, rfl, hg, _, rfl, _, _, rfl, rfl, a, _, _, V.int b1, rfl, rfl, SqT.of ha, at_of (j := 2) rfl rfl, l, _, _, rfl, rfl, hl2, (by rw [List.length_map, hlen]; show i < 16777216; omega), ?_⟩
          have fl : Fr [] H (upd H2 l (.lst (acc.map V.int ++ [.int b1]))) := f.mine hl
          obtain ⟨a', hg', ha'⟩ := told_get (hT.same fl) ht
          refine ⟨_, rfl, _, rfl, e, _, rfl, hg', _, rfl, _, _, rfl, rfl, a', _, _, V.int a1, rfl, rfl, SqT.of ha', at_of (j := 1) rfl rfl, ?_⟩
          exact nx a1 b1 (by rw [z]; rfl) (by rw [z]; rfl) w1 _ _
        · rw [z]
          refine ⟨_, rfl, .inl ⟨rfl, _, SqL.of hl2⟩, _, rfl, _, rfl, e, _, rfl, hg, _, rfl, _, _, rfl, rfl, a, _, _, V.int a1, rfl, rfl, SqT.of ha, at_of (j := 1) rfl rfl, l, _, _, rfl, rfl, hl2, (by rw [List.length_map, hlen]; show i < 16777216; omega), ?_⟩
          have fl : Fr [] H (upd H2 l (.lst (acc.map V.int ++ [.int a1]))) := f.mine hl
          obtain ⟨a', hg', ha'⟩ := told_get (hT.same fl) ht
          refine ⟨_, rfl, _, rfl, e, _, rfl, hg', _, rfl, _, _, rfl, rfl, a', _, _, V.int b1, rfl, rfl, SqT.of ha', at_of (j := 2) rfl rfl, ?_⟩
          exact nx b1 a1 (by rw [z]; rfl) (by rw [z]; rfl) w2 _ _
    · rintro σ H2 ⟨s', acc, o1, o2, rfl, f, hl2, hlen, eq, t, ht⟩
      rw [Nat.sub_self] at eq
      obtain ⟨a, hg, ha⟩ := told_get (hT.same f) ht
      cases t with
      | pair a1 b1 =>
        refine ⟨_, rfl, _, rfl, e, _, rfl, hg, a, _, _, _, rfl, rfl, SqT.of ha, at_of (j := 0) rfl rfl, rfl, _, rfl, ?_⟩
        refine iteT ?_
        exact kn H2 f (by rw [eq, dn_noL (by rw [ht]; nofun)]; rfl)
      | leaf u =>
        refine ⟨_, rfl, _, rfl, e, _, rfl, hg, a, _, _, _, rfl, rfl, SqT.of ha, at_of (j := 0) rfl rfl, rfl, _, rfl, ?_⟩
        refine iteF ?_
        refine ⟨_, rfl, _, rfl, e, _, rfl, hg, a, _, _, V.int u, rfl, rfl, SqT.of ha, at_of (j := 1) rfl rfl, _, rfl, l, _, rfl, SqL.of hl2, fun q hq => ?_⟩
        refine ⟨q, _, rfl, .inl ⟨SqL.of upd_same, fun r hr1 => ?_⟩⟩
        refine ⟨(by show 2 ≤ sizeLine; decide), fun p hp => ?_⟩
        refine ks _ u acc p r (((f.new hq).new hr1).new hp) (by rw [eq, dn_leaf ht]; simp) upd_same (upd_old hp ?_)
        rw [upd_same, List.map_reverse]
end
end Ct

set_option Elab.async false
set_option linter.all false
set_option maxRecDepth 100000
set_option maxHeartbeats 4000000
namespace Ct
open PySem PySem.Spec PyProof.Rows L2 RT

/-- not reached here: the form is refused ahead of it -/
def sp_places_of : Sp := fun _ _ _ _ => False
def sp_comes_to (K : PySem.W.Frag) : Sp := fun vs H Q _ => ∃ (h : HA) (ts : List Thing) (d : Nat) (a : Addr) (ps : List Pth), vs = [.ref h.x, .int (d : Nat), .ref a] ∧ HouseAt K H h ts ∧ d ≤ 1000 ∧ PthsAt H a ps ∧ ps.length ≤ 1000 ∧ (∀ p ∈ ps, p.bs.length ≤ 10000) ∧ hform ts d ps [] = false ∧
  ∀ H', Fr [] H H' → Q .non H'
def sp_law_none (K : PySem.W.Frag) : Sp := fun vs H Q _ => ∃ (d l : Addr) (h : HA) (e : Addr) (ts : List Thing) (n : Int), vs = [.ref d, .ref h.x, .ref e, .int n] ∧ DealAt H d l ∧ HouseAt K H h ts ∧ ToldAt H e ts ∧ ts.length < 1000 ∧ e ≠ d ∧ opn ts n = none ∧
  ∀ H', DealAt H' d l → Fr [d, l] H H' → Q (.bl true) H'
theorem dn_none {ts : List Thing} {k : Nat} {s : Int} (h : opn ts s = none) : ∀ d, dn ts k d s = none
  | 0 => dn_noL (by rw [h]; nofun)
  | d + 1 => dn_noP (by rw [h]; nofun)
section
variable {P : Program} {w : World} {K : PySem.W.Frag} {mg : Str → Option Value} {base : Heap}
theorem ok_places_of (T : Txt K mg) : Ok P w K mg base 4 (He.fAd K a_places_of) p_places_of sp_places_of := by
  refine ok_by T.F_places_of sc_places_of bi_places_of (fun vs H Q E h => ?_) (fun cdv A outer s H vs Q E hr h => ?_)
  · exact h.elim
  · exact h.elim
theorem ok_comes_to (T : Txt K mg) : Ok P w K mg base 5 (He.fAd K a_comes_to) p_comes_to (sp_comes_to K) := by
  refine ok_by T.F_comes_to sc_comes_to bi_comes_to (fun vs H Q E h => ?_) (fun cdv A outer s H vs Q E hr h => ?_)
  · obtain ⟨h, ts, d, a, ps, rfl, _⟩ := h; rfl
  · obtain ⟨h, ts, d, a, ps, rfl, hh, hd, hp, hpl, hbl, hf, k⟩ := h
    have hu := hu_of hr
    refine ⟨_, (pss_cons (ps_if (pt_not (pt_val (pc_call (ok_have_form T) hr rfl T.g_have_form (pa_cons (pv 0) (pa_cons (pv 1) (pa_cons (pv 2) pa_nil)))))) (pss_one (ps_ret pe_non)) pss_nil)
      (pss_cons (ps_set (i := 3) sc_comes_to.nd rfl (Or.inl rfl) (pc_call (ok_places_of T) hr rfl T.g_places_of (pa_cons (pv 0) (pa_cons (pv 1) (pa_cons (pv 2) pa_nil)))))
      (pss_cons (ps_if (pt_cmpR op_isN (pv 3) pe_non (nomark _)) (pss_one (ps_ret pe_non)) pss_nil)
      (pss_one (ps_ret (pe_dget hu (pv 3) (pe_tup (pa_cons (pv 1) (pa_cons pe_int pa_nil))) (fun _ _ => rfl))))))), ?_⟩
    refine ⟨_, rfl, _, rfl, _, rfl, h, ts, d, a, ps, rfl, hh, hd, hp, hpl, hbl, fun H' f => ?_⟩
    rw [hf]
    refine ⟨_, rfl, ?_⟩
    refine iteT ?_
    exact k H' f
theorem ok_law_none (T : Txt K mg) : Ok P w K mg base 6 (He.fAd K a_law_none) p_law_none (sp_law_none K) := by
  refine ok_by T.F_law_none sc_law_none bi_law_none (fun vs H Q E h => ?_) (fun cdv A outer s H vs Q E hr h => ?_)
  · obtain ⟨d, l, h, e, ts, n, rfl, _⟩ := h; rfl
  · obtain ⟨d, l, h, e, ts, n, rfl, hD, hh, hT, hn, hed, ho, k⟩ := h
    have hu := hu_of hr
    obtain ⟨as, he, hth⟩ := id hT
    have nel : e ≠ l := by obtain ⟨_, _, _, D⟩ := hD; exact ne_of he D.lst nofun
    have ndd : h.d ≠ d := by obtain ⟨_, _, _, D⟩ := hD; exact ne_of hh.dct D.dct nofun
    have ndl : h.d ≠ l := by obtain ⟨_, _, _, D⟩ := hD; exact ne_of hh.dct D.lst nofun
    have nld : h.l ≠ d := by obtain ⟨_, _, _, D⟩ := hD; obtain ⟨_, q, _⟩ := hh.lst; exact ne_of q D.dct nofun
    have nll : h.l ≠ l := by obtain ⟨_, _, _, D⟩ := hD; exact hl_ne hh D.lst
    have nxd : h.x ≠ d := by obtain ⟨_, _, _, D⟩ := hD; obtain ⟨_, q⟩ := hh.ob; exact ne_of q D.dct nofun
    have nxl : h.x ≠ l := by obtain ⟨_, _, _, D⟩ := hD; obtain ⟨_, q⟩ := hh.ob; exact ne_of q D.lst nofun
    have stay : ∀ {H2 : Hp}, Fr [d, l] H H2 → HouseAt K H2 h ts := fun f => hh.mono f (by simp [nxd, nxl]) (by simp [ndd, ndl]) (by simp [nld, nll])
    have kE : ∀ {H'}, Fr [d, l] H H' → H' e = some (.dK (tlk as)) := fun f => f.keep _ _ he (by simp [hed, nel])
    have pow : ∀ D : Nat, (1 : Int) * 2 ^ ((D : Int).toNat) = ((2 ^ D : Nat) : Int) := fun D => by rw [Int.one_mul, Int.toNat_natCast]; push_cast; rfl
    refine ⟨_, (pss_cons (ps_set (i := 4) sc_law_none.nd rfl (Or.inl rfl) (pc_call (ok_law_draw T) hr rfl T.g_law_draw (pa_cons (pv 0) (pa_cons pe_int pa_nil))))
      (pss_cons (ps_set (i := 5) sc_law_none.nd rfl (Or.inl rfl) (pc_call (ok_law_draw T) hr rfl T.g_law_draw (pa_cons (pv 0) (pa_cons (pe_op op_shl pe_int (pv 4)) pa_nil))))
      (pss_cons (ps_if (PW.pt (pw_or (pt_cmpR op_notN (pc_meth (ok_House_opened T) T.cl_House T.me_House_opened hr (pv 1) (pa_cons (pv 3) pa_nil)) pe_non (nomark _)) (pw_or1 (pt_cmpR op_notN (pc_call (ok_word_in T) hr rfl T.g_word_in (pa_cons (pv 1) (pa_cons (pv 3) (pa_cons (pv 4) (pa_cons (pv 5) pa_nil))))) pe_non (nomark _))))) (pss_one (ps_ret pe_bl)) pss_nil)
      (pss_cons (ps_if (PW.pt (pw_or (pt_cmpR op_notN (pc_call (ok_path_in T) hr rfl T.g_path_in (pa_cons (pv 1) (pa_cons (pv 3) (pa_cons (pv 4) (pa_cons (pv 5) pa_nil))))) pe_non (nomark _)) (pw_or1 (pt_cmpR op_notN (pc_call (ok_put_in T) hr rfl T.g_put_in (pa_cons (pv 1) (pa_cons (pv 3) (pa_cons (pv 4) (pa_cons (pv 5) (pa_cons pe_int pa_nil)))))) pe_non (nomark _))))) (pss_one (ps_ret pe_bl)) pss_nil)
      (pss_cons (ps_if (PW.pt (pw_or (pt_cmpR op_gt (pc_meth0 (ok_House_many T) T.cl_House T.me_House_many hr (pv 1)) (pe_callB call_lenD (by rfl) T.m_len (by decide +kernel) (pa_cons (pv 2) pa_nil)) (nomark _)) (pw_or1 (pt_cmpR op_eq (pe_callB call_lenD (by rfl) T.m_len (by decide +kernel) (pa_cons (pv 2) pa_nil)) pe_int (nomark _))))) (pss_one (ps_ret pe_bl)) pss_nil)
      (pss_cons (ps_setLc (i := 6) (own := [("j", 7)]) rfl sc_law_none.nd rfl rfl (sw_true rfl rfl rfl (by decide +kernel)) (pi_range1 (by rfl) T.m_range (pa_cons (pe_op op_add pe_int (pv 4)) pa_nil)) (blkOk_by (own := [("j", 7)]) (N := n_law_none) (sc := defScope s_law_none) (by decide +kernel)) (fun _ _ _ _ _ => (pg_name (i := 7) sc_law_none.nd rfl (Or.inl rfl))) (fun _ _ _ _ _ => pts_nil) (fun _ _ _ _ _ => (pe_ix (kix_list (K := K)) (pe_callTy (call_list_dK rfl) (by rfl) T.m_list (by decide +kernel) (pa_cons (pv 2) pa_nil)) (pc_call (ok_law_draw T) hr rfl T.g_law_draw (pa_cons (pv 0) (pa_cons (pe_callB call_lenD (by rfl) T.m_len (by decide +kernel) (pa_cons (pv 2) pa_nil)) pa_nil))) (fun _ _ => rfl))))
      (pss_cons (ps_asg (pv 3) (pg_sub (pv 6) (pc_call (ok_law_draw T) hr rfl T.g_law_draw (pa_cons (pv 0) (pa_cons (pe_op op_add pe_int (pv 4)) pa_nil))) set_list))
      (pss_cons (ps_if (pt_cmpR op_notN (pc_call (ok_comes_to T) hr rfl T.g_comes_to (pa_cons (pv 1) (pa_cons (pe_op op_add pe_int (pv 4)) (pa_cons (pe_tup (pa_cons (pe_tup (pa_cons (pv 5) (pa_cons pe_int (pa_cons (pe_callTy (kcall_tuple (K := K)) (by rfl) T.m_tuple (by decide +kernel) (pa_cons (pv 6) pa_nil)) pa_nil)))) pa_nil)) pa_nil)))) pe_non (nomark _)) (pss_one (ps_ret pe_bl)) pss_nil)
      (pss_one (ps_ret (pe_or (pe_cmpR op_gt (pc_meth0 (ok_House_many T) T.cl_House T.me_House_many hr (pv 1)) (pe_callB call_lenD (by rfl) T.m_len (by decide +kernel) (pa_cons (pv 2) pa_nil)) (nomark _)) (pe_one (pe_cmpR op_isN (pc_meth (ok_House_opened T) T.cl_House T.me_House_opened hr (pv 1) (pa_cons (pv 3) pa_nil)) pe_non (nomark _)))))))))))))), ?_⟩
    refine ⟨_, rfl, d, l, 4, rfl, hD, by decide, by decide, fun dd H1 d0 d1 D1 f1 => ?_⟩
    obtain ⟨D, rfl⟩ : ∃ D : Nat, dd = (D : Int) := ⟨dd.toNat, by omega⟩
    have hD4 : D < 4 := by omega
    have p2 : 2 ^ D ≤ 8 := by
      have : D = 0 ∨ D = 1 ∨ D = 2 ∨ D = 3 := by omega
      rcases this with rfl | rfl | rfl | rfl <;> decide
    have p1 : 1 ≤ 2 ^ D := Nat.one_le_two_pow
    refine ⟨_, rfl, _, rfl, _, _, rfl, rfl, ⟨by omega, by omega, by decide⟩, d, l, _, rfl, D1, by rw [pow]; omega, by rw [pow]; omega, fun kk H2 k0 k1 D2 f2 => ?_⟩
    rw [pow] at k1
    obtain ⟨kn, rfl⟩ : ∃ kn : Nat, kk = (kn : Int) := ⟨kk.toNat, by omega⟩
    have hkn : kn < 2 ^ D := by omega
    have g2 := f1.trans f2
    have h2 := stay g2
    obtain ⟨dx, hx⟩ := id h2.ob
    -- opened, word_in, path_in, put_in
    refine ⟨_, rfl, h.x, dx, _, rfl, hx, zip_none (by decide +kernel), _, rfl, h, ts, n, rfl, h2, fun _ => ?_, fun t a e _ => by rw [ho] at e; cases e⟩
    refine ⟨rfl, _, rfl, ?_⟩
    refine iteF ?_
    refine ⟨_, rfl, _, rfl, _, rfl, _, rfl, h, ts, n, D, kn, rfl, h2, by omega, hkn, fun H3 f3 => ?_⟩
    rw [dn_none ho]
    refine ⟨rfl, _, rfl, ?_⟩
    refine iteF ?_
    have h3 := h2.same f3
    refine ⟨_, rfl, _, rfl, _, rfl, _, rfl, h, ts, n, D, kn, rfl, h3, by omega, hkn, fun H4 f4 _ => ?_, fun _ _ _ _ _ _ e => by rw [dn_none ho] at e; cases e⟩
    refine ⟨rfl, _, rfl, ?_⟩
    refine iteF ?_
    have h4 := h3.same f4
    refine ⟨_, rfl, _, rfl, _, rfl, _, rfl, h, ts, n, D, kn, 5, rfl, h4, by omega, hkn, by omega, fun H5 f5 _ => ?_, fun _ _ _ _ e => by rw [dn_none ho] at e; cases e⟩
    refine ⟨rfl, _, rfl, ?_⟩
    refine iteF ?_
    have e5 : Fr [] H2 H5 := (f3.trans f4).trans f5
    have g5 := g2.trans e5.nil
    have h5 := stay g5
    have D5 := D2.same e5
    obtain ⟨dx5, hx5⟩ := id h5.ob
    -- as many as were told
    refine ⟨_, rfl, h.x, dx5, _, rfl, hx5, zip_none (by decide +kernel), h, ts, rfl, h5, ?_⟩
    refine ⟨_, rfl, e, _, rfl, kE g5, _, _, rfl, rfl, _, rfl, ?_⟩
    rw [tlk_len, hth.1, decide_eq_false (Int.lt_irrefl _)]
    refine iteF ?_
    refine ⟨_, rfl, e, _, rfl, kE g5, rfl, _, rfl, ?_⟩
    rw [tlk_len, hth.1]
    by_cases z : ts.length = 0
    · have ez : decide (V.int ((ts.length : Nat) : Int) = V.int 0) = true := by rw [z]; exact decide_eq_true rfl
      rw [ez]
      refine iteT ?_
      exact k H5 D5 g5
    · have ez : decide (V.int ((ts.length : Nat) : Int) = V.int 0) = false := decide_eq_false fun q => z (by injection q with q; exact_mod_cast q)
      rw [ez]
      refine iteF ?_
      -- the row of told numbers
      refine ⟨_, rfl, _, _, rfl, rfl, _, rfl, by omega, by omega, fun B hB => ?_⟩
      have eD : ((1 : Int) + (D : Int)).toNat = 1 + D := by omega
      rw [eD]
      have hB0 : H B = none := g5.dom B hB
      refine lc_range (lo := 0) (n := 1 + D) (fun i H6 => Fr [d, l] H H6 ∧ DealAt H6 d l ∧ ∃ acc : List Int, H6 B = some (.lst (acc.map V.int)) ∧ acc.length = i) ⟨g5.new hB, D5.same ((Fr.refl _ H5).new hB), [], upd_same, rfl⟩ ?_ ?_
      · rintro i H6 hi ⟨g6, D6, acc, hacc, hal⟩
        refine ⟨rfl, ?_⟩
        refine yesT ?_
        refine ⟨_, rfl, e, _, rfl, kE g6, fun q hq => ?_⟩
        rw [tlk_keys]
        have g7 := g6.new (o := .lst ((nums as.length).map V.int)) hq
        have hq7 : upd H6 q (.lst ((nums as.length).map V.int)) q = some (.lst ((nums as.length).map V.int)) := upd_same
        have D7 := D6.same ((Fr.refl [] H6).new (o := .lst ((nums as.length).map V.int)) hq)
        have hB7 : upd H6 q (.lst ((nums as.length).map V.int)) B = some (.lst (acc.map V.int)) := upd_old hq hacc
        have nql : q ∉ [d, l] := by
          obtain ⟨_, _, _, DD⟩ := D6
          simp only [List.mem_cons, List.not_mem_nil, or_false, not_or]
          exact ⟨(ne_of_none DD.dct hq).symm, (ne_of_none DD.lst hq).symm⟩
        have nBl : B ∉ [d, l] := by
          obtain ⟨_, _, _, DD⟩ := hD
          simp only [List.mem_cons, List.not_mem_nil, or_false, not_or]
          exact ⟨(ne_of_none DD.dct hB0).symm, (ne_of_none DD.lst hB0).symm⟩
        generalize upd H6 q (.lst ((nums as.length).map V.int)) = H7 at g7 hq7 D7 hB7 ⊢
        refine ⟨_, rfl, _, rfl, e, _, rfl, kE g7, d, l, _, rfl, D7, by rw [tlk_len, hth.1]; omega, by rw [tlk_len, hth.1]; omega, fun v H8 v0 v1 D8 f8 => ?_⟩
        rw [tlk_len] at v1
        refine ⟨q, _, v, V.int (v + 1), rfl, rfl, SqL.of (f8.keep _ _ hq7 nql), at_of (j := v.toNat) (by omega) ?_, ?_⟩
        · rw [List.getElem?_map, nums_at (by omega)]
          show some (V.int ((v.toNat : Int) + 1)) = _
          rw [Int.toNat_of_nonneg v0]
        refine ⟨_, f8.keep _ _ hB7 nBl, by rw [List.length_map, hal]; show i < 16777216; omega, (g7.trans f8).mine hB0, D8.mono (S := [B]) ((Fr.refl _ H8).set (f8.keep _ _ hB7 nBl) rfl (by simp)) ?_ ?_, acc ++ [v + 1], by rw [upd_same, List.map_append]; rfl, by simp [hal]⟩
        · simp only [List.mem_singleton]; exact fun q => nBl (by simp [q])
        · simp only [List.mem_singleton]; exact fun q => nBl (by simp [q])
      · rintro H6 ⟨g6, D6, acc, hacc, hal⟩
        have nBl : B ∉ [d, l] := by
          obtain ⟨_, _, _, DD⟩ := hD
          simp only [List.mem_cons, List.not_mem_nil, or_false, not_or]
          exact ⟨(ne_of_none DD.dct hB0).symm, (ne_of_none DD.lst hB0).symm⟩
        -- one of them is the number
        refine ⟨_, rfl, _, rfl, _, rfl, _, rfl, _, _, rfl, rfl, d, l, _, rfl, D6, by omega, by omega, fun v H7 v0 v1 D7 f7 => ?_⟩
        have hB7 := f7.keep _ _ hacc nBl
        refine ⟨B, _, v, v.toNat, rfl, rfl, hB7, ?_, ?_⟩
        · rw [List.length_map, hal]
          unfold ixN
          rw [if_pos v0, if_pos (by omega)]
        have g8 := (g6.trans f7).mine (o := .lst ((acc.map V.int).set v.toNat (.int n))) hB0
        have hB8 : upd H7 B (.lst ((acc.map V.int).set v.toNat (.int n))) B = some (.lst ((acc.set v.toNat n).map V.int)) := upd_same.trans (by rw [List.map_set])
        have D8 : DealAt (upd H7 B (.lst ((acc.map V.int).set v.toNat (.int n)))) d l := D7.mono (S := [B]) ((Fr.refl _ H7).set hB7 rfl (by simp)) (by simp only [List.mem_singleton]; exact fun q => nBl (by simp [q])) (by simp only [List.mem_singleton]; exact fun q => nBl (by simp [q]))
        have hs : n ∈ acc.set v.toNat n := List.mem_of_getElem? (List.getElem?_set_self (by omega))
        have hsl : (acc.set v.toNat n).length = 1 + D := by rw [List.length_set]; exact hal
        generalize acc.set v.toNat n = bs at hB8 hs hsl
        generalize upd H7 B (.lst ((acc.map V.int).set v.toNat (.int n))) = H8 at g8 hB8 D8 ⊢
        -- comes_to
        refine ⟨_, rfl, _, rfl, _, _, rfl, rfl, _, rfl, _, rfl, B, _, rfl, .inl ⟨SqL.of hB8, fun sb hsb => ?_⟩⟩
        have hsb1 : upd H8 sb (.tup (bs.map V.int)) sb = some (.tup (bs.map V.int)) := upd_same
        refine ⟨(by show 3 ≤ sizeLine; decide), fun pa hpa => ?_⟩
        have hpa1 : upd (upd H8 sb (.tup (bs.map V.int))) pa (.tup [.int (kn : Nat), .int 3, .ref sb]) pa = some (.tup [.int (kn : Nat), .int 3, .ref sb]) := upd_same
        refine ⟨(by show 1 ≤ sizeLine; decide), fun pp hpp => ?_⟩
        have e9 := (((Fr.refl [] H8).new (o := .tup (bs.map V.int)) hsb).new (o := .tup [.int (kn : Nat), .int 3, .ref sb]) hpa).new (o := .tup [.ref pa]) hpp
        have hP : PthsAt (upd (upd (upd H8 sb (.tup (bs.map V.int))) pa (.tup [.int (kn : Nat), .int 3, .ref sb])) pp (.tup [.ref pa])) pp [⟨kn, 3, bs⟩] := by
          refine ⟨[pa], upd_same, rfl, fun i b p h1 h2 => ?_⟩
          match i, h1, h2 with
          | 0, h1, h2 =>
            cases h1; cases h2
            exact ⟨sb, upd_old hpp hpa1, upd_old hpp (upd_old hpa hsb1)⟩
          | i + 1, h1, h2 => simp at h1
        have hf : hform ts (1 + D) [⟨kn, 3, bs⟩] [] = false := by
          show (pOk ts (1 + D) [] ⟨kn, 3, bs⟩ && _) = false
          have : (bs.any fun b => (opn ts b).isNone) = true := List.any_eq_true.mpr ⟨n, hs, by rw [ho]; rfl⟩
          unfold pOk
          simp only [this, Bool.not_true, Bool.and_false, Bool.false_and]
        have g9 := g8.trans e9.nil
        refine ⟨h, ts, 1 + D, pp, [⟨kn, 3, bs⟩], ?_, stay g9, by omega, hP, by show 1 ≤ 1000; decide, fun p hp => ?_, hf, fun H10 f10 => ?_⟩
        · show [V.ref h.x, V.int (1 + (D : Int)), V.ref pp] = [V.ref h.x, V.int ((1 + D : Nat) : Int), V.ref pp]
          congr 3
        · rw [List.mem_singleton.mp hp]; show bs.length ≤ 10000; omega
        refine ⟨rfl, _, rfl, ?_⟩
        refine iteF ?_
        have g10 := g9.trans f10.nil
        have h10 := stay g10
        have D10 := D8.same (e9.trans f10)
        obtain ⟨dx10, hx10⟩ := id h10.ob
        refine ⟨_, rfl, h.x, dx10, _, rfl, hx10, zip_none (by decide +kernel), h, ts, rfl, h10, ?_⟩
        refine ⟨_, rfl, e, _, rfl, kE g10, _, _, rfl, rfl, _, rfl, ?_⟩
        rw [tlk_len, hth.1, decide_eq_false (Int.lt_irrefl _)]
        refine iteF ?_
        refine ⟨_, rfl, h.x, dx10, _, rfl, hx10, zip_none (by decide +kernel), _, rfl, h, ts, n, rfl, h10, fun _ => ?_, fun t a e _ => by rw [ho] at e; cases e⟩
        exact ⟨rfl, k H10 D10 g10⟩
end
end Ct

set_option Elab.async false
set_option linter.all false
set_option maxRecDepth 100000
set_option maxHeartbeats 4000000
namespace Ct
open PySem PySem.Spec PyProof.Rows L2 RT

/-! ### texts of data -/
theorem int_show {i : Int} (h0 : 0 ≤ i) (h : i < 2 ^ 63) : (PyData.int i).showable = true := by
  simp only [PyData.showable, decide_eq_true_eq]
  by_cases z : i.natAbs = 0
  · rw [z]; decide
  · have := (Nat.log2_lt z).mpr (show i.natAbs < 2 ^ 63 by omega)
    omega
theorem showAll_of : ∀ {ds : List PyData}, (∀ d ∈ ds, d.showable = true) → PyData.showableAll ds = true
  | [], _ => rfl
  | d :: ds, h => by
    simp only [PyData.showableAll, h d List.mem_cons_self, showAll_of fun e he => h e (List.mem_cons_of_mem _ he), Bool.and_self]
theorem rszAll_ints : ∀ ns : List Int, rszAll (ns.map PyData.int) = 1921 * ns.length
  | [] => rfl
  | n :: ns => by
    simp only [List.map_cons, rszAll, rsz, rszAll_ints ns, List.length_cons]
    omega
/-- a word and the seals beside its path -/
def pathD (v : Int) (bs : List Int) : PyData := .tuple [.int v, .tuple (bs.map PyData.int)]
theorem is_path {H : Hp} {p l : Addr} {v : Int} {bs : List Int} (hp : H p = some (.tup [.int v, .ref l])) (hl : H l = some (.tup (bs.map V.int))) : Is H (.ref p) (pathD v bs) := by
  refine .tup hp rfl fun i x d h1 h2 => ?_
  match i, h1, h2 with
  | 0, h1, h2 => cases h1; cases h2; exact .int _
  | 1, h1, h2 => cases h1; cases h2; exact is_ints hl
  | i + 2, h1, h2 => simp at h1
theorem path_show {v : Int} {bs : List Int} (hv0 : 0 ≤ v) (hv : v < 2 ^ 63) (hb : ∀ b ∈ bs, 0 ≤ b ∧ b < 2 ^ 63) (hl : bs.length ≤ 100) : (pathD v bs).showable = true ∧ rsz (pathD v bs) ≤ sizeLine ∧ (pathD v bs).depth ≤ 60 := by
  refine ⟨?_, ?_, ?_⟩
  · have h1 := int_show hv0 hv
    have h2 : PyData.showableAll (bs.map PyData.int) = true := showAll_of fun d hd => by
      obtain ⟨b, hb1, rfl⟩ := List.mem_map.mp hd
      exact int_show (hb b hb1).1 (hb b hb1).2
    show PyData.showableAll [.int v, .tuple (bs.map PyData.int)] = true
    simp only [PyData.showableAll, h1, PyData.showable, h2, Bool.and_self]
    have h3 : decide (v.natAbs.log2 < 1920) = true := by simpa only [PyData.showable] using h1
    rw [h3]; rfl
  · show (1921 + ((rszAll (bs.map PyData.int) + 2 * (bs.map PyData.int).length + 3) + 0)) + 2 * 2 + 3 ≤ 16777216
    rw [rszAll_ints, List.length_map]
    omega
  · show max 0 (max (PyData.depthAll (bs.map PyData.int) + 1) 0) + 1 ≤ 60
    have : PyData.depthAll (bs.map PyData.int) ≤ 0 := depthAll_of fun d hd => by
      obtain ⟨b, _, rfl⟩ := List.mem_map.mp hd
      exact Nat.le_refl _
    omega
theorem thD_show {n : Nat} {t : Thing} (h : TWf n t) (hn : n < 1000000) : (thD t).showable = true ∧ rsz (thD t) ≤ sizeLine ∧ (thD t).depth ≤ 60 := by
  cases t with
  | leaf w =>
    refine ⟨?_, ?_, by show 0 + 1 ≤ 60; decide⟩
    · have h1 := int_show h.1 (show w < 2 ^ 63 by have := h.2; omega)
      show (true && (PyData.showable (.int w) && true)) = true
      rw [h1]; rfl
    · have : (reprText "leaf").length ≤ 100 := by decide +kernel
      show ((reprText "leaf").length + (1921 + 0)) + 2 * 2 + 3 ≤ 16777216
      omega
  | pair a b =>
    obtain ⟨h1, h2, h3, h4⟩ := h
    refine ⟨?_, ?_, by show 0 + 1 ≤ 60; decide⟩
    · have e1 := int_show (Int.le_of_lt h1) (show a < 2 ^ 63 by omega)
      have e2 := int_show (Int.le_of_lt h3) (show b < 2 ^ 63 by omega)
      show (true && (PyData.showable (.int a) && (PyData.showable (.int b) && true))) = true
      rw [e1, e2]; rfl
    · have : (reprText "pair").length ≤ 100 := by decide +kernel
      show ((reprText "pair").length + (1921 + (1921 + 0))) + 2 * 3 + 3 ≤ 16777216
      omega
theorem wf_at {ts : List Thing} (wf : Wf ts) {s : Int} {t : Thing} (h : opn ts s = some t) : TWf ts.length t := by
  unfold opn at h
  split at h
  · exact wf t (List.mem_of_getElem? h)
  · cases h
theorem dn_wf {ts : List Thing} (wf : Wf ts) (k : Nat) : ∀ (d : Nat) (s v : Int) (bs : List Int), dn ts k d s = some (v, bs) → (0 ≤ v ∧ v < 4294967296) ∧ ∀ b ∈ bs, 0 < b ∧ b ≤ (ts.length : Int)
  | 0, s, v, bs, h => by
    cases e : opn ts s with
    | none => rw [dn_noL (by rw [e]; nofun)] at h; cases h
    | some t =>
      cases t with
      | pair a b => rw [dn_noL (by rw [e]; nofun)] at h; cases h
      | leaf w =>
        rw [dn_leaf e] at h
        cases h
        exact ⟨wf_at wf e, fun b hb => by cases hb⟩
  | d + 1, s, v, bs, h => by
    cases e : opn ts s with
    | none => rw [dn_noP (by rw [e]; nofun)] at h; cases h
    | some t =>
      cases t with
      | leaf w => rw [dn_noP (by rw [e]; nofun)] at h; cases h
      | pair a b =>
        rw [dn_pair e] at h
        obtain ⟨h1, h2, h3, h4⟩ := wf_at wf e
        cases q : dn ts k d (if bitN k d = 0 then a else b) with
        | none => rw [q] at h; cases h
        | some r =>
          rw [q] at h
          cases h
          obtain ⟨w1, w2⟩ := dn_wf wf k d _ r.1 r.2 q
          refine ⟨w1, fun c hc => ?_⟩
          rcases List.mem_cons.mp hc with rfl | hc
          · split <;> constructor <;> assumption
          · exact w2 c hc
def sp_law_asked (K : PySem.W.Frag) : Sp := fun vs H Q _ => ∃ (d l : Addr) (h : HA) (e e2 : Addr) (ts us : List Thing), vs = [.ref d, .ref h.x, .ref e, .ref e2] ∧ DealAt H d l ∧ HouseAt K H h ts ∧ ToldAt H e ts ∧ ToldAt H e2 us ∧ Wf ts ∧ ts.length < 1000 ∧ us.length < 1000 ∧ e ≠ d ∧ e2 ≠ d ∧
  ∀ H', DealAt H' d l → Fr [d, l] H H' → Q (.bl true) H'
def sp_law_again (K : PySem.W.Frag) : Sp := fun vs H Q _ => ∃ (h : HA) (e : Addr) (ts : List Thing), vs = [.ref h.x, .ref e] ∧ HouseAt K H h ts ∧ ToldAt H e ts ∧ Wf ts ∧ ts.length < 1000 ∧
  ∀ H', HouseAt K H' h ts → Fr [h.d, h.l] H H' → Q (.bl true) H'
section
variable {P : Program} {w : World} {K : PySem.W.Frag} {mg : Str → Option Value} {base : Heap}
theorem ok_law_again (T : Txt K mg) : OkG P w K mg base 3 (He.fAd K a_law_again) p_law_again (sp_law_again K) := by
  refine okG_by T.F_law_again sc_law_again bi_law_again (fun vs H Q E h => ?_) (fun cdv A outer s H vs Q E hG hr h => ?_)
  · obtain ⟨h, e, ts, rfl, _⟩ := h; rfl
  · obtain ⟨h, e, ts, rfl, hh, hT, wf, hn, k⟩ := h
    have hu := hu_of hr
    obtain ⟨as, he, hth⟩ := id hT
    have nedd : e ≠ h.d := ne_of he hh.dct nofun
    have nedl : e ≠ h.l := by obtain ⟨_, q, _⟩ := hh.lst; exact ne_of he q nofun
    refine ⟨_, (pss_cons (ps_for PassesOwn.never rfl (kpi_list (K := K) (pe_callTy (call_list_dK rfl) (by rfl) T.m_list (by decide +kernel) (pa_cons (pv 1) pa_nil))) (pg_name (i := 2) sc_law_again.nd rfl (Or.inl rfl)) (pss_cons (ps_set (i := 3) sc_law_again.nd rfl (Or.inl rfl) (pe_dget hu (pv 1) (pv 2) (fun _ _ => rfl)))
      (pss_cons (ps_if (pt_cmpR op_ne (pe_callB (call_repr_D hG hr.units) (by rfl) T.m_repr (by decide +kernel) (pa_cons (pc_meth (ok_House_opened T) T.cl_House T.me_House_opened hr (pv 0) (pa_cons (pv 2) pa_nil)) pa_nil)) (pe_callB (call_repr_D hG hr.units) (by rfl) T.m_repr (by decide +kernel) (pa_cons (pv 3) pa_nil)) (nomark _)) (pss_one (ps_ret pe_bl)) pss_nil)
      (pss_cons (ps_if (PW.pt (pw_and (pt_cmpR op_eq (pe_ix (kix_tup (K := K)) (pv 3) pe_int (fun _ _ => rfl)) pe_str (nomark _)) (pw_and1 (pt_cmpR op_ne (pc_meth (ok_House_leaf T) T.cl_House T.me_House_leaf hr (pv 0) (pa_cons (pe_ix (kix_tup (K := K)) (pv 3) pe_int (fun _ _ => rfl)) pa_nil)) (pv 2) (nomark _))))) (pss_one (ps_ret pe_bl)) pss_nil)
      (pss_one (ps_if (PW.pt (pw_and (pt_cmpR op_eq (pe_ix (kix_tup (K := K)) (pv 3) pe_int (fun _ _ => rfl)) pe_str (nomark _)) (pw_and1 (pt_cmpR op_ne (pc_meth (ok_House_pair T) T.cl_House T.me_House_pair hr (pv 0) (pa_cons (pe_ix (kix_tup (K := K)) (pv 3) pe_int (fun _ _ => rfl)) (pa_cons (pe_ix (kix_tup (K := K)) (pv 3) pe_int (fun _ _ => rfl)) pa_nil))) (pv 2) (nomark _))))) (pss_one (ps_ret pe_bl)) pss_nil))))))
      (pss_one (ps_ret (pe_cmpR op_ge (pc_meth0 (ok_House_many T) T.cl_House T.me_House_many hr (pv 0)) (pe_callB call_lenD (by rfl) T.m_len (by decide +kernel) (pa_cons (pv 1) pa_nil)) (nomark _))))), ?_⟩
    refine ⟨_, rfl, e, _, rfl, he, fun p hp => ?_⟩
    rw [tlk_keys]
    have npd : p ∉ [h.d, h.l] := by
      obtain ⟨_, q, _⟩ := hh.lst
      simp only [List.mem_cons, List.not_mem_nil, or_false, not_or]
      exact ⟨(ne_of_none hh.dct hp).symm, (ne_of_none q hp).symm⟩
    have hp1 : upd H p (.lst ((nums as.length).map V.int)) p = some (.lst ((nums as.length).map V.int)) := upd_same
    refine ⟨p, rfl, ⟨_, SqL.of hp1⟩, for_list (K := K) (a := p) (xs := (nums as.length).map V.int) (fun i σ H2 => ∃ o1 o2, σ = [some (.ref h.x), some (.ref e), o1, o2] ∧ Fr [h.d, h.l] H H2 ∧ HouseAt K H2 h ts ∧ H2 p = some (.lst ((nums as.length).map V.int)))
      ⟨_, _, rfl, ((Fr.refl _ H).new hp), hh.same ((Fr.refl _ H).new hp), hp1⟩ (fun i σ H2 _ ⟨_, _, _, _, _, q⟩ => SqL.of q) ?_ ?_⟩
    · rintro i y σ H2 hy ⟨o1, o2, rfl, f, h2, hp2⟩
      have hi : i < ts.length := by
        have := (List.getElem?_eq_some_iff.mp hy).1
        rw [List.length_map, nums_len, hth.1] at this
        exact this
      have ey : y = V.int ((i : Int) + 1) := by
        rw [List.getElem?_map, nums_at (by rw [hth.1]; exact hi)] at hy
        exact (Option.some.inj hy).symm
      subst ey
      have ho : opn ts ((i : Int) + 1) = some ts[i] := by
        unfold opn
        rw [if_pos (by omega)]
        have : ((i : Int) + 1 - 1).toNat = i := by omega
        rw [this, List.getElem?_eq_getElem hi]
      have T2 := hT.mono f (by simp [nedd, nedl])
      obtain ⟨a, hg, ha⟩ := told_get T2 ho
      obtain ⟨sh1, sh2, sh3⟩ := thD_show (wf_at wf ho) (by omega)
      obtain ⟨dx, hx⟩ := id h2.ob
      refine ⟨_, rfl, _, rfl, e, _, rfl, hg, ?_⟩
      refine ⟨_, rfl, h.x, dx, _, rfl, hx, zip_none (by decide +kernel), _, rfl, h, ts, _, rfl, h2, fun q => (by rw [ho] at q; cases q), fun t b q hb => ?_⟩
      rw [ho] at q
      cases q
      refine ⟨_, _, rfl, is_thing hb, sh1, sh2, sh3, ?_⟩
      refine ⟨_, rfl, _, _, rfl, is_thing ha, sh1, sh2, sh3, rfl, _, rfl, ?_⟩
      rw [decide_eq_true rfl]
      refine iteF ?_
      have ix : ixOf ts ts[i] = some i := by
        have hm : ixOf ts ts[i] ≠ none := fun z => ixOf_none.mp z (List.getElem_mem hi)
        cases z : ixOf ts ts[i] with
        | none => exact absurd z hm
        | some j =>
          have e1 := ixOf_some z
          rw [nd_ix hh.nd e1 (List.getElem?_eq_getElem hi)]
      have en : numT ts ts[i] = (i : Int) + 1 := by unfold numT; rw [ix]
      have ea : addT ts ts[i] = ts := if_pos (List.getElem_mem hi)
      cases et : ts[i] with
      | leaf v =>
        rw [et] at ha en ea
        refine ⟨_, rfl, a, _, _, _, rfl, rfl, SqT.of ha, at_of (j := 0) rfl rfl, rfl, _, rfl, ?_⟩
        refine iteT ?_
        refine ⟨_, rfl, h.x, dx, _, rfl, hx, zip_none (by decide +kernel), _, rfl, a, _, _, V.int v, rfl, rfl, SqT.of ha, at_of (j := 1) rfl rfl, h, ts, v, rfl, h2, by omega, fun H3 h3 f3 => ?_⟩
        rw [en]
        refine ⟨_, rfl, rfl, _, rfl, ?_⟩
        rw [decide_eq_true rfl]
        refine iteF ?_
        refine ⟨_, rfl, a, _, _, _, rfl, rfl, SqT.of (f3.tup _ _ ha), at_of (j := 0) rfl rfl, rfl, _, rfl, ?_⟩
        refine iteF ?_
        refine iteF ?_
        exact ⟨_, _, rfl, f.trans f3, by rw [ea] at h3; exact h3, f3.keep _ _ hp2 npd⟩
      | pair a1 b1 =>
        rw [et] at ha en ea
        refine ⟨_, rfl, a, _, _, _, rfl, rfl, SqT.of ha, at_of (j := 0) rfl rfl, rfl, _, rfl, ?_⟩
        refine iteF ?_
        refine iteF ?_
        refine ⟨_, rfl, a, _, _, _, rfl, rfl, SqT.of ha, at_of (j := 0) rfl rfl, rfl, _, rfl, ?_⟩
        refine iteT ?_
        refine ⟨_, rfl, h.x, dx, _, rfl, hx, zip_none (by decide +kernel), _, rfl, a, _, _, V.int a1, rfl, rfl, SqT.of ha, at_of (j := 1) rfl rfl, _, rfl, a, _, _, V.int b1, rfl, rfl, SqT.of ha, at_of (j := 2) rfl rfl, h, ts, a1, b1, rfl, h2, by omega, fun H3 h3 f3 => ?_⟩
        rw [en]
        refine ⟨_, rfl, rfl, _, rfl, ?_⟩
        rw [decide_eq_true rfl]
        refine iteF ?_
        exact ⟨_, _, rfl, f.trans f3, by rw [ea] at h3; exact h3, f3.keep _ _ hp2 npd⟩
    · rintro σ H2 ⟨o1, o2, rfl, f, h2, hp2⟩
      obtain ⟨dx, hx⟩ := id h2.ob
      have he2 := f.keep _ _ he (by simp [nedd, nedl])
      refine ⟨_, rfl, h.x, dx, _, rfl, hx, zip_none (by decide +kernel), h, ts, rfl, h2, ?_⟩
      refine ⟨_, rfl, e, _, rfl, he2, _, _, rfl, rfl, ?_⟩
      rw [tlk_len, hth.1]
      have z := k H2 h2 f
      show Q (V.bl (decide ((ts.length : Int) ≤ (ts.length : Int)))) H2
      rw [decide_eq_true (Int.le_refl _)]
      exact z
end
end Ct

set_option Elab.async false
set_option linter.all false
set_option maxRecDepth 100000
set_option maxHeartbeats 4000000
namespace Ct
open PySem PySem.Spec PyProof.Rows L2 RT

section
variable {P : Program} {w : World} {K : PySem.W.Frag} {mg : Str → Option Value} {base : Heap}
theorem ok_law_asked (T : Txt K mg) : OkG P w K mg base 7 (He.fAd K a_law_asked) p_law_asked (sp_law_asked K) := by
  refine okG_by T.F_law_asked sc_law_asked bi_law_asked (fun vs H Q E h => ?_) (fun cdv A outer s H vs Q E hG hr h => ?_)
  · obtain ⟨d, l, h, e, e2, ts, us, rfl, _⟩ := h; rfl
  · obtain ⟨d, l, h, e, e2, ts, us, rfl, hD, hh, hT, hU, wf, hn, hn2, hed, hed2, k⟩ := h
    have hu := hu_of hr
    obtain ⟨as, he, hth⟩ := id hT
    have nel : e ≠ l := by obtain ⟨_, _, _, D⟩ := hD; exact ne_of he D.lst nofun
    have ndd : h.d ≠ d := by obtain ⟨_, _, _, D⟩ := hD; exact ne_of hh.dct D.dct nofun
    have ndl : h.d ≠ l := by obtain ⟨_, _, _, D⟩ := hD; exact ne_of hh.dct D.lst nofun
    have nld : h.l ≠ d := by obtain ⟨_, _, _, D⟩ := hD; obtain ⟨_, q, _⟩ := hh.lst; exact ne_of q D.dct nofun
    have nll : h.l ≠ l := by obtain ⟨_, _, _, D⟩ := hD; exact hl_ne hh D.lst
    have nxd : h.x ≠ d := by obtain ⟨_, _, _, D⟩ := hD; obtain ⟨_, q⟩ := hh.ob; exact ne_of q D.dct nofun
    have nxl : h.x ≠ l := by obtain ⟨_, _, _, D⟩ := hD; obtain ⟨_, q⟩ := hh.ob; exact ne_of q D.lst nofun
    have stay : ∀ {H2 : Hp}, Fr [d, l] H H2 → HouseAt K H2 h ts := fun f => hh.mono f (by simp [nxd, nxl]) (by simp [ndd, ndl]) (by simp [nld, nll])
    have kE : ∀ {H'}, Fr [d, l] H H' → H' e = some (.dK (tlk as)) := fun f => f.keep _ _ he (by simp [hed, nel])
    have kT : ∀ {H'}, Fr [d, l] H H' → ToldAt H' e ts := fun f => hT.mono f (by simp [hed, nel])
    have pow : ∀ D : Nat, (1 : Int) * 2 ^ ((D : Int).toNat) = ((2 ^ D : Nat) : Int) := fun D => by rw [Int.one_mul, Int.toNat_natCast]; push_cast; rfl
    obtain ⟨dx, hx⟩ := id hh.ob
    refine ⟨_, (pss_cons (ps_set (i := 4) sc_law_asked.nd rfl (Or.inl rfl) (pc_meth0 (ok_House_many T) T.cl_House T.me_House_many hr (pv 1)))
      (pss_cons (ps_set (i := 5) sc_law_asked.nd rfl (Or.inl rfl) (pc_call (ok_law_never T) hr rfl T.g_law_never (pa_cons (pv 0) (pa_cons (pv 2) (pa_cons (pv 3) pa_nil)))))
      (pss_cons (ps_if (PW.pt (pw_or (PW.pt (pw_and (pt_cmpR op_eq (pv 4) (pe_callB call_lenD (by rfl) T.m_len (by decide +kernel) (pa_cons (pv 2) pa_nil)) (nomark _)) (pw_and1 (pt_cmpR op_notN (pc_meth (ok_House_opened T) T.cl_House T.me_House_opened hr (pv 1) (pa_cons (pv 5) pa_nil)) pe_non (nomark _))))) (pw_or1 (pt_cmpR op_ne (pc_meth0 (ok_House_many T) T.cl_House T.me_House_many hr (pv 1)) (pv 4) (nomark _))))) (pss_one (ps_ret pe_bl)) pss_nil)
      (Evl.pss_cut (ps_if (pt_cmpR op_gt (pe_callB call_lenD (by rfl) T.m_len (by decide +kernel) (pa_cons (pv 2) pa_nil)) pe_int (nomark _)) (pss_cons (ps_set (i := 6) sc_law_asked.nd rfl (Or.inl rfl) (pe_ix (kix_list (K := K)) (pe_callTy (call_list_dK rfl) (by rfl) T.m_list (by decide +kernel) (pa_cons (pv 2) pa_nil)) (pc_call (ok_law_draw T) hr rfl T.g_law_draw (pa_cons (pv 0) (pa_cons (pe_callB call_lenD (by rfl) T.m_len (by decide +kernel) (pa_cons (pv 2) pa_nil)) pa_nil))) (fun _ _ => rfl)))
      (pss_cons (ps_set (i := 7) sc_law_asked.nd rfl (Or.inl rfl) (pc_call (ok_law_draw T) hr rfl T.g_law_draw (pa_cons (pv 0) (pa_cons pe_int pa_nil))))
      (pss_cons (ps_set (i := 8) sc_law_asked.nd rfl (Or.inl rfl) (pc_call (ok_law_draw T) hr rfl T.g_law_draw (pa_cons (pv 0) (pa_cons (pe_op op_shl pe_int (pv 7)) pa_nil))))
      (pss_cons (ps_set (i := 9) sc_law_asked.nd rfl (Or.inl rfl) (pc_call (ok_law_walked T) hr rfl T.g_law_walked (pa_cons (pv 2) (pa_cons (pv 6) (pa_cons (pv 7) (pa_cons (pv 8) pa_nil))))))
      (pss_cons (ps_if (pt_cmpR op_ne (pe_callB (call_repr_D hG hr.units) (by rfl) T.m_repr (by decide +kernel) (pa_cons (pc_call (ok_path_in T) hr rfl T.g_path_in (pa_cons (pv 1) (pa_cons (pv 6) (pa_cons (pv 7) (pa_cons (pv 8) pa_nil))))) pa_nil)) (pe_callB (call_repr_D hG hr.units) (by rfl) T.m_repr (by decide +kernel) (pa_cons (pv 9) pa_nil)) (nomark _)) (pss_one (ps_ret pe_bl)) pss_nil)
      (pss_one (ps_if (pt_cmpR op_ne (pe_callB (call_repr_D hG hr.units) (by rfl) T.m_repr (by decide +kernel) (pa_cons (pc_call (ok_word_in T) hr rfl T.g_word_in (pa_cons (pv 1) (pa_cons (pv 6) (pa_cons (pv 7) (pa_cons (pv 8) pa_nil))))) pa_nil)) (pe_callB (call_repr_D hG hr.units) (by rfl) T.m_repr (by decide +kernel) (pa_cons (pe_ix (kix_tup (K := K)) (pe_ix (kix_list (K := K)) (pe_lst (pa_cons (pv 9) (pa_cons (pe_tup (pa_cons pe_non pa_nil)) pa_nil))) (pe_callTy call_int1 (by rfl) T.m_int (by decide +kernel) (pa_cons (pe_cmpR op_isN (pv 9) pe_non (nomark _)) pa_nil)) (fun _ _ => rfl)) pe_int (fun _ _ => rfl)) pa_nil)) (nomark _)) (pss_one (ps_ret pe_bl)) pss_nil))))))) pss_nil)
      (pss_one (ps_ret (pe_or (pe_cmpR op_gt (pc_meth0 (ok_House_many T) T.cl_House T.me_House_many hr (pv 1)) (pe_callB call_lenD (by rfl) T.m_len (by decide +kernel) (pa_cons (pv 2) pa_nil)) (nomark _)) (pe_one (pc_call (ok_law_none T) hr rfl T.g_law_none (pa_cons (pv 0) (pa_cons (pv 1) (pa_cons (pv 2) (pa_cons (pv 5) pa_nil))))))))))))), ?_⟩
    refine ⟨_, rfl, h.x, dx, _, rfl, hx, zip_none (by decide +kernel), h, ts, rfl, hh, ?_⟩
    refine ⟨_, rfl, _, rfl, _, rfl, d, l, e, e2, ts, us, rfl, hD, hT, hU, hn, hn2, hed, hed2, fun n H1 hnn D1 f1 => ?_⟩
    have ho := opn_none (ts := ts) hnn
    have h1 := stay f1
    obtain ⟨dx1, hx1⟩ := id h1.ob
    refine ⟨_, rfl, _, rfl, e, _, rfl, kE f1, rfl, _, rfl, ?_⟩
    rw [tlk_len, hth.1, decide_eq_true rfl]
    refine iteT ?_
    refine ⟨_, rfl, h.x, dx1, _, rfl, hx1, zip_none (by decide +kernel), _, rfl, h, ts, n, rfl, h1, fun _ => ?_, fun t a q _ => by rw [ho] at q; cases q⟩
    refine ⟨rfl, _, rfl, ?_⟩
    refine iteF ?_
    refine ⟨_, rfl, h.x, dx1, _, rfl, hx1, zip_none (by decide +kernel), h, ts, rfl, h1, ?_⟩
    refine ⟨_, rfl, rfl, _, rfl, ?_⟩
    rw [decide_eq_true rfl]
    refine iteF ?_
    refine ⟨fun σ H2 => (∃ o6 o7 o8 o9, σ = [some (.ref d), some (.ref h.x), some (.ref e), some (.ref e2), some (.int (ts.length : Nat)), some (.int n), o6, o7, o8, o9]) ∧ Fr [d, l] H H2 ∧ DealAt H2 d l, ?_, ?_⟩
    · refine ⟨_, rfl, e, _, rfl, kE f1, _, _, rfl, rfl, _, rfl, ?_⟩
      rw [tlk_len, hth.1]
      by_cases z : (0 : Int) < (ts.length : Int)
      · rw [decide_eq_true z]
        refine iteT ?_
        -- a told seal, a depth, a place
        refine ⟨_, rfl, e, _, rfl, kE f1, fun q hq => ?_⟩
        rw [tlk_keys]
        have g2 := f1.new (o := .lst ((nums as.length).map V.int)) hq
        have hq2 : upd H1 q (.lst ((nums as.length).map V.int)) q = some (.lst ((nums as.length).map V.int)) := upd_same
        have D2 := D1.same ((Fr.refl [] H1).new (o := .lst ((nums as.length).map V.int)) hq)
        have nql : q ∉ [d, l] := by
          obtain ⟨_, _, _, DD⟩ := D1
          simp only [List.mem_cons, List.not_mem_nil, or_false, not_or]
          exact ⟨(ne_of_none DD.dct hq).symm, (ne_of_none DD.lst hq).symm⟩
        generalize upd H1 q (.lst ((nums as.length).map V.int)) = H2 at g2 hq2 D2 ⊢
        refine ⟨_, rfl, _, rfl, e, _, rfl, kE g2, d, l, _, rfl, D2, by rw [tlk_len, hth.1]; omega, by rw [tlk_len, hth.1]; omega, fun v H3 v0 v1 D3 f3 => ?_⟩
        rw [tlk_len, hth.1] at v1
        refine ⟨q, _, v, V.int (v + 1), rfl, rfl, SqL.of (f3.keep _ _ hq2 nql), at_of (j := v.toNat) (by omega) ?_, ?_⟩
        · rw [List.getElem?_map, nums_at (by rw [hth.1]; omega)]
          show some (V.int ((v.toNat : Int) + 1)) = _
          rw [Int.toNat_of_nonneg v0]
        have g3 := g2.trans f3
        have hs := opn_some (ts := ts) (s := v + 1) (by omega) (by omega)
        refine ⟨_, rfl, d, l, 3, rfl, D3, by decide, by decide, fun dd H4 d0 d1 D4 f4 => ?_⟩
        obtain ⟨D, rfl⟩ : ∃ D : Nat, dd = (D : Int) := ⟨dd.toNat, by omega⟩
        have p2 : 2 ^ D ≤ 4 := by
          have : D = 0 ∨ D = 1 ∨ D = 2 := by omega
          rcases this with rfl | rfl | rfl <;> decide
        have p1 : 1 ≤ 2 ^ D := Nat.one_le_two_pow
        have g4 := g3.trans f4
        refine ⟨_, rfl, _, rfl, _, _, rfl, rfl, ⟨by omega, by omega, by decide⟩, d, l, _, rfl, D4, by rw [pow]; omega, by rw [pow]; omega, fun kk H5 k0 k1 D5 f5 => ?_⟩
        rw [pow] at k1
        obtain ⟨kn, rfl⟩ : ∃ kn : Nat, kk = (kn : Int) := ⟨kk.toNat, by omega⟩
        have hkn : kn < 2 ^ D := by omega
        have g5 := g4.trans f5
        -- how it stands in the things told
        refine ⟨_, rfl, _, rfl, _, rfl, _, rfl, e, ts, v + 1, D, kn, rfl, kT g5, wf, hs, by omega, fun H6 f6 q6 => ?_, fun H6 u bs p r f6 q6 hp hr6 => ?_⟩
        · have g6 := g5.trans f6.nil
          have h6 := stay g6
          refine ⟨_, rfl, _, rfl, _, rfl, _, rfl, h, ts, v + 1, D, kn, rfl, h6, by omega, hkn, fun H7 f7 _ => ?_, fun _ _ _ _ _ _ q => by rw [q6] at q; cases q⟩
          refine ⟨_, .none, rfl, .non, rfl, by decide, by decide, ?_⟩
          refine ⟨_, rfl, _, .none, rfl, .non, rfl, by decide, by decide, rfl, _, rfl, ?_⟩
          rw [decide_eq_true rfl]
          refine iteF ?_
          have h7 := h6.same f7
          refine ⟨_, rfl, _, rfl, _, rfl, _, rfl, h, ts, v + 1, D, kn, rfl, h7, by omega, hkn, fun H8 f8 => ?_⟩
          rw [q6]
          refine ⟨_, .none, rfl, .non, rfl, by decide, by decide, ?_⟩
          refine ⟨_, rfl, (by show 1 ≤ sizeLine; decide), fun p hp => ?_⟩
          refine ⟨(by show 2 ≤ sizeLine; decide), fun r hr8 => ?_⟩
          refine ⟨_, rfl, rfl, .inr ⟨_, rfl, ?_⟩⟩
          refine ⟨r, _, _, V.ref p, rfl, rfl, SqL.of upd_same, at_of (j := 1) rfl rfl, ?_⟩
          refine ⟨p, _, _, V.non, rfl, rfl, SqT.of (upd_old hr8 upd_same), at_of (j := 0) rfl rfl, ?_⟩
          refine ⟨_, .none, rfl, .non, rfl, by decide, by decide, rfl, _, rfl, ?_⟩
          rw [decide_eq_true rfl]
          refine iteF ?_
          have e8 := ((((Fr.refl [] H5).trans f6).trans f7).trans f8).new (o := .tup [.non]) hp |>.new (o := .lst [.non, .ref p]) hr8
          exact ⟨⟨_, _, _, _, rfl⟩, g5.trans e8.nil, D5.same e8⟩
        · have g6 := g5.trans f6.nil
          have h6 := stay g6
          have hbl := dn_len ts kn D _ u bs q6
          obtain ⟨w1, w2⟩ := dn_wf wf kn D _ u bs q6
          obtain ⟨s1, s2, s3⟩ := path_show (v := u) (bs := bs.reverse) w1.1 (by omega) (fun b hb => by have := w2 b (List.mem_reverse.mp hb); omega) (by rw [List.length_reverse]; omega)
          refine ⟨_, rfl, _, rfl, _, rfl, _, rfl, h, ts, v + 1, D, kn, rfl, h6, by omega, hkn, fun _ _ q => (by rw [q6] at q; cases q), fun H7 u' bs' p' r' f7 q7 hp7 hr7 => ?_⟩
          rw [q6] at q7
          cases q7
          refine ⟨_, _, rfl, is_path hp7 hr7, s1, s2, s3, ?_⟩
          refine ⟨_, rfl, _, _, rfl, (is_path hp hr6).mono f7, s1, s2, s3, rfl, _, rfl, ?_⟩
          rw [decide_eq_true rfl]
          refine iteF ?_
          have h7 := h6.same f7
          refine ⟨_, rfl, _, rfl, _, rfl, _, rfl, h, ts, v + 1, D, kn, rfl, h7, by omega, hkn, fun H8 f8 => ?_⟩
          rw [q6]
          have iu := int_show w1.1 (show u < 2 ^ 63 by omega)
          refine ⟨_, .int u, rfl, .int u, iu, (by show 1921 ≤ 16777216; decide), (by show 0 ≤ 60; decide), ?_⟩
          refine ⟨_, rfl, (by show 1 ≤ sizeLine; decide), fun t ht => ?_⟩
          refine ⟨(by show 2 ≤ sizeLine; decide), fun r hr8 => ?_⟩
          refine ⟨_, rfl, rfl, .inr ⟨_, rfl, ?_⟩⟩
          have hp8 := f8.tup _ _ (f7.tup _ _ hp)
          refine ⟨r, _, _, V.ref p, rfl, rfl, SqL.of upd_same, at_of (j := 0) rfl rfl, ?_⟩
          refine ⟨p, _, _, V.int u, rfl, rfl, SqT.of (upd_old hr8 (upd_old ht hp8)), at_of (j := 0) rfl rfl, ?_⟩
          refine ⟨_, .int u, rfl, .int u, iu, (by show 1921 ≤ 16777216; decide), (by show 0 ≤ 60; decide), rfl, _, rfl, ?_⟩
          rw [decide_eq_true rfl]
          refine iteF ?_
          have e8 := ((((Fr.refl [] H5).trans f6).trans f7).trans f8).new (o := .tup [.non]) ht |>.new (o := .lst [.ref p, .ref t]) hr8
          exact ⟨⟨_, _, _, _, rfl⟩, g5.trans e8.nil, D5.same e8⟩
      · rw [decide_eq_false z]
        refine iteF ?_
        exact ⟨⟨_, _, _, _, rfl⟩, f1, D1⟩
    · rintro σ H2 ⟨⟨o6, o7, o8, o9, rfl⟩, f2, D2⟩
      have h2 := stay f2
      obtain ⟨dx2, hx2⟩ := id h2.ob
      refine ⟨_, rfl, h.x, dx2, _, rfl, hx2, zip_none (by decide +kernel), h, ts, rfl, h2, ?_⟩
      refine ⟨_, rfl, e, _, rfl, kE f2, _, _, rfl, rfl, _, rfl, ?_⟩
      rw [tlk_len, hth.1, decide_eq_false (Int.lt_irrefl _)]
      refine iteF ?_
      exact ⟨_, rfl, _, rfl, _, rfl, _, rfl, d, l, h, e, ts, n, rfl, D2, h2, kT f2, hn, hed, ho, fun H3 D3 f3 => k H3 D3 (f2.trans f3)⟩
end
end Ct

set_option Elab.async false
set_option linter.all false
set_option maxRecDepth 100000
set_option maxHeartbeats 4000000
namespace Ct
open PySem PySem.Spec PyProof.Rows L2 RT

/-! ### the law's own state: two houses, what each was told -/
structure LawSt (K : PySem.W.Frag) (H : Hp) (d l : Addr) (ha : HA) (ea : Addr) (ta : List Thing) (hb : HA) (eb : Addr) (tb : List Thing) : Prop where
  D : DealAt H d l
  A : HouseAt K H ha ta
  B : HouseAt K H hb tb
  TA : ToldAt H ea ta
  TB : ToldAt H eb tb
  wa : Wf ta
  wb : Wf tb
  ead : ea ≠ d
  ebd : eb ≠ d
  ee : ea ≠ eb
  dd : ha.d ≠ hb.d
  ll : ha.l ≠ hb.l
theorem LawSt.symm {K : PySem.W.Frag} {H : Hp} {d l : Addr} {ha hb : HA} {ea eb : Addr} {ta tb : List Thing} (s : LawSt K H d l ha ea ta hb eb tb) : LawSt K H d l hb eb tb ha ea ta :=
  ⟨s.D, s.B, s.A, s.TB, s.TA, s.wb, s.wa, s.ebd, s.ead, s.ee.symm, s.dd.symm, s.ll.symm⟩
theorem LawSt.deal {K : PySem.W.Frag} {H H' : Hp} {d l : Addr} {ha hb : HA} {ea eb : Addr} {ta tb : List Thing} (s : LawSt K H d l ha ea ta hb eb tb) (f : Fr [d, l] H H') (D' : DealAt H' d l) : LawSt K H' d l ha ea ta hb eb tb := by
  have hx : ∀ {h : HA} {t : List Thing}, HouseAt K H h t → HouseAt K H' h t := fun {h t} a => by
    obtain ⟨_, _, _, D⟩ := s.D
    obtain ⟨_, x⟩ := id a.ob
    obtain ⟨_, q, _⟩ := id a.lst
    exact a.mono f (by simp [ne_of x D.dct nofun, ne_of x D.lst nofun]) (by simp [ne_of a.dct D.dct nofun, ne_of a.dct D.lst nofun]) (by simp [ne_of q D.dct nofun, hl_ne a D.lst])
  have ht : ∀ {e : Addr} {t : List Thing}, e ≠ d → ToldAt H e t → ToldAt H' e t := fun {e t} n a => by
    obtain ⟨_, _, _, D⟩ := s.D
    obtain ⟨_, q, _⟩ := id a
    exact a.mono f (by simp [n, ne_of q D.lst nofun])
  exact ⟨D', hx s.A, hx s.B, ht s.ead s.TA, ht s.ebd s.TB, s.wa, s.wb, s.ead, s.ebd, s.ee, s.dd, s.ll⟩
theorem LawSt.made {K : PySem.W.Frag} {H H' : Hp} {d l : Addr} {ha hb : HA} {ea eb : Addr} {ta ta' tb : List Thing} (s : LawSt K H d l ha ea ta hb eb tb) (f : Fr [d, l, ha.d, ha.l, ea] H H') (D' : DealAt H' d l) (A' : HouseAt K H' ha ta') (T' : ToldAt H' ea ta') (w' : Wf ta') :
    LawSt K H' d l ha ea ta' hb eb tb := by
  obtain ⟨_, _, _, D⟩ := s.D
  obtain ⟨_, x⟩ := id s.B.ob
  obtain ⟨_, q, _⟩ := id s.B.lst
  obtain ⟨_, q2, _⟩ := id s.A.lst
  obtain ⟨_, t1, _⟩ := id s.TA
  obtain ⟨_, t2, _⟩ := id s.TB
  refine ⟨D', A', s.B.mono f ?_ ?_ ?_, T', s.TB.mono f ?_, w', s.wb, s.ead, s.ebd, s.ee, s.dd, s.ll⟩
  · simp [ne_of x D.dct nofun, ne_of x D.lst nofun, ne_of x s.A.dct nofun, ne_of x q2 nofun, ne_of x t1 nofun]
  · simp [ne_of s.B.dct D.dct nofun, ne_of s.B.dct D.lst nofun, s.dd.symm, ne_of s.B.dct q2 nofun, ne_of s.B.dct t1 nofun]
  · simp [ne_of q D.dct nofun, hl_ne s.B D.lst, ne_of q s.A.dct nofun, s.ll.symm, ne_of q t1 nofun]
  · simp [s.ebd, ne_of t2 D.lst nofun, ne_of t2 s.A.dct nofun, ne_of t2 q2 nofun, s.ee.symm]
/-- a list of two objects is none of these -/
theorem two_out {K : PySem.W.Frag} {H : Hp} {d l : Addr} {ha hb : HA} {ea eb p x y : Addr} {ta tb : List Thing} (s : LawSt K H d l ha ea ta hb eb tb) (hp : H p = some (.lst [.ref x, .ref y])) : p ∉ [d, l, ha.d, ha.l, ea] := by
  obtain ⟨_, _, ns, D⟩ := s.D
  obtain ⟨_, q2, _⟩ := id s.A.lst
  obtain ⟨_, t1, _⟩ := id s.TA
  have n1 : p ≠ l := ne_of hp D.lst fun z => by injection z with z; cases ns <;> cases z
  have n2 : p ≠ ha.l := ne_of hp q2 fun z => by injection z with z; cases z
  simp [ne_of hp D.dct nofun, n1, ne_of hp s.A.dct nofun, n2, ne_of hp t1 nofun]
def spLaw (K : PySem.W.Frag) : Sp := fun vs H Q _ => ∃ (a : Addr) (ns : List Int), vs = [.ref a] ∧ SqL K H a (ns.map V.int) ∧ ns.length ≤ 63 ∧ ∀ H', Q (.bl true) H'
section
variable {P : Program} {w : World} {K : PySem.W.Frag} {mg : Str → Option Value} {base : Heap}
theorem ok_law (T : Txt K mg) : OkG P w K mg base 8 (He.fAd K a_law) p_law (spLaw K) := by
  refine okG_by T.F_law sc_law bi_law (fun vs H Q E h => ?_) (fun cdv A outer s H vs Q E hG hr h => ?_)
  · obtain ⟨a, ns, rfl, _⟩ := h; rfl
  · obtain ⟨a, ns, rfl, hS, hlen, k⟩ := h
    have hu := hu_of hr
    refine ⟨_, (pss_cons (ps_set (i := 1) sc_law.nd rfl (Or.inl rfl) (pc_call (ok_law_deal T) hr rfl T.g_law_deal (pa_cons (pv 0) (pa_cons pe_int pa_nil))))
      (pss_cons (ps_set (i := 2) sc_law.nd rfl (Or.inl rfl) (pe_lst (pa_cons (pc_make0 (ok_House_init T) T.mk_House hr rfl T.g_House) (pa_cons (pc_make0 (ok_House_init T) T.mk_House hr rfl T.g_House) pa_nil))))
      (pss_cons (ps_set (i := 3) sc_law.nd rfl (Or.inl rfl) (pe_lst (pa_cons pe_dnewK (pa_cons pe_dnewK pa_nil))))
      (pss_cons (ps_for PassesOwn.never rfl (pi_range1 (by rfl) T.m_range (pa_cons (pe_op op_add pe_int (pc_call (ok_law_draw T) hr rfl T.g_law_draw (pa_cons (pv 1) (pa_cons pe_int pa_nil)))) pa_nil)) (pg_name (i := 4) sc_law.nd rfl (Or.inl rfl)) (pss_cons (ps_set (i := 5) sc_law.nd rfl (Or.inl rfl) (pc_call (ok_law_draw T) hr rfl T.g_law_draw (pa_cons (pv 1) (pa_cons pe_int pa_nil))))
      (Evl.pss_cut (ps_if (pt_cmpR op_eq (pc_call (ok_law_draw T) hr rfl T.g_law_draw (pa_cons (pv 1) (pa_cons pe_int pa_nil))) pe_int (nomark _)) (pss_one (ps_set (i := 6) sc_law.nd rfl (Or.inl rfl) (pc_call (ok_law_made T) hr rfl T.g_law_made (pa_cons (pv 1) (pa_cons (pe_ix (kix_list (K := K)) (pv 2) (pv 5) (fun _ _ => rfl)) (pa_cons (pe_ix (kix_list (K := K)) (pv 3) (pv 5) (fun _ _ => rfl)) pa_nil)))))) (pss_one (ps_set (i := 6) sc_law.nd rfl (Or.inl rfl) (pc_callG (ok_law_asked T) hG hr rfl T.g_law_asked (pa_cons (pv 1) (pa_cons (pe_ix (kix_list (K := K)) (pv 2) (pv 5) (fun _ _ => rfl)) (pa_cons (pe_ix (kix_list (K := K)) (pv 3) (pv 5) (fun _ _ => rfl)) (pa_cons (pe_ix (kix_list (K := K)) (pv 3) (pe_op op_sub pe_int (pv 5)) (fun _ _ => rfl)) pa_nil))))))))
      (pss_one (ps_if (pt_not (pt_val (pv 6))) (pss_one (ps_ret pe_bl)) pss_nil)))))
      (pss_one (ps_ret (pe_and (pc_callG (ok_law_again T) hG hr rfl T.g_law_again (pa_cons (pe_ix (kix_list (K := K)) (pv 2) pe_int (fun _ _ => rfl)) (pa_cons (pe_ix (kix_list (K := K)) (pv 3) pe_int (fun _ _ => rfl)) pa_nil))) (pe_one (pc_callG (ok_law_again T) hG hr rfl T.g_law_again (pa_cons (pe_ix (kix_list (K := K)) (pv 2) pe_int (fun _ _ => rfl)) (pa_cons (pe_ix (kix_list (K := K)) (pv 3) pe_int (fun _ _ => rfl)) pa_nil))))))))))), ?_⟩
    refine ⟨_, rfl, a, ns, rfl, hS, hlen, fun d l H1 D1 f1 _ _ => ?_⟩
    -- two houses
    intro x0 y0 nx0 ny0 ne0
    have e0 : Fr [] H1 (upd (upd H1 y0 (.own x0)) x0 (.ins (He.ga K "House") y0 [])) := ((Fr.refl _ H1).new ny0).mine nx0
    refine ⟨x0, y0, rfl, upd_same, fun h0 H2 ex0 nd0 nl0 A2 f2 => ⟨rfl, ?_⟩⟩
    have g2 : Fr [] H1 H2 := e0.after f2 fun p hp => Or.inr (by rw [List.mem_singleton.mp hp]; exact nx0)
    intro x1 y1 nx1 ny1 ne1
    have e1 : Fr [] H2 (upd (upd H2 y1 (.own x1)) x1 (.ins (He.ga K "House") y1 [])) := ((Fr.refl _ H2).new ny1).mine nx1
    refine ⟨x1, y1, rfl, upd_same, fun h1 H3 ex1 nd1 nl1 B3 f3 => ⟨rfl, ?_⟩⟩
    have g3 : Fr [] H2 H3 := e1.after f3 fun p hp => Or.inr (by rw [List.mem_singleton.mp hp]; exact nx1)
    have A3 := A2.same g3
    have D3 := D1.same (g2.trans g3)
    have hdd : h0.d ≠ h1.d := ne_of_none A2.dct (e1.dom _ nd1)
    have hll : h0.l ≠ h1.l := by obtain ⟨_, q, _⟩ := id A2.lst; exact ne_of_none q (e1.dom _ nl1)
    refine ⟨(by show 2 ≤ sizeLine; decide), fun p hp => ?_⟩
    -- two dicts
    intro d0 hd0
    intro d1 hd1
    refine ⟨(by show 2 ≤ sizeLine; decide), fun q hq => ?_⟩
    have e4 : Fr [] H3 (upd (upd (upd (upd H3 p (.lst [.ref x0, .ref x1])) d0 (.dK [])) d1 (.dK [])) q (.lst [.ref d0, .ref d1])) := ((((Fr.refl _ H3).new hp).new hd0).new hd1).new hq
    have n01 : d0 ≠ d1 := ne_of_none upd_same hd1
    have hd0' : upd (upd (upd (upd H3 p (.lst [.ref x0, .ref x1])) d0 (.dK [])) d1 (.dK [])) q (.lst [.ref d0, .ref d1]) d0 = some (.dK (tlk [])) := upd_old hq (upd_old hd1 upd_same)
    have hd1' : upd (upd (upd (upd H3 p (.lst [.ref x0, .ref x1])) d0 (.dK [])) d1 (.dK [])) q (.lst [.ref d0, .ref d1]) d1 = some (.dK (tlk [])) := upd_old hq upd_same
    have hp' : upd (upd (upd (upd H3 p (.lst [.ref x0, .ref x1])) d0 (.dK [])) d1 (.dK [])) q (.lst [.ref d0, .ref d1]) p = some (.lst [.ref x0, .ref x1]) := upd_old hq (upd_old hd1 (upd_old hd0 upd_same))
    have hq' : upd (upd (upd (upd H3 p (.lst [.ref x0, .ref x1])) d0 (.dK [])) d1 (.dK [])) q (.lst [.ref d0, .ref d1]) q = some (.lst [.ref d0, .ref d1]) := upd_same
    generalize upd (upd (upd (upd H3 p (.lst [.ref x0, .ref x1])) d0 (.dK [])) d1 (.dK [])) q (.lst [.ref d0, .ref d1]) = H4 at e4 hd0' hd1' hp' hq' ⊢
    have D4 := D3.same e4
    have nd0d : d0 ≠ d := by obtain ⟨_, _, _, D⟩ := D3; exact (ne_of_none D.dct ((Fr.refl [] H3).new hp |>.dom _ hd0)).symm
    have nd1d : d1 ≠ d := by obtain ⟨_, _, _, D⟩ := D3; exact (ne_of_none D.dct ((((Fr.refl [] H3).new hp).new hd0).dom _ hd1)).symm
    have S4 : LawSt K H4 d l h0 d0 [] h1 d1 [] := ⟨D4, A3.same e4, B3.same e4, ⟨[], hd0', rfl, (fun i a t e => by simp at e)⟩, ⟨[], hd1', rfl, (fun i a t e => by simp at e)⟩, (fun _ h => by cases h), (fun _ h => by cases h), nd0d, nd1d, n01, hdd, hll⟩
    subst ex0 ex1
    -- the turns
    refine ⟨_, rfl, d, l, 27, rfl, D4, by decide, by decide, fun tv H5 t0 t1 D5 f5 => ?_⟩
    have S5 := S4.deal f5 D5
    have hp5 := f5.keep _ _ hp' fun z => two_out S4 hp' (by simp at z ⊢; rcases z with z | z <;> simp [z])
    have hq5 := f5.keep _ _ hq' fun z => two_out S4 hq' (by simp at z ⊢; rcases z with z | z <;> simp [z])
    refine ⟨_, _, rfl, rfl, _, rfl, by omega, by omega, ?_⟩
    have Inv : ∀ (i : Nat) (H : Hp), (∃ ta tb, LawSt K H d l h0 d0 ta h1 d1 tb ∧ ta.length ≤ i ∧ tb.length ≤ i) → True := fun _ _ _ => trivial
    refine for_range (lo := 0) (n := (4 + tv).toNat) (fun i σ H6 => (∃ o4 o5 o6, σ = [some (.ref a), some (.ref d), some (.ref p), some (.ref q), o4, o5, o6]) ∧ (∃ ta tb, LawSt K H6 d l h0 d0 ta h1 d1 tb ∧ ta.length ≤ i ∧ tb.length ≤ i) ∧ H6 p = some (.lst [.ref h0.x, .ref h1.x]) ∧ H6 q = some (.lst [.ref d0, .ref d1]))
      ⟨⟨_, _, _, rfl⟩, ⟨[], [], S5, Nat.zero_le _, Nat.zero_le _⟩, hp5, hq5⟩ ?_ ?_
    · rintro i σ H6 hi ⟨⟨o4, o5, o6, rfl⟩, ⟨ta, tb, S6, la, lb⟩, hp6, hq6⟩
      refine ⟨_, rfl, d, l, 2, rfl, S6.D, by decide, by decide, fun one H7 c0 c1 D7 f7 => ?_⟩
      have S7 := S6.deal f7 D7
      have hp7 := f7.keep _ _ hp6 fun z => two_out S6 hp6 (by simp at z ⊢; rcases z with z | z <;> simp [z])
      have hq7 := f7.keep _ _ hq6 fun z => two_out S6 hq6 (by simp at z ⊢; rcases z with z | z <;> simp [z])
      -- the one that is taken, and the other
      obtain ⟨hA, eA, tA, hB, eB, tB, S, lA, lB, i1, i2, i3, back⟩ : ∃ (hA : HA) (eA : Addr) (tA : List Thing) (hB : HA) (eB : Addr) (tB : List Thing), LawSt K H7 d l hA eA tA hB eB tB ∧ tA.length ≤ i ∧ tB.length ≤ i ∧ ([V.ref h0.x, V.ref h1.x] : List V)[one.toNat]? = some (V.ref hA.x) ∧ ([V.ref d0, V.ref d1] : List V)[one.toNat]? = some (V.ref eA) ∧
          ([V.ref d0, V.ref d1] : List V)[(1 - one).toNat]? = some (V.ref eB) ∧ ∀ tA' H', LawSt K H' d l hA eA tA' hB eB tB → tA'.length ≤ i + 1 → ∃ ta tb, LawSt K H' d l h0 d0 ta h1 d1 tb ∧ ta.length ≤ i + 1 ∧ tb.length ≤ i + 1 := by
        rcases (show one = 0 ∨ one = 1 by omega) with rfl | rfl
        · exact ⟨h0, d0, ta, h1, d1, tb, S7, la, lb, rfl, rfl, rfl, fun tA' H' s hl => ⟨tA', tb, s, hl, by omega⟩⟩
        · exact ⟨h1, d1, tb, h0, d0, ta, S7.symm, lb, la, rfl, rfl, rfl, fun tA' H' s hl => ⟨ta, tA', s.symm, by omega, hl⟩⟩
      refine ⟨fun σ H8 => σ = [some (.ref a), some (.ref d), some (.ref p), some (.ref q), some (.int (0 + (i : Int))), some (.int one), some (.bl true)] ∧ (∃ ta tb, LawSt K H8 d l h0 d0 ta h1 d1 tb ∧ ta.length ≤ i + 1 ∧ tb.length ≤ i + 1) ∧ H8 p = some (.lst [.ref h0.x, .ref h1.x]) ∧ H8 q = some (.lst [.ref d0, .ref d1]), ?_, ?_⟩
      · refine ⟨_, rfl, d, l, 2, rfl, S.D, by decide, by decide, fun v H8 v0 v1 D8 f8 => ?_⟩
        have S8 := S.deal f8 D8
        have hp8 := f8.keep _ _ hp7 fun z => two_out S hp7 (by simp at z ⊢; rcases z with z | z <;> simp [z])
        have hq8 := f8.keep _ _ hq7 fun z => two_out S hq7 (by simp at z ⊢; rcases z with z | z <;> simp [z])
        refine ⟨rfl, _, rfl, ?_⟩
        by_cases hv : v = 0
        · rw [decide_eq_true (by rw [hv])]
          refine iteT ?_
          refine ⟨_, rfl, _, rfl, _, rfl, p, _, _, _, rfl, rfl, SqL.of hp8, at_of (j := one.toNat) (by omega) i1, _, rfl, _, rfl, q, _, _, _, rfl, rfl, SqL.of hq8, at_of (j := one.toNat) (by omega) i2, ?_⟩
          refine ⟨d, l, hA, eA, tA, rfl, D8, S8.A, S8.TA, S8.wa, by omega, S8.ead, fun ts' H9 A9 T9 w9 l9 D9 f9 => ?_⟩
          exact ⟨rfl, back ts' H9 (S8.made f9 D9 A9 T9 w9) (by omega), f9.keep _ _ hp8 (two_out S8 hp8), f9.keep _ _ hq8 (two_out S8 hq8)⟩
        · rw [decide_eq_false (fun z => hv (by injection z))]
          refine iteF ?_
          refine ⟨_, rfl, _, rfl, _, rfl, p, _, _, _, rfl, rfl, SqL.of hp8, at_of (j := one.toNat) (by omega) i1, _, rfl, _, rfl, q, _, _, _, rfl, rfl, SqL.of hq8, at_of (j := one.toNat) (by omega) i2, _, rfl, _, rfl, _, _, rfl, rfl, q, _, _, _, rfl, rfl, SqL.of hq8, at_of (j := (1 - one).toNat) (by omega) i3, ?_⟩
          refine ⟨d, l, hA, eA, eB, tA, tB, rfl, D8, S8.A, S8.TA, S8.TB, S8.wa, by omega, by omega, S8.ead, S8.ebd, fun H9 D9 f9 => ?_⟩
          exact ⟨rfl, back tA H9 (S8.deal f9 D9) (by omega), f9.keep _ _ hp8 fun z => two_out S8 hp8 (by simp at z ⊢; rcases z with z | z <;> simp [z]), f9.keep _ _ hq8 fun z => two_out S8 hq8 (by simp at z ⊢; rcases z with z | z <;> simp [z])⟩
      · rintro σ H8 ⟨rfl, S8, hp8, hq8⟩
        refine ⟨_, rfl, _, rfl, ?_⟩
        refine iteF ?_
        exact ⟨⟨_, _, _, rfl⟩, S8, hp8, hq8⟩
    · rintro σ H6 ⟨⟨o4, o5, o6, rfl⟩, ⟨ta, tb, S6, la, lb⟩, hp6, hq6⟩
      refine ⟨_, rfl, p, _, _, _, rfl, rfl, SqL.of hp6, at_of (j := 0) rfl rfl, _, rfl, q, _, _, _, rfl, rfl, SqL.of hq6, at_of (j := 0) rfl rfl, h0, d0, ta, rfl, S6.A, S6.TA, S6.wa, by omega, fun H7 A7 f7 => ?_⟩
      refine ⟨_, rfl, ?_⟩
      refine iteT ?_
      have f7' : Fr [d, l, h0.d, h0.l, d0] H6 H7 := f7.mono (by simp)
      have S7 : LawSt K H7 d l h0 d0 ta h1 d1 tb := by
        obtain ⟨_, _, _, D⟩ := S6.D
        obtain ⟨_, qa, _⟩ := id S6.A.lst
        obtain ⟨_, t1, _⟩ := id S6.TA
        refine S6.made f7' (S6.D.mono f7 ?_ ?_) A7 (S6.TA.mono f7 ?_) S6.wa
        · simp [ne_of D.dct S6.A.dct nofun, ne_of D.dct qa nofun]
        · simp [ne_of D.lst S6.A.dct nofun, (hl_ne S6.A D.lst).symm]
        · simp [ne_of t1 S6.A.dct nofun, ne_of t1 qa nofun]
      have hp7 := f7'.keep _ _ hp6 (two_out S6 hp6)
      have hq7 := f7'.keep _ _ hq6 (two_out S6 hq6)
      refine ⟨_, rfl, p, _, _, _, rfl, rfl, SqL.of hp7, at_of (j := 1) rfl rfl, _, rfl, q, _, _, _, rfl, rfl, SqL.of hq7, at_of (j := 1) rfl rfl, h1, d1, tb, rfl, S7.B, S7.TB, S7.wb, by omega, fun H8 _ _ => ?_⟩
      exact k H8
end
end Ct

set_option Elab.async false
set_option linter.all false
set_option maxRecDepth 100000
set_option maxHeartbeats 0
namespace Ct
open PySem PySem.Spec PyProof.Rows L2 RT
def d_way_down : He.DefD := ⟨a_way_down, "way_down", "way_down", defArgs s_way_down, defBody s_way_down, defScope s_way_down, [], []⟩
def d_word_in : He.DefD := ⟨a_word_in, "word_in", "word_in", defArgs s_word_in, defBody s_word_in, defScope s_word_in, [], []⟩
def d_path_in : He.DefD := ⟨a_path_in, "path_in", "path_in", defArgs s_path_in, defBody s_path_in, defScope s_path_in, [], []⟩
def d_raised : He.DefD := ⟨a_raised, "raised", "raised", defArgs s_raised, defBody s_raised, defScope s_raised, [], []⟩
def d_put_in : He.DefD := ⟨a_put_in, "put_in", "put_in", defArgs s_put_in, defBody s_put_in, defScope s_put_in, [], []⟩
def d_is_word : He.DefD := ⟨a_is_word, "is_word", "is_word", defArgs s_is_word, defBody s_is_word, defScope s_is_word, [], []⟩
def d_have_form : He.DefD := ⟨a_have_form, "have_form", "have_form", defArgs s_have_form, defBody s_have_form, defScope s_have_form, [], []⟩
def d_places_of : He.DefD := ⟨a_places_of, "places_of", "places_of", defArgs s_places_of, defBody s_places_of, defScope s_places_of, [], []⟩
def d_comes_to : He.DefD := ⟨a_comes_to, "comes_to", "comes_to", defArgs s_comes_to, defBody s_comes_to, defScope s_comes_to, [], []⟩
def d_House_init : He.DefD := ⟨a_House_init, "__init__", "House.__init__", defArgs s_House_init, defBody s_House_init, defScope s_House_init, [], []⟩
def d_House_given : He.DefD := ⟨a_House_given, "given", "House.given", defArgs s_House_given, defBody s_House_given, defScope s_House_given, [], []⟩
def d_House_leaf : He.DefD := ⟨a_House_leaf, "leaf", "House.leaf", defArgs s_House_leaf, defBody s_House_leaf, defScope s_House_leaf, [], []⟩
def d_House_pair : He.DefD := ⟨a_House_pair, "pair", "House.pair", defArgs s_House_pair, defBody s_House_pair, defScope s_House_pair, [], []⟩
def d_House_opened : He.DefD := ⟨a_House_opened, "opened", "House.opened", defArgs s_House_opened, defBody s_House_opened, defScope s_House_opened, [], []⟩
def d_House_many : He.DefD := ⟨a_House_many, "many", "House.many", defArgs s_House_many, defBody s_House_many, defScope s_House_many, [], []⟩
def d_law_deal : He.DefD := ⟨a_law_deal, "_law_deal", "_law_deal", defArgs s_law_deal, defBody s_law_deal, defScope s_law_deal, [], []⟩
def d_law_draw : He.DefD := ⟨a_law_draw, "_law_draw", "_law_draw", defArgs s_law_draw, defBody s_law_draw, defScope s_law_draw, [], []⟩
def d_law_word : He.DefD := ⟨a_law_word, "_law_word", "_law_word", defArgs s_law_word, defBody s_law_word, defScope s_law_word, [], []⟩
def d_law_made : He.DefD := ⟨a_law_made, "_law_made", "_law_made", defArgs s_law_made, defBody s_law_made, defScope s_law_made, [], []⟩
def d_law_never : He.DefD := ⟨a_law_never, "_law_never", "_law_never", defArgs s_law_never, defBody s_law_never, defScope s_law_never, [], []⟩
def d_law_walked : He.DefD := ⟨a_law_walked, "_law_walked", "_law_walked", defArgs s_law_walked, defBody s_law_walked, defScope s_law_walked, [], []⟩
def d_law_none : He.DefD := ⟨a_law_none, "_law_none", "_law_none", defArgs s_law_none, defBody s_law_none, defScope s_law_none, [], []⟩
def d_law_asked : He.DefD := ⟨a_law_asked, "_law_asked", "_law_asked", defArgs s_law_asked, defBody s_law_asked, defScope s_law_asked, [], []⟩
def d_law_again : He.DefD := ⟨a_law_again, "_law_again", "_law_again", defArgs s_law_again, defBody s_law_again, defScope s_law_again, [], []⟩
def d_law : He.DefD := ⟨a_law, "law", "law", defArgs s_law, defBody s_law, defScope s_law, [], []⟩
def fnL : List He.DefD := [d_way_down, d_word_in, d_path_in, d_raised, d_put_in, d_is_word, d_have_form, d_places_of, d_comes_to, d_House_init, d_House_given, d_House_leaf, d_House_pair, d_House_opened, d_House_many, d_law_deal, d_law_draw, d_law_word, d_law_made, d_law_never, d_law_walked, d_law_none, d_law_asked, d_law_again, d_law]
def faL : List He.Fa := [.free "bool", .free "int", .free "isinstance", .free "len", .free "list", .free "max", .free "range", .free "repr", .free "reversed", .free "tuple", .int "WIDE" 4294967296, .int "GREAT" 1000000000000, .glo "House", .cls "House", .mkr "House", .noat "House" "numbers", .noat "House" "things", .glo "way_down", .glo "word_in", .glo "path_in", .glo "raised", .glo "put_in", .glo "is_word", .glo "have_form", .glo "places_of", .glo "comes_to", .meth "House" "given", .meth "House" "leaf", .meth "House" "pair", .meth "House" "opened", .meth "House" "many", .glo "_law_deal", .glo "_law_draw", .glo "_law_word", .glo "_law_made", .glo "_law_never", .glo "_law_walked", .glo "_law_none", .glo "_law_asked", .glo "_law_again", .glo "law"]
theorem txt_of {K : PySem.W.Frag} {h : Heap} {mg : Str → Option Value} (X : K.In h) (G : h.Ns mainGlobals mg) (c : He.SaysD faL fnL K) : Txt K mg where
  m_bool := He.free_ok X G (c.fact 0 (f := .free "bool") rfl)
  m_int := He.free_ok X G (c.fact 1 (f := .free "int") rfl)
  m_isinstance := He.free_ok X G (c.fact 2 (f := .free "isinstance") rfl)
  m_len := He.free_ok X G (c.fact 3 (f := .free "len") rfl)
  m_list := He.free_ok X G (c.fact 4 (f := .free "list") rfl)
  m_max := He.free_ok X G (c.fact 5 (f := .free "max") rfl)
  m_range := He.free_ok X G (c.fact 6 (f := .free "range") rfl)
  m_repr := He.free_ok X G (c.fact 7 (f := .free "repr") rfl)
  m_reversed := He.free_ok X G (c.fact 8 (f := .free "reversed") rfl)
  m_tuple := He.free_ok X G (c.fact 9 (f := .free "tuple") rfl)
  v_WIDE := He.int_ok X G (c.fact 10 (f := .int "WIDE" 4294967296) rfl)
  v_GREAT := He.int_ok X G (c.fact 11 (f := .int "GREAT" 1000000000000) rfl)
  g_House := He.glo_ok X G (c.fact 12 (f := .glo "House") rfl)
  cl_House := He.cls_ok (c.fact 13 (f := .cls "House") rfl)
  mk_House := He.mkr_ok (c.fact 14 (f := .mkr "House") rfl)
  no_House_numbers := He.noat_ok (c.fact 15 (f := .noat "House" "numbers") rfl)
  no_House_things := He.noat_ok (c.fact 16 (f := .noat "House" "things") rfl)
  g_way_down := He.glo_ok X G (c.fact 17 (f := .glo "way_down") rfl)
  g_word_in := He.glo_ok X G (c.fact 18 (f := .glo "word_in") rfl)
  g_path_in := He.glo_ok X G (c.fact 19 (f := .glo "path_in") rfl)
  g_raised := He.glo_ok X G (c.fact 20 (f := .glo "raised") rfl)
  g_put_in := He.glo_ok X G (c.fact 21 (f := .glo "put_in") rfl)
  g_is_word := He.glo_ok X G (c.fact 22 (f := .glo "is_word") rfl)
  g_have_form := He.glo_ok X G (c.fact 23 (f := .glo "have_form") rfl)
  g_places_of := He.glo_ok X G (c.fact 24 (f := .glo "places_of") rfl)
  g_comes_to := He.glo_ok X G (c.fact 25 (f := .glo "comes_to") rfl)
  me_House_given := He.meth_ok (c.fact 26 (f := .meth "House" "given") rfl)
  me_House_leaf := He.meth_ok (c.fact 27 (f := .meth "House" "leaf") rfl)
  me_House_pair := He.meth_ok (c.fact 28 (f := .meth "House" "pair") rfl)
  me_House_opened := He.meth_ok (c.fact 29 (f := .meth "House" "opened") rfl)
  me_House_many := He.meth_ok (c.fact 30 (f := .meth "House" "many") rfl)
  g_law_deal := He.glo_ok X G (c.fact 31 (f := .glo "_law_deal") rfl)
  g_law_draw := He.glo_ok X G (c.fact 32 (f := .glo "_law_draw") rfl)
  g_law_word := He.glo_ok X G (c.fact 33 (f := .glo "_law_word") rfl)
  g_law_made := He.glo_ok X G (c.fact 34 (f := .glo "_law_made") rfl)
  g_law_never := He.glo_ok X G (c.fact 35 (f := .glo "_law_never") rfl)
  g_law_walked := He.glo_ok X G (c.fact 36 (f := .glo "_law_walked") rfl)
  g_law_none := He.glo_ok X G (c.fact 37 (f := .glo "_law_none") rfl)
  g_law_asked := He.glo_ok X G (c.fact 38 (f := .glo "_law_asked") rfl)
  g_law_again := He.glo_ok X G (c.fact 39 (f := .glo "_law_again") rfl)
  g_law := He.glo_ok X G (c.fact 40 (f := .glo "law") rfl)
  F_way_down := c.def_ 0 (d := d_way_down) rfl
  F_word_in := c.def_ 1 (d := d_word_in) rfl
  F_path_in := c.def_ 2 (d := d_path_in) rfl
  F_raised := c.def_ 3 (d := d_raised) rfl
  F_put_in := c.def_ 4 (d := d_put_in) rfl
  F_is_word := c.def_ 5 (d := d_is_word) rfl
  F_have_form := c.def_ 6 (d := d_have_form) rfl
  F_places_of := c.def_ 7 (d := d_places_of) rfl
  F_comes_to := c.def_ 8 (d := d_comes_to) rfl
  F_House_init := c.def_ 9 (d := d_House_init) rfl
  F_House_given := c.def_ 10 (d := d_House_given) rfl
  F_House_leaf := c.def_ 11 (d := d_House_leaf) rfl
  F_House_pair := c.def_ 12 (d := d_House_pair) rfl
  F_House_opened := c.def_ 13 (d := d_House_opened) rfl
  F_House_many := c.def_ 14 (d := d_House_many) rfl
  F_law_deal := c.def_ 15 (d := d_law_deal) rfl
  F_law_draw := c.def_ 16 (d := d_law_draw) rfl
  F_law_word := c.def_ 17 (d := d_law_word) rfl
  F_law_made := c.def_ 18 (d := d_law_made) rfl
  F_law_never := c.def_ 19 (d := d_law_never) rfl
  F_law_walked := c.def_ 20 (d := d_law_walked) rfl
  F_law_none := c.def_ 21 (d := d_law_none) rfl
  F_law_asked := c.def_ 22 (d := d_law_asked) rfl
  F_law_again := c.def_ 23 (d := d_law_again) rfl
  F_law := c.def_ 24 (d := d_law) rfl
abbrev hRow : PySem.W.OpenRow := PySem.W.OpenLaw.row PySem.Challenge.rw_stepcourt_k27_numbers_never_given
abbrev hHook : PySem.W.Hook := He.hookD 5 faL fnL
def hObs (s : PySem.W.SharedT) : He.AlD := He.obsDG 5 faL fnL (HandSHeadRun.getT s)
theorem hObs_eq (s : PySem.W.SharedT) : hObs s = hHook.obs s.abs := He.obsDG_eq (HandSHeadRun.getT_eq s)
def hNames : List Str := (["way_down", "word_in", "path_in", "raised", "put_in", "WIDE", "GREAT", "is_word", "have_form", "places_of", "comes_to", "House", "_law_deal", "_law_draw", "_law_word", "_law_made", "_law_never", "_law_walked", "_law_none", "_law_asked", "_law_again"] : List Str)
theorem hRun (w : World) : HandSHeadRun.RunEq hRow (PySem.W.view hRow.prog [25]) hHook hObs 6000 hNames w := by
  intro os
  kernel_rfl
theorem hFacts {P : Program} {w : World} {K : PySem.W.Frag} {h : Heap} {mg : Str → Option Value} {f : Addr} (X : K.In h) (G : h.Ns mainGlobals mg) (hfa : mg ("law" : Str) = some (.ref f)) (c : He.SaysD faL fnL K) :
    ∃ fd : FuncData, (∀ (s : Shared) (v : Value), BindsTo s fd ⟨[v], []⟩ [("script", v)]) ∧ ∀ base : Heap, K.In base → base.Ns mainGlobals mg → FnG P w K mg base 8 f fd ["script"] (spLaw K) := by
  have T := txt_of X G c
  have e := hfa.symm.trans T.g_law
  cases e
  obtain ⟨fd, F⟩ := id T.F_law
  have b := FunD.bindsA (ps := ["script"]) F fun _ _ _ _ _ _ us hl => match us, hl with | [_], _ => rfl
  refine ⟨fd, fun s v => b s [v] rfl, fun base hb hg => ?_⟩
  obtain ⟨fd2, F2, _, _, oc2, od2, osl2, l2⟩ := ok_law (P := P) (w := w) (base := base) T
  obtain ⟨oc, od, dV, kV, doc, pm, an, cdv, ct, osl, e1, l1, _⟩ := F.ex
  rw [l1] at l2
  have e2 : fd = fd2 := by injection l2 with l2; injection l2 with _ _ l2 _; injection l2
  rw [e2]
  exact F2
end Ct
open PySem PySem.W PySem.Calls PyProof.Rows
set_option maxRecDepth 100000 in
set_option maxHeartbeats 0 in
theorem PySem.Challenge.cw_stepcourt_k27_numbers_never_given_holds : PySem.Challenge.rw_stepcourt_k27_numbers_never_given.Holds := by
  w_on; o_law
  refine HandSHeadRun.head_any (r := Ct.hRow) (q := view Ct.hRow.prog [25]) (H := Ct.hHook) (ob := Ct.hObs) (M := 6000) (loose := Ct.hNames) (d := HandSHeadRun.topDef Ct.hRow.prog 25) (kwd := []) Ct.hObs_eq
    (by kernel_rfl) (fun s => by kernel_rfl) Ct.hRun (by kernel_rfl) (by kernel_rfl) (by kernel_rfl) (by rfl) (by first | assumption | decide +kernel) (by decide +kernel) ⟨rfl, rfl, rfl, rfl, rfl, by decide +kernel⟩ ?hw ?hc
  case hw => w_witness2
  case hc =>
    refine Ct.walk_G (l := PySem.Challenge.rw_stepcourt_k27_numbers_never_given) (n := 63) (k := 8) (x := "script") rfl (by decide) (by kernel_rfl) ⟨rfl, by decide, by decide⟩ ?F
    intro w mg fa h Y G hmg0
    obtain ⟨K, KX, c⟩ := Y
    have hmg : mg ("law" : PySem.Str) = some (.ref fa) := by
      have e : (HandSHeadRun.topDef Ct.hRow.prog 25).name = ("law" : PySem.Str) := by kernel_rfl
      rw [← e]
      exact hmg0
    obtain ⟨fd, hb, hF⟩ := Ct.hFacts (P := (PySem.Challenge.rw_stepcourt_k27_numbers_never_given).prog) (w := w) KX G hmg c
    exact ⟨K, fd, Ct.spLaw K, KX, hb, fun H a ns hl _ hS => ⟨a, ns, rfl, hS, hl, fun _ => rfl⟩, hF⟩

