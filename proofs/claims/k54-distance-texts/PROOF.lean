import PyProof.Rows.All
import Wide.All
import OpenK.AllK
import Wide.FinOn
import KE.KStateDown
import HandS.ForMost
import HandS.ForExc
import HandS.IsInst
import HandS.Defaults
import HandS.Wide
import HandS.SortInts
import KE.GoesMore
import HandS.Zip
import HandS.Head0
import HandS.Head1
import HandS.Head2
import HandS.HeadEnd
import HandS.HeadHook1
import HandS.HeadHook2
import HandS.Style
import HandS.WordsDict
import HandS.Deep
import HandS.SetFor
import PyProof.ReprLen
import PyProof.StrLawsRepr
import PyProof.Rows.StrJoinMade
import HandS.Strs
import HandS.ListItems
import KE.KDictZip
import KE.KItemsList
import HandS.More
import PyProof.StrOps2
import KE.KIntText
import HandS.DictComp
import HandS.Conv
import KE.LtSeq
import KE.LtData
import HandS.Text
import HandS.FStr
import HandS.Iter
import PySem.Challenge.RW_howfarback_k54_distance_texts
set_option Elab.async false
set_option linter.all false
set_option maxRecDepth 100000
set_option maxHeartbeats 2000000
set_option autoImplicit false
/-! Q0: promises of defs where it is known that no repr is under way (guards), their calls, the end. -/
namespace Q
open PySem PySem.Spec PyProof.Rows L2

abbrev Fg := PySem.W.Frag
/-- as FnOk, where no repr runs around -/
structure FnG (P : Program) (w : World) (K : Fg) (mg : Str → Option Value) (base : Heap) (k : Nat) (f : Addr) (fd : FuncData) (ps : List Str) (sp : Sp) : Prop where
  len : ∀ vs H Q E, sp vs H Q E → vs.length = ps.length
  run : ∀ (A : Around) (outer : List Env) (s : Shared) (H : Hp) (args : Args) (us : List Value) (vs : List V) (Q : VK) (E : XK), A.guards = some [] → Room k A → Env0 P w K mg base A outer s H →
    BindsTo s fd args (ps.zip us) → Vals vs us → sp vs H Q E → codeAny (model P w) A (.call (.ref f) args) (CR (L2.CX P w) outer P w H s Q E) s
section
variable {P : Program} {w : World} {K : Fg} {mg : Str → Option Value} {base : Heap}
theorem fnG_of {k : Nat} {f : Addr} {name qual : Str} {params : Arguments} {body : List Stmt} {scope : Scope} {dV kV doc pm cdv ct oc : Value} {an od : Option Addr} {osl : Array (Option Value)} {N ps : List Str} {sp : Sp}
    (lk : K.lookup f = some ⟨oc, od, .func (PySem.W.fnOf name qual params body scope dV kV doc pm an cdv ct), osl⟩) (hcd : PySem.W.codeIn K cdv qual = true) (S : FnScope N ps scope) (len : ∀ vs H Q E, sp vs H Q E → vs.length = ps.length)
    (hbody : ∀ (A : Around) (outer : List Env) (s : Shared) (H : Hp) (vs : List V) (Q : VK) (E : XK), A.guards = some [] → Room k (A.deeper (envOfC qual scope s.heap.objs.size f cdv)) → sp vs H Q E →
      ∃ t, PSs (cxOf (L2.CX P w) P w K mg base N qual scope f cdv A outer s H E) body t ∧ t { nx := fun _ H' => Q .non H', rt := Q } (L2.start N vs) H) :
    FnG P w K mg base (k + 1) f (PySem.W.fnOf name qual params body scope dV kV doc pm an cdv ct) ps sp := by
  constructor
  · exact len
  intro A outer s H args us vs Q E hgd hr e0 hb r hsp
  have kx : K.In s.heap := e0.mod.kin.keeps fun b o e => (e0.bs b o e).1
  have kinds : ∀ y ∈ ps.zip us, scope.names.lookup y.1 = some .local ∨ (scope.names.lookup y.1 = some .cell ∧ ((cellsFrom (s.heap.objs.size + 1) scope.names []).lookup y.1).isSome = true) := by
    rintro ⟨n, v⟩ hy
    exact (S.par n (List.of_mem_zip hy).1).imp id fun q => ⟨q, PySem.W.cellsFrom_some _ _ _ (.inl q)⟩
  refine codeAny_call_function hr.depth (kx _ _ lk) rfl S.co S.gen rfl (PySem.W.codeRec_of kx hcd) (hb _ _ _ _ (wpAny_newFunctionEnv_cells S.kind kinds fun env he s1 x => ?_))
  subst he
  obtain ⟨t, ht, hq⟩ := hbody A outer s H vs Q E hgd (hr.deeper _) hsp
  refine ⟨(e0.mod.nolimit.keeps fun b o e => (e0.bs b o e).1).keeps x.toInCall.keep, codeAny_func (wpAny_mono (ht.run [] s1 (L2.start N vs) H _ (inv_start S hr.hd e0 (len _ _ _ _ hsp) r x) hq) (fun fl s' hs => ?_) fun e s' hs => hs)⟩
  cases fl with
  | brk => obtain ⟨_, _, _, q⟩ := hs; exact q.elim
  | cont => obtain ⟨_, _, _, q⟩ := hs; exact q.elim
  | next => obtain ⟨σ', H', J, q⟩ := hs; exact ⟨V.non, H', J.os, J.bare, J.base, J.hok, rfl, q⟩
  | ret u => obtain ⟨v, σ', H', J, rv, q⟩ := hs; exact ⟨v, H', J.os, J.bare, J.base, J.hok, rv, q⟩
theorem FnG.mono {j k : Nat} {f : Addr} {fd : FuncData} {ps : List Str} {sp : Sp} (F : FnG P w K mg base j f fd ps sp) (h : j ≤ k) : FnG P w K mg base k f fd ps sp :=
  ⟨F.len, fun A outer s H args us vs Q E hg hr => F.run A outer s H args us vs Q E hg (hr.mono h)⟩
end
section
variable {X : Cx} {k : Nat} {f : Addr} {fd : FuncData} {ps : List Str} {sp : Sp} {dvs : List V} {ds : List Value} {x : Str} {p pos : Pos} {e : Expr} {es : List Expr} {t : TA}
/-- the callee runs; what it raises is wished for at the caller's slots -/
theorem runG {pins : List (Addr × Obj)} {σ : L2.St} {H : Hp} {s : Shared} {Q : VK} {us : List Value} {vs : List V} {E : XK} (F : FnG X.prog X.w X.K X.mg X.base k f fd ps sp) (hgd : X.A.guards = some []) (hr : Room k X.A) (hb : Binds X.K fd ps ds) (hd : Vals dvs ds)
    (hx : ∀ (e : Value) (s' : Shared), L2.CX X.prog X.w X.stack H s E e s' → X.xe e s') (I : Inv X pins σ H s) (r : Vals vs us) (h : sp (vs ++ dvs) H Q E) : wpAny (model X.prog X.w) X.A (call (.ref f) us) (EP X pins σ Q) X.xe s := by
  have r2 := r.append hd
  have hl : (us ++ ds).length = ps.length := r2.length.symm.trans (F.len _ _ _ _ h)
  refine wpAny_call (codeAny_mono (F.run X.A X.stack s H ⟨us, []⟩ (us ++ ds) (vs ++ dvs) Q E hgd hr I.env0 (hb s us I.kIn hl) r2 h) ?_)
  rintro (e | fl) s' hq
  · exact hx e s' hq
  · cases fl <;> first | exact I.after hq | exact False.elim hq
theorem pe_callG (F : FnG X.prog X.w X.K X.mg X.base k f fd ps sp) (hgd : X.A.guards = some []) (hr : Room k X.A) (hg : Gl X x) (hm : X.mg x = some (.ref f)) (hk : PySem.W.keepIn X.K (.ref f) = true) (hb : Binds X.K fd ps ds) (hd : Vals dvs ds)
    (ha : PA X (e :: es) t) (hdb : (x == ("__debug__" : Str)) = false) (he : starEach (e :: es) X.env = (false, eval e X.env) :: starEach es X.env) (hpl : (backTo pos (starEach es X.env)).any (·.1) = false) :
    PE X (.Call (.Name x p) (e :: es) [] pos) (tCall sp dvs E0 t) := by
  constructor
  intro pins s σ H Q I h
  exact wpAny_Call_Name_kw (ld_glob I hg hm (PySem.W.callWith_K (h₀ := X.base) I.ok.mod.kin hk (thn (ha.run pos pins s σ H _ I h) fun us s1 ⟨vs, H1, I1, r, q⟩ => ⟨I1.kIn, runG F hgd hr hb hd (fun e s' c => passL [] σ H1 s1 e s' (I1.pins_of fun _ z => nomatch z) c) I1 r q⟩) he hpl) hdb)
theorem pe_callG0 (F : FnG X.prog X.w X.K X.mg X.base k f fd ps sp) (hgd : X.A.guards = some []) (hr : Room k X.A) (hg : Gl X x) (hm : X.mg x = some (.ref f)) (hk : PySem.W.keepIn X.K (.ref f) = true) (hb : Binds X.K fd ps ds) (hd : Vals dvs ds) (hdb : (x == ("__debug__" : Str)) = false) :
    PE X (.Call (.Name x p) [] [] pos) (tCall sp dvs E0 tNil) := by
  constructor
  intro pins s σ H Q I h
  exact wpAny_Call_Name_kw (ld_glob I hg hm (PySem.W.callWith_K0 I.kIn hk (runG (us := []) F hgd hr hb hd (fun e s' c => passL [] σ H s e s' (I.pins_of fun _ z => nomatch z) c) I .nil h)) hdb)
theorem pe_callGS {W : WX} (F : FnG X.prog X.w X.K X.mg X.base k f fd ps sp) (hgd : X.A.guards = some []) (hr : Room k X.A) (tk : Takes X W) (hg : Gl X x) (hm : X.mg x = some (.ref f)) (hk : PySem.W.keepIn X.K (.ref f) = true) (hb : Binds X.K fd ps [])
    (ha : PA X (e :: es) t) (hdb : (x == ("__debug__" : Str)) = false) (he : starEach (e :: es) X.env = (false, eval e X.env) :: starEach es X.env) (hpl : (backTo pos (starEach es X.env)).any (·.1) = false) :
    PE X (.Call (.Name x p) (e :: es) [] pos) (tCallS sp (WE W) t) := by
  constructor
  intro pins s σ H Q I h
  refine wpAny_Call_Name_kw (ld_glob I hg hm (PySem.W.callWith_K (h₀ := X.base) I.ok.mod.kin hk (thn (ha.run pos pins s σ H _ I h) fun us s1 ⟨vs, H1, I1, r, q⟩ => ⟨I1.kIn, runG (dvs := []) F hgd hr hb .nil (fun e s' c => passAt tk σ pins H1 s1 e s' I1 c) I1 r ?_⟩) he hpl) hdb)
  rw [List.append_nil]; exact q
end
/-- the law's call -/
theorem lawG {P : Program} {w : World} {K : Fg} {mg mb : Str → Option Value} {k : Nat} {fa a : Addr} {fd : FuncData} {x : Str} {sp : Sp} {s₁ : Shared} {vs : List Value} {ns : List Int} (KX : K.In s₁.heap) (hns : s₁.heap.Ns mainGlobals mg) (hb : s₁.heap.Ns builtinsNs mb)
    (hbb : ∀ x : Str, x ≠ "__name__" → mb x = bootBuiltins x) (hlim : s₁.heap.NoLimit) (hg : s₁.gens = #[]) (ha : s₁.heap.get? a = some { cls := .type "list", data := .seq vs.toArray }) (hi : IntsAre vs ns) (hl : ns.length ≤ sizeLine) (hr : Room k callerA)
    (F : ∀ base : Heap, K.In base → base.Ns mainGlobals mg → FnG P w K mg base k fa fd [x] sp) (hbind : ∀ (s : Shared) (u : Value), BindsTo s fd ⟨[u], []⟩ [(x, u)]) (hsp : ∀ H : Hp, Only H → SqL K H a (ns.map V.int) → sp [.ref a] H (fun v _ => v = .bl true) fun _ _ _ => False) :
    codeAny (model P w) callerA (.call (.ref fa) ⟨[.ref a], []⟩) (fun r s' => r = .ok (.ret (.bool true)) ∧ OldK s₁.heap s'.heap ∧ s'.os = s₁.os ∧ AllBare s'.gens) s₁ := by
  have main : ∀ H : Hp, Only H → SqL K H a (ns.map V.int) → HOk P w H s₁.heap → (∀ b, H b ≠ none → b = a ∧ K.lookup a = none) →
      codeAny (model P w) callerA (.call (.ref fa) ⟨[.ref a], []⟩) (fun r s' => r = .ok (.ret (.bool true)) ∧ OldK s₁.heap s'.heap ∧ s'.os = s₁.os ∧ AllBare s'.gens) s₁ := by
    intro H hO hS hok only
    have untr : ∀ {b : Addr}, b ≠ a ∨ K.lookup a ≠ none → H b = none := fun {b} h => Classical.byContradiction fun z => h.elim (fun q => q (only b z).1) fun q => q (only b z).2
    have dictNs : ∀ {b : Addr} {m : Str → Option Value}, s₁.heap.Ns b m → (hidT s₁.heap H).Ns b m := by
      rintro b m ⟨o, es, ep, e, d, r⟩
      refine ⟨o, es, ep, hidT_get e (untr (.inl fun z => ?_)), d, r⟩
      rw [z, ha] at e
      cases e
      have d' : Data.seq vs.toArray _ = Data.dict es ep := d
      cases d'
    have kb : K.In (hidT s₁.heap H) := fun b o e => hidT_get (KX b o e) (by
      by_cases z : b = a
      · exact untr (.inr (by rw [← z, e]; simp))
      · exact untr (.inl z))
    have hm : Mod K mg (hidT s₁.heap H) := ⟨kb, dictNs hns, ⟨mb, dictNs hb, hbb⟩, let ⟨mc, h1, h2⟩ := hlim; ⟨mc, dictNs h1, h2⟩⟩
    have z0 : ∀ b : Addr, b ∉ frs ([] : List Env) := fun b hz => absurd (show b ∈ ([] : List Addr) from hz) (by simp)
    have en : Env0 P w K mg (hidT s₁.heap H) callerA [] s₁ H := ⟨rfl, hm, fun b o e => of_hidT e, Nat.le_of_eq (hidT_size _ _), trivial, fun b hz => absurd hz (z0 b), hok, .of_eq hg⟩
    refine codeAny_mono ((F _ kb (dictNs hns)).run callerA [] s₁ H ⟨[.ref a], []⟩ [.ref a] [.ref a] _ _ rfl hr en (hbind s₁ (.ref a)) (.cons rfl .nil) (hsp H hO hS)) ?_
    rintro (e | fl) s' h
    · obtain ⟨_, _, _, _, _, _, _, _, _, _, _, _, z⟩ := h
      exact z.elim
    · cases fl <;> first | exact False.elim h | skip
      rename_i u
      obtain ⟨v, H', os, bare, un, hok', r', q⟩ := h
      obtain rfl : v = .bl true := q
      obtain rfl : u = Value.bool true := r'
      refine ⟨rfl, OldK.of_keep fun b o e => ?_, os, bare⟩
      rcases hO b with z | ⟨ob, xs, z⟩
      · exact un.keep b o e z (z0 b) (by simp)
      · have e1 := (hok b _ z).1
        rw [e] at e1
        cases e1
        exact (hok' b _ (un.frzs b _ _ z)).1
  have rv := vals_ints hi
  cases hk : K.lookup a with
  | some o =>
    have e := KX a o hk
    rw [ha] at e
    cases e
    exact main (fun _ => none) (fun _ => .inl rfl) (.inr ⟨_, vs.toArray, _, hk, rfl, rfl, rfl, by rw [List.size_toArray, hi.length]; exact hl, by simpa using rv⟩) (fun b u z => nomatch z) fun b z => absurd rfl z
  | none =>
    let fz : HO := .frz { cls := .type "list", data := .seq vs.toArray } (.lst (ns.map V.int))
    have at_ : ∀ b, (if b = a then some fz else none) = none ∨ (b = a ∧ (if b = a then some fz else none) = some fz) := fun b => by
      by_cases h : b = a
      · exact .inr ⟨h, if_pos h⟩
      · exact .inl (if_neg h)
    refine main (fun b => if b = a then some fz else none) (fun b => (at_ b).imp id fun z => ⟨_, _, z.2⟩) (.inl (.inr ⟨{ cls := .type "list", data := .seq vs.toArray }, if_pos rfl⟩)) (fun b u z => ?_) fun b z => ⟨((at_ b).resolve_left z).1, hk⟩
    have z : (if b = a then some fz else none) = some u := z
    rcases at_ b with q | ⟨q1, q2⟩
    · rw [q] at z; cases z
    · rw [q2] at z
      cases z
      subst q1
      exact ⟨ha, by rw [List.length_map]; exact hl, vs, _, rv, ha⟩
theorem walkG {l : PySem.W.OpenLaw} {n k : Nat} {q : Program} {loose : List Str} {XP : (Str → Option Value) → Heap → Prop} {YP : World → Heap → Prop} {d : DefRec} {x : Str} (hn : l.most = some n) (hn2 : n ≤ sizeLine) (hdf : d.params.defaults = []) (hr : Room k callerA)
    (F : ∀ (w : World) (mg : Str → Option Value) (fa : Addr) (h : Heap), YP w h → h.Ns mainGlobals mg → mg d.name = some (.ref fa) → ∃ (K : Fg) (fd : FuncData) (sp : Sp), K.In h ∧ (∀ (s : Shared) (u : Value), BindsTo s fd ⟨[u], []⟩ [(x, u)]) ∧
      (∀ (H : Hp) (a : Addr) (ns : List Int), ns.length ≤ n → Only H → SqL K H a (ns.map V.int) → sp [.ref a] H (fun v _ => v = .bl true) fun _ _ _ => False) ∧ ∀ base : Heap, K.In base → base.Ns mainGlobals mg → FnG l.prog w K mg base k fa fd [x] sp) :
    PySem.W.WalkO q loose XP YP l.row.toRowW d [] (fun f vs => PySem.call f vs) := by
  refine Att.attach_call hn hdf fun w s₀ s₁ mg mb fa o pm cd doc a vs ns G Y ho hd hcd hmg hobj hints hlen hg => ?_
  obtain ⟨K, fd, sp, KX, hb, hsp, hF⟩ := F w mg fa _ Y G.T.g hmg
  exact lawG KX G.T.g G.T.b G.T.builtins G.T.nolimit hg hobj hints (Nat.le_trans hlen hn2) hr hF hb fun H hO hS => hsp H a ns hlen hO hS
end Q


set_option Elab.async false
set_option linter.all false
set_option maxRecDepth 100000
set_option maxHeartbeats 2000000
set_option autoImplicit false
/-! Q1: data trees over the hand layer: what stands at an address as a tree, slots that share, own or borrow, and the judgements whose readings speak of trees alone. -/
namespace Q
open PySem PySem.Spec PyProof.Rows L2

/-- a datum -/
inductive D where
  | non | bl (b : Bool) | int (i : Int) | str (x : Str)
  | lst (xs : List D) | tup (xs : List D) | dct (kvs : List (Key × D))
  | scr (ns : List Int)
  deriving Inhabited

mutual
inductive Rep (K : Fg) (S : Hp) : V → D → Prop
  | non : Rep K S .non .non
  | bl (b : Bool) : Rep K S (.bl b) (.bl b)
  | int (i : Int) : Rep K S (.int i) (.int i)
  | str (x : Str) : Rep K S (.str x) (.str x)
  | lst {a : Addr} {xs : List V} {ds : List D} : S a = some (.lst xs) → Reps K S xs ds → Rep K S (.ref a) (.lst ds)
  | scr {a : Addr} {ns : List Int} : SqL K S a (ns.map V.int) → Rep K S (.ref a) (.scr ns)
  | tup {a : Addr} {xs : List V} {ds : List D} : SqT K S a xs → Reps K S xs ds → Rep K S (.ref a) (.tup ds)
  | dct {a : Addr} {kvs : List (Key × V)} {ds : List (Key × D)} : Rd S a (.dK kvs) → RepK K S kvs ds → Rep K S (.ref a) (.dct ds)
inductive Reps (K : Fg) (S : Hp) : List V → List D → Prop
  | nil : Reps K S [] []
  | cons {v : V} {vs : List V} {d : D} {ds : List D} : Rep K S v d → Reps K S vs ds → Reps K S (v :: vs) (d :: ds)
inductive RepK (K : Fg) (S : Hp) : List (Key × V) → List (Key × D) → Prop
  | nil : RepK K S [] []
  | cons {k : Key} {v : V} {vs : List (Key × V)} {d : D} {ds : List (Key × D)} : Rep K S v d → RepK K S vs ds → RepK K S ((k, v) :: vs) ((k, d) :: ds)
end
theorem Same.rd {H H' : Hp} {a : Addr} {u : HO} (e : Same H H') (h : Rd H a u) : Rd H' a u := by
  rcases h with h | ⟨o, h⟩
  · exact Or.inl (e a _ h)
  · exact Or.inr ⟨o, e a _ h⟩
theorem Same.sqt {K : Fg} {H H' : Hp} {a : Addr} {xs : List V} (e : Same H H') (h : SqT K H a xs) : SqT K H' a xs := by
  rcases h with h | h
  · exact .inl (Same.rd e h)
  · exact .inr h
theorem same_upd {S : Hp} {p : Addr} {o : HO} (h : S p = none) : Same S (upd S p o) := fun b u e => by
  rw [upd_ne (ne_of_none e h)]; exact e
section
variable {K : Fg} {S S' : Hp}
mutual
theorem Rep.mono (e : Same S S') : ∀ {v : V} {d : D}, Rep K S v d → Rep K S' v d
  | _, _, .non => .non
  | _, _, .bl b => .bl b
  | _, _, .int i => .int i
  | _, _, .str x => .str x
  | _, _, .lst h r => .lst (e _ _ h) (Reps.mono e r)
  | _, _, .scr h => .scr (e.seq h)
  | _, _, .tup h r => .tup (Same.sqt e h) (Reps.mono e r)
  | _, _, .dct h r => .dct (Same.rd e h) (RepK.mono e r)
theorem Reps.mono (e : Same S S') : ∀ {vs : List V} {ds : List D}, Reps K S vs ds → Reps K S' vs ds
  | _, _, .nil => .nil
  | _, _, .cons h r => .cons (Rep.mono e h) (Reps.mono e r)
theorem RepK.mono (e : Same S S') : ∀ {vs : List (Key × V)} {ds : List (Key × D)}, RepK K S vs ds → RepK K S' vs ds
  | _, _, .nil => .nil
  | _, _, .cons h r => .cons (Rep.mono e h) (RepK.mono e r)
end
theorem Reps.length : ∀ {vs : List V} {ds : List D}, Reps K S vs ds → vs.length = ds.length
  | _, _, .nil => rfl
  | _, _, .cons _ r => congrArg (· + 1) r.length
theorem Reps.get : ∀ {vs : List V} {ds : List D} {i : Nat} {d : D}, Reps K S vs ds → ds[i]? = some d → ∃ v, vs[i]? = some v ∧ Rep K S v d
  | _, _, _, _, .nil, e => by simp at e
  | _, _, 0, _, .cons h _, e => by simp at e; subst e; exact ⟨_, rfl, h⟩
  | _, _, i + 1, d, .cons _ r, e => by
    obtain ⟨v, h1, h2⟩ := Reps.get (i := i) r (by simpa using e)
    exact ⟨v, by simpa using h1, h2⟩
theorem Reps.getV : ∀ {vs : List V} {ds : List D} {i : Nat} {v : V}, Reps K S vs ds → vs[i]? = some v → ∃ d, ds[i]? = some d ∧ Rep K S v d
  | _, _, _, _, .nil, e => by simp at e
  | _, _, 0, _, .cons h _, e => by simp at e; subst e; exact ⟨_, rfl, h⟩
  | _, _, i + 1, d, .cons _ r, e => by
    obtain ⟨v, h1, h2⟩ := Reps.getV (i := i) r (by simpa using e)
    exact ⟨v, by simpa using h1, h2⟩
theorem Reps.append : ∀ {vs ws : List V} {ds es : List D}, Reps K S vs ds → Reps K S ws es → Reps K S (vs ++ ws) (ds ++ es)
  | _, _, _, _, .nil, r => r
  | _, _, _, _, .cons h t, r => .cons h (t.append r)
theorem Reps.take : ∀ {vs : List V} {ds : List D} (n : Nat), Reps K S vs ds → Reps K S (vs.take n) (ds.take n)
  | _, _, 0, _ => by simp; exact .nil
  | _, _, _ + 1, .nil => .nil
  | _, _, n + 1, .cons h r => .cons h (r.take n)
theorem Reps.drop : ∀ {vs : List V} {ds : List D} (n : Nat), Reps K S vs ds → Reps K S (vs.drop n) (ds.drop n)
  | _, _, 0, r => r
  | _, _, _ + 1, .nil => .nil
  | _, _, n + 1, .cons _ r => r.drop n
theorem Reps.set : ∀ {vs : List V} {ds : List D} (n : Nat) {v : V} {d : D}, Rep K S v d → Reps K S vs ds → Reps K S (vs.set n v) (ds.set n d)
  | _, _, _, _, _, _, .nil => .nil
  | _, _, 0, _, _, h, .cons _ r => .cons h r
  | _, _, n + 1, _, _, h, .cons q r => .cons q (r.set n h)
theorem Reps.eraseIdx : ∀ {vs : List V} {ds : List D} (n : Nat), Reps K S vs ds → Reps K S (vs.eraseIdx n) (ds.eraseIdx n)
  | _, _, _, .nil => by simp; exact .nil
  | _, _, 0, .cons _ r => r
  | _, _, n + 1, .cons q r => .cons q (r.eraseIdx n)
theorem Reps.ints : ∀ {vs : List V} {ns : List Int}, Reps K S vs (ns.map D.int) → vs = ns.map V.int
  | [], [], _ => rfl
  | [], _ :: _, h => nomatch h
  | _ :: _, [], h => nomatch h
  | v :: vs, n :: ns, .cons h r => by
    cases h
    rw [Reps.ints r]; rfl
theorem Reps.of_ints : ∀ (ns : List Int), Reps K S (ns.map V.int) (ns.map D.int)
  | [] => .nil
  | n :: ns => .cons (.int n) (Reps.of_ints ns)
theorem Reps.bls : ∀ {vs : List V} {ns : List Bool}, Reps K S vs (ns.map D.bl) → vs = ns.map V.bl
  | [], [], _ => rfl
  | [], _ :: _, h => nomatch h
  | _ :: _, [], h => nomatch h
  | v :: vs, n :: ns, .cons h r => by
    cases h
    rw [Reps.bls r]; rfl
theorem Reps.strs : ∀ {vs : List V} {ns : List Str}, Reps K S vs (ns.map D.str) → vs = ns.map V.str
  | [], [], _ => rfl
  | [], _ :: _, h => nomatch h
  | _ :: _, [], h => nomatch h
  | v :: vs, n :: ns, .cons h r => by
    cases h
    rw [Reps.strs r]; rfl
theorem RepK.length : ∀ {vs : List (Key × V)} {ds : List (Key × D)}, RepK K S vs ds → vs.length = ds.length
  | _, _, .nil => rfl
  | _, _, .cons _ r => congrArg (· + 1) r.length
end

/-- what stands at v: the top read in H, all below in S -/
inductive At (K : Fg) (S H : Hp) : V → D → Prop
  | non : At K S H .non .non
  | bl (b : Bool) : At K S H (.bl b) (.bl b)
  | int (i : Int) : At K S H (.int i) (.int i)
  | str (x : Str) : At K S H (.str x) (.str x)
  | lst {a : Addr} {xs : List V} {ds : List D} : H a = some (.lst xs) → Reps K S xs ds → At K S H (.ref a) (.lst ds)
  | scr {a : Addr} {ns : List Int} : SqL K H a (ns.map V.int) → At K S H (.ref a) (.scr ns)
  | tup {a : Addr} {xs : List V} {ds : List D} : SqT K H a xs → Reps K S xs ds → At K S H (.ref a) (.tup ds)
  | dct {a : Addr} {kvs : List (Key × V)} {ds : List (Key × D)} : Rd H a (.dK kvs) → RepK K S kvs ds → At K S H (.ref a) (.dct ds)
/-- an object that may be written -/
inductive OwnAt (K : Fg) (S H : Hp) (p : Addr) : D → Prop
  | lst {xs : List V} {ds : List D} : H p = some (.lst xs) → Reps K S xs ds → OwnAt K S H p (.lst ds)
  | dct {kvs : List (Key × V)} {ds : List (Key × D)} : H p = some (.dK kvs) → RepK K S kvs ds → OwnAt K S H p (.dct ds)
section
variable {K : Fg} {S S' H H' : Hp} {v : V} {d : D} {p : Addr}
theorem At.of_rep (e : Same S H) (h : Rep K S v d) : At K S H v d := by
  cases h with
  | non => exact .non
  | bl b => exact .bl b
  | int i => exact .int i
  | str x => exact .str x
  | lst h r => exact .lst (e _ _ h) r
  | scr h => exact .scr (e.seq h)
  | tup h r => exact .tup (Same.sqt e h) r
  | dct h r => exact .dct (Same.rd e h) r
theorem At.mono (e : Same S S') (e2 : Same H H') (h : At K S H v d) : At K S' H' v d := by
  cases h with
  | non => exact .non
  | bl b => exact .bl b
  | int i => exact .int i
  | str x => exact .str x
  | lst h r => exact .lst (e2 _ _ h) (r.mono e)
  | scr h => exact .scr (e2.seq h)
  | tup h r => exact .tup (Same.sqt e2 h) (r.mono e)
  | dct h r => exact .dct (Same.rd e2 h) (r.mono e)
theorem At.rep (h : At K S S v d) : Rep K S v d := by
  cases h with
  | scr h => exact .scr h
  | non => exact .non
  | bl b => exact .bl b
  | int i => exact .int i
  | str x => exact .str x
  | lst h r => exact .lst h r
  | tup h r => exact .tup h r
  | dct h r => exact .dct h r
theorem OwnAt.at (h : OwnAt K S H p d) : At K S H (.ref p) d := by
  cases h with
  | lst h r => exact .lst h r
  | dct h r => exact .dct (.inl h) r
theorem OwnAt.mono (e : Same S S') (e2 : H' p = H p) (h : OwnAt K S H p d) : OwnAt K S' H' p d := by
  cases h with
  | lst h r => exact .lst (e2.trans h) (r.mono e)
  | dct h r => exact .dct (e2.trans h) (r.mono e)
theorem OwnAt.some (h : OwnAt K S H p d) : ∃ o, H p = some o := by
  cases h with
  | lst h r => exact ⟨_, h⟩
  | dct h r => exact ⟨_, h⟩
/-- a flat datum -/
def scalar : D → Option V
  | .non => some .non
  | .bl b => some (.bl b)
  | .int i => some (.int i)
  | .str x => some (.str x)
  | _ => none
theorem At.scal {w : V} (h : At K S H v d) (e : scalar d = some w) : v = w := by
  cases h <;> simp [scalar] at e <;> exact e
theorem Rep.scal {w : V} (e : scalar d = some w) : Rep K S w d := by
  cases d <;> simp [scalar] at e <;> subst e <;> constructor
theorem At.scalRep {w : V} (h : At K S H v d) (e : scalar d = some w) : Rep K S' v d := by
  rw [h.scal e]; exact Rep.scal e
end

/-- what a slot holds: nothing known; a shared datum (never written); an object of one's own; a borrowed one (read only); the source of draws -/
inductive Sl where
  | no | sh (d : D) | own (d : D) | bor (d : D) | bag (n : Nat)
abbrev En := List Sl
/-- what holds of the source of draws, and how many draws were made -/
structure Gd where
  ok : List D → Prop
  cnt : List D → Nat
/-- the setting: the written part, the module's names, the source of draws and how many draws there may be -/
structure Cg where
  K : Fg
  mg : Str → Option Value
  g : Gd
  N : Nat
def BagAt (c : Cg) (S H : Hp) (p : Addr) (n : Nat) : Prop := ∃ xs ds, H p = some (.lst xs) ∧ Reps c.K S xs ds ∧ c.g.ok ds ∧ c.g.cnt ds + n ≤ c.N ∧ c.N ≤ 2 ^ 60
theorem BagAt.mono {c : Cg} {S S' H H' : Hp} {p : Addr} {n m : Nat} (h : BagAt c S H p n) (e : Same S S') (e2 : H' p = H p) (hm : m ≤ n) : BagAt c S' H' p m := by
  obtain ⟨xs, ds, h1, h2, h3, h4, h5⟩ := h
  exact ⟨xs, ds, e2.trans h1, h2.mono e, h3, by omega, h5⟩
/-- how many draws a slot may make -/
def bw : Sl → Nat
  | .bag n => n
  | _ => 0
def bud : En → Nat
  | [] => 0
  | s :: r => bw s + bud r
theorem bud_set : ∀ (env : En) (i : Nat) (s s' : Sl), env[i]? = some s' → bud (env.set i s) + bw s' = bud env + bw s
  | [], i, s, s', h => by simp at h
  | a :: r, 0, s, s', h => by
    simp at h; subst h
    show bw s + bud r + bw a = bw a + bud r + bw s
    omega
  | a :: r, i + 1, s, s', h => by
    have := bud_set r i s s' (by simpa using h)
    show bw a + bud (r.set i s) + bw s' = bw a + bud r + bw s
    omega
theorem bud_le : ∀ (env : En) (i : Nat) (s : Sl), bw s = 0 → bud (env.set i s) ≤ bud env
  | [], i, s, h => by simp
  | a :: r, 0, s, h => by
    show bw s + bud r ≤ bw a + bud r
    omega
  | a :: r, i + 1, s, h => by
    have := bud_le r i s h
    show bw a + bud (r.set i s) ≤ bw a + bud r
    omega
def SlOk (K : Fg) (F P S H : Hp) (b : Option Addr) : Sl → Option V → Prop
  | .no, _ => True
  | .sh d, some v => Rep K S v d
  | .bor d, some v => At K S F v d
  | .own d, some v => ∃ p, v = .ref p ∧ P p = none ∧ S p = none ∧ b ≠ some p ∧ OwnAt K S H p d
  | .bag _, some v => ∃ p, b = some p ∧ v = .ref p
  | _, none => False
/-- the slots and the heap hold the environment: F what is borrowed, P what is to stay, S what is shared, b the source of draws -/
structure Rel (c : Cg) (F P S : Hp) (b : Option Addr) (σ : L2.St) (H : Hp) (env : En) : Prop where
  len : env.length = σ.length
  fp : Same F P
  ph : Same P H
  sh : Same S H
  bg : ∀ p, b = some p → P p = none ∧ S p = none ∧ BagAt c S H p (bud env)
  sl : ∀ (i : Nat) (s : Sl) (v : Option V), env[i]? = some s → σ[i]? = some v → SlOk c.K F P S H b s v
  ap : ∀ (i j : Nat) (p : Addr) (d d' : D), i ≠ j → σ[i]? = some (some (.ref p)) → env[i]? = some (.own d) → σ[j]? = some (some (.ref p)) → env[j]? = some (.own d') → False
/-- S grows by what is new -/
def Ext (P S S' : Hp) : Prop := Same S S' ∧ ∀ a, S a = none → P a ≠ none → S' a = none
theorem Ext.refl {P S : Hp} : Ext P S S := ⟨Same.refl S, fun _ h _ => h⟩
theorem Ext.trans {P S S' S2 : Hp} (a : Ext P S S') (b : Ext P S' S2) : Ext P S S2 := ⟨a.1.trans b.1, fun x h1 h2 => b.2 x (a.2 x h1 h2) h2⟩
/-- a value: a datum; the object in a slot; the source -/
inductive Va where
  | d (d : D) | ptr (i : Nat) | bag (i : Nat)
def RV (K : Fg) (S : Hp) (σ : L2.St) (b : Option Addr) (v : V) : Va → Prop
  | .d d => Rep K S v d
  | .ptr i => σ[i]? = some (some v)
  | .bag i => σ[i]? = some (some v)
theorem RV.mono {K : Fg} {S S' : Hp} {σ : L2.St} {b : Option Addr} {v : V} {x : Va} (h : RV K S σ b v x) (e : Same S S') : RV K S' σ b v x := by
  cases x with
  | d d => exact Rep.mono e h
  | ptr i => exact h
  | bag i => exact h
/-- a result: shared, or new and one's own -/
inductive Rv where
  | sh (d : D) | own (d : D)
def Rv.dat : Rv → D
  | .sh d => d
  | .own d => d
def RvOk (K : Fg) (P S : Hp) (b : Option Addr) (H : Hp) (v : V) : Rv → Prop
  | .sh d => Rep K S v d
  | .own d => ∃ p, v = .ref p ∧ P p = none ∧ S p = none ∧ b ≠ some p ∧ OwnAt K S H p d
def slotD : Sl → Option D
  | .sh d => some d
  | .own d => some d
  | .bor d => some d
  | _ => none
/-- the datum of a value -/
def res (env : En) : Va → Option D
  | .d d => some d
  | .ptr i => (env[i]?).bind slotD
  | .bag _ => none

section
variable {c : Cg} {F P S S' H H' : Hp} {b : Option Addr} {σ : L2.St} {env : En} {v : V} {x : Va} {d : D} {i : Nat} {p : Addr} {o : HO}
theorem Rel.fh (R : Rel c F P S b σ H env) : Same F H := R.fp.trans R.ph
theorem Rel.slot (R : Rel c F P S b σ H env) {s : Sl} (h : env[i]? = some s) : ∃ v, σ[i]? = some v ∧ SlOk c.K F P S H b s v := by
  have hi : i < σ.length := by rw [← R.len]; exact (List.getElem?_eq_some_iff.mp h).1
  exact ⟨σ[i], List.getElem?_eq_getElem hi, R.sl i s _ h (List.getElem?_eq_getElem hi)⟩
theorem SlOk.at (R : Rel c F P S b σ H env) {s : Sl} (h : SlOk c.K F P S H b s (some v)) (e : slotD s = some d) : At c.K S H v d := by
  cases s with
  | no => cases e
  | bag _ => cases e
  | sh d' => cases e; exact .of_rep R.sh h
  | bor d' => cases e; exact At.mono (Same.refl _) R.fh h
  | own d' =>
    cases e
    obtain ⟨p, rfl, _, _, _, h⟩ := h
    exact h.at
/-- a value is read -/
theorem Rel.read (R : Rel c F P S b σ H env) (r : RV c.K S σ b v x) (e : res env x = some d) : At c.K S H v d := by
  cases x with
  | d d' => cases e; exact .of_rep R.sh r
  | bag _ => cases e
  | ptr i =>
    have r' : σ[i]? = some (some v) := r
    have e : (env[i]?).bind slotD = some d := e
    cases h : env[i]? with
    | none => rw [h] at e; cases e
    | some s =>
      rw [h] at e
      exact SlOk.at R (R.sl i s _ h r') e
/-- the general step: slots as they are -/
theorem Rel.to (R : Rel c F P S b σ H env) (hS : Same S S') (hP : Same P H') (hSH : Same S' H') (own : ∀ (i : Nat) (p : Addr) (d : D), σ[i]? = some (some (.ref p)) → env[i]? = some (.own d) → S' p = none ∧ H' p = H p)
    (bag : ∀ p, b = some p → S' p = none ∧ BagAt c S' H' p (bud env)) : Rel c F P S' b σ H' env := by
  refine ⟨R.len, R.fp, hP, hSH, fun p e => ?_, fun i s v h1 h2 => ?_, R.ap⟩
  · obtain ⟨h1, h2, h3⟩ := R.bg p e
    obtain ⟨h4, h5⟩ := bag p e
    exact ⟨h1, h4, h5⟩
  · have h := R.sl i s v h1 h2
    cases s with
    | no => trivial
    | sh d =>
      cases v with
      | none => exact h
      | some v => exact Rep.mono hS h
    | bor d =>
      cases v with
      | none => exact h
      | some v => exact At.mono hS (Same.refl _) h
    | bag _ => cases v <;> exact h
    | own d =>
      cases v with
      | none => exact h
      | some v =>
        obtain ⟨p, rfl, h3, h4, h5, h6⟩ := h
        obtain ⟨h7, h8⟩ := own i p d h2 h1
        exact ⟨p, rfl, h3, h7, h5, h6.mono hS h8⟩
theorem Rel.ownAt (R : Rel c F P S b σ H env) (h1 : σ[i]? = some (some (.ref p))) (h2 : env[i]? = some (.own d)) : P p = none ∧ S p = none ∧ b ≠ some p ∧ OwnAt c.K S H p d := by
  obtain ⟨q, e, h⟩ := R.sl i _ _ h2 h1
  cases e
  exact h
theorem BagAt.some {n : Nat} (h : BagAt c S H p n) : ∃ o, H p = some o := by
  obtain ⟨xs, ds, h1, _⟩ := h
  exact ⟨_, h1⟩
/-- a new object, not shared -/
theorem Rel.alloc (R : Rel c F P S b σ H env) (hp : H p = none) : Rel c F P S b σ (upd H p o) env := by
  have e := same_upd (o := o) hp
  refine R.to (Same.refl _) (R.ph.trans e) (R.sh.trans e) (fun i q d h1 h2 => ?_) fun q h => ?_
  · obtain ⟨_, h4, _, h6⟩ := R.ownAt h1 h2
    obtain ⟨o, h7⟩ := h6.some
    exact ⟨h4, upd_ne (ne_of_none h7 hp)⟩
  · obtain ⟨_, h2, h3⟩ := R.bg q h
    obtain ⟨o, h7⟩ := h3.some
    exact ⟨h2, h3.mono (Same.refl _) (upd_ne (ne_of_none h7 hp)) (Nat.le_refl _)⟩
theorem Rel.new (R : Rel c F P S b σ H env) (hp : H p = none) : P p = none ∧ S p = none ∧ b ≠ some p := by
  refine ⟨R.ph.free hp, R.sh.free hp, fun e => ?_⟩
  obtain ⟨_, _, h3⟩ := R.bg p e
  obtain ⟨o, h7⟩ := h3.some
  rw [hp] at h7
  cases h7
/-- a new object, shared -/
theorem Rel.allocSh (R : Rel c F P S b σ H env) (hp : H p = none) : Rel c F P (upd S p o) b σ (upd H p o) env := by
  have hs := (R.new hp).2.1
  refine R.to (same_upd hs) (R.ph.trans (same_upd hp)) (fun a u e => ?_) (fun i q d h1 h2 => ?_) fun q h => ?_
  · by_cases h : a = p
    · subst h; rw [upd_same] at e ⊢; exact e
    · rw [upd_ne h] at e ⊢; exact R.sh a u e
  · obtain ⟨_, h4, _, h6⟩ := R.ownAt h1 h2
    obtain ⟨o, h7⟩ := h6.some
    have ne := ne_of_none h7 hp
    exact ⟨by rw [upd_ne ne]; exact h4, upd_ne ne⟩
  · obtain ⟨_, h2, h3⟩ := R.bg q h
    obtain ⟨o, h7⟩ := h3.some
    have ne := ne_of_none h7 hp
    exact ⟨by rw [upd_ne ne]; exact h2, h3.mono (same_upd hs) (upd_ne ne) (Nat.le_refl _)⟩
theorem Ext.alloc (hp : P p = none) (hs : S p = none) : Ext P S (upd S p o) := ⟨same_upd hs, fun a h1 h2 => by
  rw [upd_ne (fun e => h2 (by rw [e]; exact hp))]; exact h1⟩
/-- an own result is shared from now on -/
theorem Rel.share (R : Rel c F P S b σ H env) (hp : P p = none) (hs : S p = none) (hb : b ≠ some p) (ho : H p = some o) (hn : ∀ (i : Nat) (d : D), σ[i]? = some (some (.ref p)) → env[i]? ≠ some (.own d)) : Rel c F P (upd S p o) b σ H env := by
  refine R.to (same_upd hs) R.ph (fun a u e => ?_) (fun i q d h1 h2 => ?_) fun q h => ?_
  · by_cases h : a = p
    · subst h; rw [upd_same] at e; cases e; exact ho
    · rw [upd_ne h] at e; exact R.sh a u e
  · obtain ⟨_, h4, _, h6⟩ := R.ownAt h1 h2
    have ne : q ≠ p := fun e => hn i d (e ▸ h1) h2
    exact ⟨by rw [upd_ne ne]; exact h4, rfl⟩
  · obtain ⟨_, h2, h3⟩ := R.bg q h
    have ne : q ≠ p := fun e => hb (e ▸ h)
    exact ⟨by rw [upd_ne ne]; exact h2, h3.mono (same_upd hs) rfl (Nat.le_refl _)⟩
theorem OwnAt.rep {S0 : Hp} (h : OwnAt c.K S H p d) (ho : H p = Option.some o) (hs : S p = none) : Rep c.K (upd S p o) (.ref p) d := by
  cases h with
  | lst h r =>
    rw [h] at ho; cases ho
    exact .lst upd_same (r.mono (same_upd hs))
  | dct h r =>
    rw [h] at ho; cases ho
    exact .dct (.inl upd_same) (r.mono (same_upd hs))
theorem getElem?_set' {α : Type} {l : List α} {i j : Nat} {a x : α} (h : (l.set i a)[j]? = some x) : (j = i ∧ x = a ∧ i < l.length) ∨ (j ≠ i ∧ l[j]? = some x) := by
  by_cases e : j = i
  · subst e
    by_cases hl : j < l.length
    · rw [List.getElem?_set_self hl] at h
      exact .inl ⟨rfl, (Option.some.inj h).symm, hl⟩
    · rw [List.getElem?_eq_none (by simpa using hl)] at h
      cases h
  · rw [List.getElem?_set_ne (fun z => e z.symm)] at h
    exact .inr ⟨e, h⟩
/-- a slot is stored, not by an own object -/
theorem Rel.put (R : Rel c F P S b σ H env) {s : Sl} (h : SlOk c.K F P S H b s (some v)) (hn : ∀ d, s ≠ .own d) (hb : bw s = 0) : Rel c F P S b (σ.set i (some v)) H (env.set i s) := by
  refine ⟨by rw [List.length_set, List.length_set]; exact R.len, R.fp, R.ph, R.sh, fun p e => ⟨(R.bg p e).1, (R.bg p e).2.1, (R.bg p e).2.2.mono (Same.refl _) rfl (bud_le env i s hb)⟩, fun j s' v' h1 h2 => ?_, fun j k q d d' hjk h1 h2 h3 h4 => ?_⟩
  · rcases getElem?_set' h1 with ⟨e, e2, _⟩ | ⟨e, e2⟩
    · rcases getElem?_set' h2 with ⟨_, e4, _⟩ | ⟨e4, _⟩
      · subst e2; subst e4; exact h
      · exact absurd e e4
    · rcases getElem?_set' h2 with ⟨e4, _, _⟩ | ⟨_, e4⟩
      · exact absurd e4 e
      · exact R.sl j s' v' e2 e4
  · rcases getElem?_set' h2 with ⟨_, e2, _⟩ | ⟨e, e2⟩
    · exact hn d e2.symm
    · rcases getElem?_set' h4 with ⟨_, e4, _⟩ | ⟨e', e4⟩
      · exact hn d' e4.symm
      · rw [List.getElem?_set_ne (fun z => e z.symm)] at h1
        rw [List.getElem?_set_ne (fun z => e' z.symm)] at h3
        exact R.ap j k q d d' hjk h1 e2 h3 e4
theorem Rel.putSh (R : Rel c F P S b σ H env) (h : Rep c.K S v d) : Rel c F P S b (σ.set i (some v)) H (env.set i (.sh d)) := R.put h (fun _ => by simp) rfl
/-- a slot is stored by an own object that no slot owns -/
theorem Rel.putOwn (R : Rel c F P S b σ H env) (hp : P p = none) (hs : S p = none) (hb : b ≠ some p) (ho : OwnAt c.K S H p d) (hn : ∀ (i : Nat) (d : D), σ[i]? = some (some (.ref p)) → env[i]? ≠ some (.own d)) :
    Rel c F P S b (σ.set i (some (.ref p))) H (env.set i (.own d)) := by
  refine ⟨by rw [List.length_set, List.length_set]; exact R.len, R.fp, R.ph, R.sh, fun p e => ⟨(R.bg p e).1, (R.bg p e).2.1, (R.bg p e).2.2.mono (Same.refl _) rfl (bud_le env i _ rfl)⟩, fun j s' v' h1 h2 => ?_, fun j k q e e' hjk h1 h2 h3 h4 => ?_⟩
  · rcases getElem?_set' h1 with ⟨e, e2, _⟩ | ⟨e, e2⟩
    · rcases getElem?_set' h2 with ⟨_, e4, _⟩ | ⟨e4, _⟩
      · subst e2; subst e4; exact ⟨p, rfl, hp, hs, hb, ho⟩
      · exact absurd e e4
    · rcases getElem?_set' h2 with ⟨e4, _, _⟩ | ⟨_, e4⟩
      · exact absurd e4 e
      · exact R.sl j s' v' e2 e4
  · rcases getElem?_set' h2 with ⟨ej, _, _⟩ | ⟨ej, e2⟩
    · rcases getElem?_set' h4 with ⟨ek, _, _⟩ | ⟨ek, e4⟩
      · exact hjk (ej.trans ek.symm)
      · rcases getElem?_set' h1 with ⟨_, z, _⟩ | ⟨z, _⟩
        · rw [List.getElem?_set_ne (fun z => ek z.symm)] at h3
          cases z
          exact hn k e' h3 e4
        · exact z ej
    · rcases getElem?_set' h4 with ⟨ek, _, _⟩ | ⟨ek, e4⟩
      · rcases getElem?_set' h3 with ⟨_, z, _⟩ | ⟨z, _⟩
        · rw [List.getElem?_set_ne (fun z => ej z.symm)] at h1
          cases z
          exact hn j e h1 e2
        · exact z ek
      · rw [List.getElem?_set_ne (fun z => ej z.symm)] at h1
        rw [List.getElem?_set_ne (fun z => ek z.symm)] at h3
        exact R.ap j k q e e' hjk h1 e2 h3 e4
theorem Rel.notOwn (R : Rel c F P S b σ H env) (hp : H p = none) : ∀ (i : Nat) (d : D), σ[i]? = some (some (.ref p)) → env[i]? ≠ some (.own d) := fun i d h1 h2 => by
  obtain ⟨_, _, _, h6⟩ := R.ownAt h1 h2
  obtain ⟨o, h7⟩ := h6.some
  rw [hp] at h7; cases h7
/-- an own slot's object is shared from now on -/
theorem Rel.freeze (R : Rel c F P S b σ H env) (h1 : σ[i]? = some (some (.ref p))) (h2 : env[i]? = some (.own d)) (ho : H p = some o) : Rel c F P (upd S p o) b σ H (env.set i (.sh d)) := by
  obtain ⟨hP, hS, hB, hO⟩ := R.ownAt h1 h2
  have sm := same_upd (o := o) hS
  refine ⟨by rw [List.length_set]; exact R.len, R.fp, R.ph, fun a u e => ?_, fun q e => ?_, fun j s' v' h3 h4 => ?_, fun j k q e e' hjk g1 g2 g3 g4 => ?_⟩
  · by_cases h : a = p
    · subst h; rw [upd_same] at e; cases e; exact ho
    · rw [upd_ne h] at e; exact R.sh a u e
  · obtain ⟨a1, a2, a3⟩ := R.bg q e
    have ne : q ≠ p := fun z => hB (z ▸ e)
    exact ⟨a1, by rw [upd_ne ne]; exact a2, a3.mono sm rfl (bud_le env i _ rfl)⟩
  · rcases getElem?_set' h3 with ⟨e, e2, _⟩ | ⟨e, e2⟩
    · subst e; subst e2
      rw [h1] at h4; cases h4
      exact hO.rep (S0 := S) ho hS
    · have h := R.sl j s' v' e2 h4
      cases s' with
      | no => trivial
      | sh d =>
        cases v' with
        | none => exact h
        | some v => exact Rep.mono sm h
      | bor d =>
        cases v' with
        | none => exact h
        | some v => exact At.mono sm (Same.refl _) h
      | bag _ => cases v' <;> exact h
      | own d' =>
        cases v' with
        | none => exact h
        | some v =>
          obtain ⟨q, rfl, h5, h6, h7, h8⟩ := h
          have ne : q ≠ p := fun z => R.ap j i p d' d e (z ▸ h4) e2 h1 h2
          exact ⟨q, rfl, h5, by rw [upd_ne ne]; exact h6, h7, h8.mono sm rfl⟩
  · rcases getElem?_set' g2 with ⟨_, z, _⟩ | ⟨_, z⟩
    · cases z
    · rcases getElem?_set' g4 with ⟨_, z', _⟩ | ⟨_, z'⟩
      · cases z'
      · exact R.ap j k q e e' hjk g1 z g3 z'
/-- an own slot's object is written -/
theorem Rel.write (R : Rel c F P S b σ H env) {d' : D} (h1 : σ[i]? = some (some (.ref p))) (h2 : env[i]? = some (.own d)) (hn : OwnAt c.K S (upd H p o) p d') : Rel c F P S b σ (upd H p o) (env.set i (.own d')) := by
  obtain ⟨hP, hS, hB, hO⟩ := R.ownAt h1 h2
  have out : ∀ {X : Hp}, X p = none → Same X H → Same X (upd H p o) := fun {X} hx hs a u e => by
    rw [upd_ne (ne_of_none e hx)]; exact hs a u e
  refine ⟨by rw [List.length_set]; exact R.len, R.fp, out hP R.ph, out hS R.sh, fun q e => ?_, fun j s' v' h3 h4 => ?_, fun j k q e e' hjk g1 g2 g3 g4 => ?_⟩
  · obtain ⟨a1, a2, a3⟩ := R.bg q e
    have ne : q ≠ p := fun z => hB (z ▸ e)
    exact ⟨a1, a2, a3.mono (Same.refl _) (upd_ne ne) (bud_le env i _ rfl)⟩
  · rcases getElem?_set' h3 with ⟨e, e2, _⟩ | ⟨e, e2⟩
    · subst e; subst e2
      rw [h1] at h4; cases h4
      exact ⟨p, rfl, hP, hS, hB, hn⟩
    · have h := R.sl j s' v' e2 h4
      cases s' with
      | no => trivial
      | sh d => cases v' <;> exact h
      | bor d => cases v' <;> exact h
      | bag _ => cases v' <;> exact h
      | own d' =>
        cases v' with
        | none => exact h
        | some v =>
          obtain ⟨q, rfl, h5, h6, h7, h8⟩ := h
          have ne : q ≠ p := fun z => R.ap j i p d' d e (z ▸ h4) e2 h1 h2
          exact ⟨q, rfl, h5, h6, h7, h8.mono (Same.refl _) (upd_ne ne)⟩
  · have dd : ∀ (m : Nat) (e : D), (env.set i (Sl.own d'))[m]? = some (Sl.own e) → ∃ e', env[m]? = some (Sl.own e') := fun m e h => by
      rcases getElem?_set' h with ⟨z, _, _⟩ | ⟨_, z⟩
      · exact ⟨d, z ▸ h2⟩
      · exact ⟨e, z⟩
    obtain ⟨y1, w1⟩ := dd j e g2
    obtain ⟨y2, w2⟩ := dd k e' g4
    exact R.ap j k q y1 y2 hjk g1 w1 g3 w2
/-- a larger part that is to stay -/
theorem Rel.guard (R : Rel c F P S b σ H env) {D' : Addr} (hp : P D' = none) (ho : H D' = some o) (hs : S D' = none) (hb : b ≠ some D') (hn : ∀ (i : Nat) (d : D), σ[i]? = some (some (.ref D')) → env[i]? ≠ some (.own d)) : Rel c F (upd P D' o) S b σ H env := by
  refine ⟨R.len, R.fp.trans (same_upd hp), fun a u e => ?_, R.sh, fun q e => ?_, fun j s' v' h3 h4 => ?_, R.ap⟩
  · by_cases h : a = D'
    · subst h; rw [upd_same] at e; cases e; exact ho
    · rw [upd_ne h] at e; exact R.ph a u e
  · obtain ⟨a1, a2, a3⟩ := R.bg q e
    have ne : q ≠ D' := fun z => hb (z ▸ e)
    exact ⟨by rw [upd_ne ne]; exact a1, a2, a3⟩
  · have h := R.sl j s' v' h3 h4
    cases s' with
    | no => trivial
    | sh d => cases v' <;> exact h
    | bor d => cases v' <;> exact h
    | bag _ => cases v' <;> exact h
    | own d' =>
      cases v' with
      | none => exact h
      | some v =>
        obtain ⟨q, rfl, h5, h6, h7, h8⟩ := h
        have ne : q ≠ D' := fun z => hn j d' (z ▸ h4) h3
        exact ⟨q, rfl, by rw [upd_ne ne]; exact h5, h6, h7, h8⟩
theorem Rel.unguard (R : Rel c F (upd P p o) S b σ H env) (hp : P p = none) (hf : Same F P) : Rel c F P S b σ H env := by
  have un : ∀ q, upd P p o q = none → P q = none := fun q h => (same_upd hp).free h
  refine ⟨R.len, hf, (same_upd hp).trans R.ph, R.sh, fun q e => ?_, fun j s' v' h3 h4 => ?_, R.ap⟩
  · obtain ⟨a1, a2, a3⟩ := R.bg q e
    exact ⟨un q a1, a2, a3⟩
  · have h := R.sl j s' v' h3 h4
    cases s' with
    | no => trivial
    | sh d => cases v' <;> exact h
    | bor d => cases v' <;> exact h
    | bag _ => cases v' <;> exact h
    | own d' =>
      cases v' with
      | none => exact h
      | some v =>
        obtain ⟨q, rfl, h5, h6, h7, h8⟩ := h
        exact ⟨q, rfl, un q h5, h6, h7, h8⟩
end
end Q


set_option Elab.async false
set_option linter.all false
set_option maxRecDepth 100000
set_option maxHeartbeats 2000000
set_option autoImplicit false
/-! Q2: the judgements over trees, expressions, calls, statements, loops, comprehensions. -/
namespace Q
open PySem PySem.Spec PyProof.Rows L2

abbrev XQ := Str → List D → En → Prop
abbrev TEq := En → (Va → En → Prop) → XQ → Prop
abbrev TNq := En → (Rv → En → Prop) → XQ → Prop
abbrev TTq := En → (Bool → En → Prop) → XQ → Prop
abbrev TAq := En → (List Va → En → Prop) → XQ → Prop
abbrev cg (X : Cx) (g : Gd) (N : Nat) : Cg := ⟨X.K, X.mg, g, N⟩
/-- what an error carries -/
def PayOk (K : Fg) (S H : Hp) (d : Option Addr) : List D → Prop
  | [] => d = none
  | v :: _ => ∃ dd w, d = some dd ∧ H dd = some (.xd [(("index" : Str), w)]) ∧ Rep K S w v
def XOk (c : Cg) (F P : Hp) (b : Option Addr) (W : WX) (S : Hp) (x : XQ) : Prop :=
  ∀ (nm : Str) (pay : List D) (env' : En) (S' : Hp) (σ' : L2.St) (H' : Hp) (C : Addr) (d : Option Addr), Rel c F P S' b σ' H' env' → Ext P S S' → x nm pay env' → c.mg nm = some (.ref C) → PayOk c.K S' H' d pay → W (.ref C) d σ' H'
theorem XOk.mono {c : Cg} {F P S S' : Hp} {b : Option Addr} {W : WX} {x : XQ} (h : XOk c F P b W S x) (e : Ext P S S') : XOk c F P b W S' x :=
  fun nm pay env' S2 σ' H' C d R e2 => h nm pay env' S2 σ' H' C d R (e.trans e2)
theorem XOk.no {c : Cg} {F P S : Hp} {b : Option Addr} {W : WX} : XOk c F P b W S (fun _ _ _ => False) := fun _ _ _ _ _ _ _ _ _ _ h => h.elim
def Sm (c : Cg) (W : WX) (t : TE) (q : TEq) : Prop := ∀ (F P S : Hp) (b : Option Addr) (σ : L2.St) (H : Hp) (env : En) (k : Va → En → Prop) (x : XQ) (Q : VK), Rel c F P S b σ H env → q env k x → XOk c F P b W S x →
  (∀ (S' H' : Hp) (env' : En) (v : V) (y : Va), Rel c F P S' b σ H' env' → Ext P S S' → RV c.K S' σ b v y → k y env' → Q v H') → t σ H Q
def SmN (c : Cg) (W : WX) (t : TE) (q : TNq) : Prop := ∀ (F P S : Hp) (b : Option Addr) (σ : L2.St) (H : Hp) (env : En) (k : Rv → En → Prop) (x : XQ) (Q : VK), Rel c F P S b σ H env → q env k x → XOk c F P b W S x →
  (∀ (S' H' : Hp) (env' : En) (v : V) (y : Rv), Rel c F P S' b σ H' env' → Ext P S S' → RvOk c.K P S' b H' v y → (∀ d, y = .own d → ∀ (i : Nat) (e : D) (p : Addr), v = .ref p → σ[i]? = some (some (.ref p)) → env'[i]? ≠ some (.own e)) → k y env' → Q v H') → t σ H Q
def SmT (c : Cg) (W : WX) (t : TT) (q : TTq) : Prop := ∀ (F P S : Hp) (b : Option Addr) (σ : L2.St) (H : Hp) (env : En) (k : Bool → En → Prop) (x : XQ) (Q : Bool → Hp → Prop), Rel c F P S b σ H env → q env k x → XOk c F P b W S x →
  (∀ (S' H' : Hp) (env' : En) (y : Bool), Rel c F P S' b σ H' env' → Ext P S S' → k y env' → Q y H') → t σ H Q
inductive RVs (K : Fg) (S : Hp) (σ : L2.St) (b : Option Addr) : List V → List Va → Prop
  | nil : RVs K S σ b [] []
  | cons {v : V} {vs : List V} {y : Va} {ys : List Va} : RV K S σ b v y → RVs K S σ b vs ys → RVs K S σ b (v :: vs) (y :: ys)
theorem RVs.mono {K : Fg} {S S' : Hp} {σ : L2.St} {b : Option Addr} (e : Same S S') : ∀ {vs : List V} {ys : List Va}, RVs K S σ b vs ys → RVs K S' σ b vs ys
  | _, _, .nil => .nil
  | _, _, .cons r rs => .cons (r.mono e) (rs.mono e)
def SmA (c : Cg) (W : WX) (t : TA) (q : TAq) : Prop := ∀ (F P S : Hp) (b : Option Addr) (σ : L2.St) (H : Hp) (env : En) (k : List Va → En → Prop) (x : XQ) (Q : List V → Hp → Prop), Rel c F P S b σ H env → q env k x → XOk c F P b W S x →
  (∀ (S' H' : Hp) (env' : En) (vs : List V) (ys : List Va), Rel c F P S' b σ H' env' → Ext P S S' → RVs c.K S' σ b vs ys → k ys env' → Q vs H') → t σ H Q
structure QE (X : Cx) (g : Gd) (W : WX) (e : Expr) (t : TE) (q : TEq) : Prop where
  pe : PE X e t
  sm : ∀ N, Sm (cg X g N) W t q
structure QN (X : Cx) (g : Gd) (W : WX) (e : Expr) (t : TE) (q : TNq) : Prop where
  pe : PE X e t
  sm : ∀ N, SmN (cg X g N) W t q
structure QT (X : Cx) (g : Gd) (W : WX) (e : Expr) (t : TT) (q : TTq) : Prop where
  pt : PT X e t
  sm : ∀ N, SmT (cg X g N) W t q
structure QW (X : Cx) (g : Gd) (W : WX) (e : Expr) (t : TT) (q : TTq) : Prop where
  pw : PW X e t
  sm : ∀ N, SmT (cg X g N) W t q
structure QA (X : Cx) (g : Gd) (W : WX) (es : List Expr) (t : TA) (q : TAq) : Prop where
  pa : PA X es t
  sm : ∀ N, SmA (cg X g N) W t q
section
variable {X : Cx} {g : Gd} {W : WX} {e a b : Expr} {es : List Expr} {t ta tb : TE} {tt u : TT} {tl tr : TA} {q qa qb : TEq} {qt qu : TTq} {ql : TAq} {pos : Pos} {c : Cg}

/-! ### names, constants -/
def qSlot (i : Nat) (env : En) (k : Va → En → Prop) : Sl → Prop
  | .sh d => k (.d d) env
  | .own _ => k (.ptr i) env
  | .bor _ => k (.ptr i) env
  | .bag _ => k (.bag i) env
  | .no => False
def qVar (i : Nat) : TEq := fun env k _ => match env[i]? with
  | some s => qSlot i env k s
  | none => False
theorem sm_var (i : Nat) : Sm c W (tVar i) (qVar i) := by
  intro F P S b σ H env k x Q R h _ hk
  unfold qVar at h
  cases e : env[i]? with
  | none => rw [e] at h; exact h.elim
  | some s =>
    rw [e] at h
    obtain ⟨v, hv, hs⟩ := R.slot e
    cases v with
    | none => cases s <;> first | exact hs.elim | exact h.elim
    | some v =>
      refine ⟨v, hv, ?_⟩
      cases s with
      | no => exact h.elim
      | sh d => exact hk S H env v _ R Ext.refl (show RV c.K S σ b v (.d d) from hs) h
      | own d => exact hk S H env v _ R Ext.refl (show RV c.K S σ b v (.ptr i) from hv) h
      | bor d => exact hk S H env v _ R Ext.refl (show RV c.K S σ b v (.ptr i) from hv) h
      | bag _ => exact hk S H env v _ R Ext.refl (show RV c.K S σ b v (.bag i) from hv) h
theorem q_var (i : Nat) {x : Str} {pos : Pos} (hN : X.N[i]? = some x := by rfl) (hv : Vis X.env.scope x := by first | exact Or.inl rfl | exact Or.inr (Or.inl rfl) | exact Or.inr (Or.inr rfl)) (hd : (x == ("__debug__" : Str)) = false := by decide)
    (hcd : (x == ("__classdict__" : Str)) = false := by decide) : QE X g W (.Name x pos) (tVar i) (qVar i) := ⟨pe_var hN hv hd hcd, fun N => sm_var i⟩
def qC (d : D) : TEq := fun env k _ => k (.d d) env
theorem sm_c {v : V} {d : D} (h : scalar d = some v) : Sm c W (tC v) (qC d) := fun F P S b σ H env k x Q R hq _ hk => hk S H env v (.d d) R Ext.refl (Rep.scal h) hq
theorem q_int {i : Int} {j : Nat} : QE X g W (.Constant (.int i) j pos) (tC (.int i)) (qC (.int i)) := ⟨pe_int, fun N => sm_c rfl⟩
theorem q_bl {i : Bool} {j : Nat} : QE X g W (.Constant (.bool i) j pos) (tC (.bl i)) (qC (.bl i)) := ⟨pe_bl, fun N => sm_c rfl⟩
theorem q_non {j : Nat} : QE X g W (.Constant .none j pos) (tC .non) (qC .non) := ⟨pe_non, fun N => sm_c rfl⟩
theorem q_str {x : String} {j : Nat} : QE X g W (.Constant (.str x) j pos) (tC (.str (Str.ofString x))) (qC (.str (Str.ofString x))) := ⟨pe_str, fun N => sm_c rfl⟩
/-- a module's constant -/
theorem q_glob {x : Str} {v : V} {u : Value} {d : D} (hg : Gl X x) (hm : X.mg x = some u) (r : RelV v u) (hs : scalar d = some v) (hd : (x == ("__debug__" : Str)) = false := by decide) : QE X g W (.Name x pos) (tC v) (qC d) := ⟨pe_glob hg hm r hd, fun N => sm_c hs⟩

/-! ### operators on values -/
/-- r's wish by data; what comes out is flat or lay there before -/
def Op2 (K : Fg) (r : R2) (f : D → D → (D → Prop) → Prop) : Prop := ∀ (S H : Hp) (v u : V) (d e : D) (k : D → Prop) (Q : VK), Same S H → At K S H v d → At K S H u e → f d e k → (∀ w z, Rep K S w z → k z → Q w H) → r v u H Q
def qOp (f : D → D → (D → Prop) → Prop) (qa qb : TEq) : TEq := fun env k x => qa env (fun y env1 => qb env1 (fun z env2 => ∃ d e, res env2 y = some d ∧ res env2 z = some e ∧ f d e fun w => k (.d w) env2) x) x
theorem sm_op {r : R2} {f : D → D → (D → Prop) → Prop} (h : Op2 c.K r f) (ha : Sm c W ta qa) (hb : Sm c W tb qb) : Sm c W (tOp r ta tb) (qOp f qa qb) := by
  intro F P S b σ H env k x Q R hq hx hk
  refine ha F P S b σ H env _ x _ R hq hx fun S1 H1 env1 v y R1 e1 r1 h1 => ?_
  refine hb F P S1 b σ H1 env1 _ x _ R1 h1 (hx.mono e1) fun S2 H2 env2 u z R2 e2 r2 h2 => ?_
  obtain ⟨d, e, hd, he, hf⟩ := h2
  exact h S2 H2 v u d e _ Q R2.sh (R2.read (r1.mono e2.1) hd) (R2.read r2 he) hf fun w z hz kz => hk S2 H2 env2 w (.d z) R2 (e1.trans e2) hz kz
theorem q_op {op : Operator} {r : R2} {f : D → D → (D → Prop) → Prop} (ho : OpR X (binaryOp op) r) (h : Op2 X.K r f) (ha : QE X g W a ta qa) (hb : QE X g W b tb qb) : QE X g W (.BinOp a op b pos) (tOp r ta tb) (qOp f qa qb) :=
  ⟨pe_op ho ha.pe hb.pe, fun N => sm_op h (ha.sm N) (hb.sm N)⟩
theorem q_ix {r : R2} {f : D → D → (D → Prop) → Prop} (hr : IxR X r) (h : Op2 X.K r f) (ha : QE X g W a ta qa) (hb : QE X g W b tb qb) (hs : PlainIx b := by exact fun _ _ => rfl) : QE X g W (.Subscript a b pos) (tOp r ta tb) (qOp f qa qb) :=
  ⟨pe_ix hr ha.pe hb.pe hs, fun N => sm_op h (ha.sm N) (hb.sm N)⟩
theorem q_cmp {op : CmpOp} {r : R2} {f : D → D → (D → Prop) → Prop} (ho : OpR X (compareOp op) r) (h : Op2 X.K r f) (ha : QE X g W a ta qa) (hb : QE X g W b tb qb) (hm : behindInMarks op b = false := by first | exact nomark _ | rfl) :
    QE X g W (.Compare a [op] [b] pos) (tOp r ta tb) (qOp f qa qb) := ⟨pe_cmpR ho ha.pe hb.pe hm, fun N => sm_op h (ha.sm N) (hb.sm N)⟩
/-- a value as a test -/
def qTest (q : TEq) : TTq := fun env k x => q env (fun y env1 => ∃ c, res env1 y = some (.bl c) ∧ k c env1) x
theorem sm_test (h : Sm c W t q) : SmT c W (tTest t) (qTest q) := by
  intro F P S b σ H env k x Q R hq hx hk
  refine h F P S b σ H env _ x _ R hq hx fun S1 H1 env1 v y R1 e1 r1 h1 => ?_
  obtain ⟨d, hd, h2⟩ := h1
  have z := (R1.read r1 hd).scal (w := .bl d) rfl
  exact ⟨d, z, hk S1 H1 env1 d R1 e1 h2⟩
theorem qt_cmp {op : CmpOp} {r : R2} {f : D → D → (D → Prop) → Prop} (ho : OpR X (compareOp op) r) (h : Op2 X.K r f) (ha : QE X g W a ta qa) (hb : QE X g W b tb qb) (hm : behindInMarks op b = false := by first | exact nomark _ | rfl) :
    QT X g W (.Compare a [op] [b] pos) (tTest (tOp r ta tb)) (qTest (qOp f qa qb)) := ⟨pt_cmpR ho ha.pe hb.pe hm, fun N => sm_test (sm_op h (ha.sm N) (hb.sm N))⟩
theorem qt_val (h : QE X g W e t q) (he : ∀ whole, isTrue e X.env whole = (do let v ← whole; standAt e.pos; holding [v] (truthy v)) := by intro _; rfl) : QT X g W e (tB t) (qTest q) := ⟨pt_val h.pe he, fun N => sm_test (h.sm N)⟩
/-- a < b < c -/
def qChain (f f' : D → D → (D → Prop) → Prop) (qa qb qc : TEq) : TEq := fun env k x => qa env (fun y env1 => qb env1 (fun z env2 => ∃ d e, res env2 y = some d ∧ res env2 z = some e ∧ f d e fun w => ∃ b, w = .bl b ∧
  if b = true then qc env2 (fun z' env3 => ∃ e d', res env3 z = some e ∧ res env3 z' = some d' ∧ f' e d' fun w => k (.d w) env3) x else k (.d (.bl false)) env2) x) x
/-! ### and, or, not -/
def qAnd (qt qu : TTq) : TTq := fun env k x => qt env (fun c env1 => if c = true then qu env1 k x else k false env1) x
def qOr (qt qu : TTq) : TTq := fun env k x => qt env (fun c env1 => if c = true then k true env1 else qu env1 k x) x
def qNot (qt : TTq) : TTq := fun env k x => qt env (fun c env1 => k (!c) env1) x
theorem sm_and (ha : SmT c W tt qt) (hb : SmT c W u qu) : SmT c W (tAnd tt u) (qAnd qt qu) := by
  intro F P S b σ H env k x Q R hq hx hk
  refine ha F P S b σ H env _ x _ R hq hx fun S1 H1 env1 y R1 e1 h1 => ?_
  cases y with
  | true =>
    rw [if_pos rfl] at h1 ⊢
    exact hb F P S1 b σ H1 env1 _ x _ R1 h1 (hx.mono e1) fun S2 H2 env2 z R2 e2 h2 => hk S2 H2 env2 z R2 (e1.trans e2) h2
  | false => exact hk S1 H1 env1 false R1 e1 h1
theorem sm_or (ha : SmT c W tt qt) (hb : SmT c W u qu) : SmT c W (tOr tt u) (qOr qt qu) := by
  intro F P S b σ H env k x Q R hq hx hk
  refine ha F P S b σ H env _ x _ R hq hx fun S1 H1 env1 y R1 e1 h1 => ?_
  cases y with
  | true => exact hk S1 H1 env1 true R1 e1 h1
  | false =>
    rw [if_neg Bool.false_ne_true] at h1 ⊢
    exact hb F P S1 b σ H1 env1 _ x _ R1 h1 (hx.mono e1) fun S2 H2 env2 z R2 e2 h2 => hk S2 H2 env2 z R2 (e1.trans e2) h2
theorem sm_not (ha : SmT c W tt qt) : SmT c W (tNot tt) (qNot qt) := by
  intro F P S b σ H env k x Q R hq hx hk
  exact ha F P S b σ H env _ x _ R hq hx fun S1 H1 env1 y R1 e1 h1 => hk S1 H1 env1 (!y) R1 e1 h1
theorem qw_and1 (h : QT X g W a tt qt) : QW X g W (.BoolOp .And [a] pos) tt qt := ⟨pw_and1 h.pt, h.sm⟩
theorem qw_or1 (h : QT X g W a tt qt) : QW X g W (.BoolOp .Or [a] pos) tt qt := ⟨pw_or1 h.pt, h.sm⟩
theorem qw_and (h : QT X g W a tt qt) (h2 : QW X g W (.BoolOp .And (b :: es) pos) u qu) : QW X g W (.BoolOp .And (a :: b :: es) pos) (tAnd tt u) (qAnd qt qu) := ⟨pw_and h.pt h2.pw, fun N => sm_and (h.sm N) (h2.sm N)⟩
theorem qw_or (h : QT X g W a tt qt) (h2 : QW X g W (.BoolOp .Or (b :: es) pos) u qu) : QW X g W (.BoolOp .Or (a :: b :: es) pos) (tOr tt u) (qOr qt qu) := ⟨pw_or h.pt h2.pw, fun N => sm_or (h.sm N) (h2.sm N)⟩
theorem QW.toT (h : QW X g W a tt qt) : QT X g W a tt qt := ⟨h.pw.pt, h.sm⟩
theorem qt_not (h : QT X g W a tt qt) : QT X g W (.UnaryOp .Not a pos) (tNot tt) (qNot qt) := ⟨pt_not h.pt, fun N => sm_not (h.sm N)⟩
/-- .. as values -/
def qAndV (qa qb : TEq) : TEq := fun env k x => qa env (fun y env1 => ∃ c, res env1 y = some (.bl c) ∧ if c = true then qb env1 k x else k (.d (.bl false)) env1) x
def qOrV (qa qb : TEq) : TEq := fun env k x => qa env (fun y env1 => ∃ c, res env1 y = some (.bl c) ∧ if c = true then k (.d (.bl true)) env1 else qb env1 k x) x
def qNotV (qa : TEq) : TEq := fun env k x => qa env (fun y env1 => ∃ c, res env1 y = some (.bl c) ∧ k (.d (.bl (!c))) env1) x
theorem sm_andV (ha : Sm c W ta qa) (hb : Sm c W tb qb) : Sm c W (tAndV ta tb) (qAndV qa qb) := by
  intro F P S b σ H env k x Q R hq hx hk
  refine ha F P S b σ H env _ x _ R hq hx fun S1 H1 env1 v y R1 e1 r1 h1 => ?_
  obtain ⟨d, hd, h2⟩ := h1
  refine ⟨d, (R1.read r1 hd).scal (w := .bl d) rfl, ?_⟩
  cases d with
  | true =>
    rw [if_pos rfl] at h2 ⊢
    exact hb F P S1 b σ H1 env1 _ x _ R1 h2 (hx.mono e1) fun S2 H2 env2 v z R2 e2 r h3 => hk S2 H2 env2 v z R2 (e1.trans e2) r h3
  | false => exact hk S1 H1 env1 (.bl false) (.d (.bl false)) R1 e1 (Rep.bl false) h2
theorem sm_orV (ha : Sm c W ta qa) (hb : Sm c W tb qb) : Sm c W (tOrV ta tb) (qOrV qa qb) := by
  intro F P S b σ H env k x Q R hq hx hk
  refine ha F P S b σ H env _ x _ R hq hx fun S1 H1 env1 v y R1 e1 r1 h1 => ?_
  obtain ⟨d, hd, h2⟩ := h1
  refine ⟨d, (R1.read r1 hd).scal (w := .bl d) rfl, ?_⟩
  cases d with
  | true => exact hk S1 H1 env1 (.bl true) (.d (.bl true)) R1 e1 (Rep.bl true) h2
  | false =>
    rw [if_neg Bool.false_ne_true] at h2 ⊢
    exact hb F P S1 b σ H1 env1 _ x _ R1 h2 (hx.mono e1) fun S2 H2 env2 v z R2 e2 r h3 => hk S2 H2 env2 v z R2 (e1.trans e2) r h3
theorem sm_notV (ha : Sm c W ta qa) : Sm c W (tNotV ta) (qNotV qa) := by
  intro F P S b σ H env k x Q R hq hx hk
  refine ha F P S b σ H env _ x _ R hq hx fun S1 H1 env1 v y R1 e1 r1 h1 => ?_
  obtain ⟨d, hd, h2⟩ := h1
  exact ⟨d, (R1.read r1 hd).scal (w := .bl d) rfl, hk S1 H1 env1 (.bl (!d)) (.d (.bl (!d))) R1 e1 (Rep.bl (!d)) h2⟩
theorem q_one {op : BoolOp} (h : QE X g W a ta qa) : QE X g W (.BoolOp op [a] pos) ta qa := ⟨pe_one h.pe, h.sm⟩
theorem q_and (h : QE X g W a ta qa) (h2 : QE X g W (.BoolOp .And (b :: es) pos) tb qb) : QE X g W (.BoolOp .And (a :: b :: es) pos) (tAndV ta tb) (qAndV qa qb) := ⟨pe_and h.pe h2.pe, fun N => sm_andV (h.sm N) (h2.sm N)⟩
theorem q_or (h : QE X g W a ta qa) (h2 : QE X g W (.BoolOp .Or (b :: es) pos) tb qb) : QE X g W (.BoolOp .Or (a :: b :: es) pos) (tOrV ta tb) (qOrV qa qb) := ⟨pe_or h.pe h2.pe, fun N => sm_orV (h.sm N) (h2.sm N)⟩
theorem q_not (h : QE X g W a ta qa) : QE X g W (.UnaryOp .Not a pos) (tNotV ta) (qNotV qa) := ⟨pe_not h.pe, fun N => sm_notV (h.sm N)⟩
/-- a if t else b -/
def qIfE (qt : TTq) (qa qb : TEq) : TEq := fun env k x => qt env (fun c env1 => if c = true then qa env1 k x else qb env1 k x) x
theorem sm_ifE (hc : SmT c W tt qt) (ha : Sm c W ta qa) (hb : Sm c W tb qb) : Sm c W (tIf tt ta tb) (qIfE qt qa qb) := by
  intro F P S b σ H env k x Q R hq hx hk
  refine hc F P S b σ H env _ x _ R hq hx fun S1 H1 env1 y R1 e1 h1 => ?_
  cases y with
  | true =>
    rw [if_pos rfl] at h1 ⊢
    exact ha F P S1 b σ H1 env1 _ x _ R1 h1 (hx.mono e1) fun S2 H2 env2 v z R2 e2 r h2 => hk S2 H2 env2 v z R2 (e1.trans e2) r h2
  | false =>
    rw [if_neg Bool.false_ne_true] at h1 ⊢
    exact hb F P S1 b σ H1 env1 _ x _ R1 h1 (hx.mono e1) fun S2 H2 env2 v z R2 e2 r h2 => hk S2 H2 env2 v z R2 (e1.trans e2) r h2
theorem q_ifExp {cd : Expr} (hc : QT X g W cd tt qt) (ha : QE X g W a ta qa) (hb : QE X g W b tb qb) : QE X g W (.IfExp cd a b pos) (tIf tt ta tb) (qIfE qt qa qb) := ⟨pe_ifExp hc.pt ha.pe hb.pe, fun N => sm_ifE (hc.sm N) (ha.sm N) (hb.sm N)⟩

/-! ### unary operators -/
def Op1 (K : Fg) (r : V → Hp → VK → Prop) (f : D → (D → Prop) → Prop) : Prop := ∀ (S H : Hp) (v : V) (d : D) (k : D → Prop) (Q : VK), Same S H → At K S H v d → f d k → (∀ w z, Rep K S w z → k z → Q w H) → r v H Q
def qUn (f : D → (D → Prop) → Prop) (qa : TEq) : TEq := fun env k x => qa env (fun y env1 => ∃ d, res env1 y = some d ∧ f d fun w => k (.d w) env1) x
theorem sm_un {r : V → Hp → VK → Prop} {f : D → (D → Prop) → Prop} (h : Op1 c.K r f) (ha : Sm c W ta qa) : Sm c W (tUn r ta) (qUn f qa) := by
  intro F P S b σ H env k x Q R hq hx hk
  refine ha F P S b σ H env _ x _ R hq hx fun S1 H1 env1 v y R1 e1 r1 h1 => ?_
  obtain ⟨d, hd, hf⟩ := h1
  exact h S1 H1 v d _ Q R1.sh (R1.read r1 hd) hf fun w z hz kz => hk S1 H1 env1 w (.d z) R1 e1 hz kz
theorem q_un {op : UnaryOp} {r : V → Hp → VK → Prop} {f : D → (D → Prop) → Prop} (ho : UnR X (unaryOp op) r) (h : Op1 X.K r f) (ha : QE X g W a ta qa) : QE X g W (.UnaryOp op a pos) (tUn r ta) (qUn f qa) := ⟨pe_un ho ha.pe, fun N => sm_un h (ha.sm N)⟩

/-! ### arguments -/
def qNil : TAq := fun env k _ => k [] env
def qCons (qa : TEq) (ql : TAq) : TAq := fun env k x => qa env (fun y env1 => ql env1 (fun ys env2 => k (y :: ys) env2) x) x
theorem qa_nil : QA X g W [] tNil qNil := ⟨pa_nil, fun N F P S b σ H env k x Q R hq _ hk => hk S H env [] [] R Ext.refl .nil hq⟩
theorem sm_cons (ha : Sm c W ta qa) (hr : SmA c W tl ql) : SmA c W (tCons ta tl) (qCons qa ql) := by
  intro F P S b σ H env k x Q R hq hx hk
  refine ha F P S b σ H env _ x _ R hq hx fun S1 H1 env1 v y R1 e1 r1 h1 => ?_
  refine hr F P S1 b σ H1 env1 _ x _ R1 h1 (hx.mono e1) fun S2 H2 env2 vs ys R2 e2 r2 h2 => ?_
  exact hk S2 H2 env2 (v :: vs) (y :: ys) R2 (e1.trans e2) (.cons (r1.mono e2.1) r2) h2
theorem qa_cons (ha : QE X g W e ta qa) (hr : QA X g W es tl ql) (hs : starEach (e :: es) X.env = (false, eval e X.env) :: starEach es X.env := by rfl) : QA X g W (e :: es) (tCons ta tl) (qCons qa ql) := ⟨pa_cons ha.pe hr.pa hs, fun N => sm_cons (ha.sm N) (hr.sm N)⟩

inductive Ats (K : Fg) (S H : Hp) : List V → List D → Prop
  | nil : Ats K S H [] []
  | cons {v : V} {vs : List V} {d : D} {ds : List D} : At K S H v d → Ats K S H vs ds → Ats K S H (v :: vs) (d :: ds)
def ress (env : En) : List Va → Option (List D)
  | [] => some []
  | y :: ys => (res env y).bind fun d => (ress env ys).map fun ds => d :: ds
theorem Rel.reads {F P S : Hp} {b : Option Addr} {σ : L2.St} {H : Hp} {env : En} (R : Rel c F P S b σ H env) : ∀ {vs : List V} {ys : List Va} {ds : List D}, RVs c.K S σ b vs ys → ress env ys = some ds → Ats c.K S H vs ds
  | _, _, ds, .nil, h => by
    cases h; exact .nil
  | _, _, ds, .cons (y := y) (ys := ys) r rs, h => by
    unfold ress at h
    cases e : res env y with
    | none => rw [e] at h; cases h
    | some d =>
      rw [e] at h
      cases e2 : ress env ys with
      | none => rw [e2] at h; cases h
      | some ds' =>
        rw [e2] at h
        cases h
        exact .cons (R.read r e) (R.reads rs e2)
/-- a built-in's call by data: what comes out is flat or lay there before -/
def Cl (K : Fg) (r : List V → Hp → VK → Prop) (f : List D → (D → Prop) → Prop) : Prop := ∀ (S H : Hp) (vs : List V) (ds : List D) (k : D → Prop) (Q : VK), Same S H → Ats K S H vs ds → f ds k → (∀ w z, Rep K S w z → k z → Q w H) → r vs H Q
def qCB (f : List D → (D → Prop) → Prop) (ql : TAq) : TEq := fun env k x => ql env (fun ys env1 => ∃ ds, ress env1 ys = some ds ∧ f ds fun w => k (.d w) env1) x
theorem sm_cb {r : List V → Hp → VK → Prop} {f : List D → (D → Prop) → Prop} (h : Cl c.K r f) (ha : SmA c W tl ql) : Sm c W (tCB r tl) (qCB f ql) := by
  intro F P S b σ H env k x Q R hq hx hk
  refine ha F P S b σ H env _ x _ R hq hx fun S1 H1 env1 vs ys R1 e1 r1 h1 => ?_
  obtain ⟨ds, hd, hf⟩ := h1
  exact h S1 H1 vs ds _ Q R1.sh (R1.reads r1 hd) hf fun w z hz kz => hk S1 H1 env1 w (.d z) R1 e1 hz kz
theorem q_callB {x : Str} {idS : String} {p : Pos} {r : List V → Hp → VK → Prop} {f : List D → (D → Prop) → Prop} (hc : CallR X (.builtin idS) r) (h : Cl X.K r f) (hg : Gl X x) (hm : X.mg x = none) (hv : bootBuiltins x = some (.builtin idS)) (ha : QA X g W (e :: es) tl ql) (hn : x ≠ "__name__" := by decide) (hdb : (x == ("__debug__" : Str)) = false := by decide)
    (he : starEach (e :: es) X.env = (false, eval e X.env) :: starEach es X.env := by rfl) (hpl : (backTo pos (starEach es X.env)).any (·.1) = false := by rfl) : QE X g W (.Call (.Name x p) (e :: es) [] pos) (tCB r tl) (qCB f ql) :=
  ⟨pe_callB hc hg hm hv ha.pa hn hdb he hpl, fun N => sm_cb h (ha.sm N)⟩
theorem q_callTy {x : Str} {T : String} {p : Pos} {r : List V → Hp → VK → Prop} {f : List D → (D → Prop) → Prop} (hc : CallR X (.type T) r) (h : Cl X.K r f) (hg : Gl X x) (hm : X.mg x = none) (hv : bootBuiltins x = some (.type T)) (ha : QA X g W (e :: es) tl ql) (hn : x ≠ "__name__" := by decide) (hdb : (x == ("__debug__" : Str)) = false := by decide)
    (he : starEach (e :: es) X.env = (false, eval e X.env) :: starEach es X.env := by rfl) (hpl : (backTo pos (starEach es X.env)).any (·.1) = false := by rfl) : QE X g W (.Call (.Name x p) (e :: es) [] pos) (tCB r tl) (qCB f ql) :=
  ⟨pe_callTy hc hg hm hv ha.pa hn hdb he hpl, fun N => sm_cb h (ha.sm N)⟩
/-- .. what comes out is a new object -/
def ClN (K : Fg) (r : List V → Hp → VK → Prop) (f : List D → (D → Prop) → Prop) : Prop := ∀ (S H : Hp) (vs : List V) (ds : List D) (k : D → Prop) (Q : VK), Same S H → Ats K S H vs ds → f ds k → (∀ p o z, H p = none → OwnAt K S (upd H p o) p z → k z → Q (.ref p) (upd H p o)) → r vs H Q
def qCBN (f : List D → (D → Prop) → Prop) (ql : TAq) : TNq := fun env k x => ql env (fun ys env1 => ∃ ds, ress env1 ys = some ds ∧ f ds fun w => k (.own w) env1) x
theorem sm_cbN {r : List V → Hp → VK → Prop} {f : List D → (D → Prop) → Prop} (h : ClN c.K r f) (ha : SmA c W tl ql) : SmN c W (tCB r tl) (qCBN f ql) := by
  intro F P S b σ H env k x Q R hq hx hk
  refine ha F P S b σ H env _ x _ R hq hx fun S1 H1 env1 vs ys R1 e1 r1 h1 => ?_
  obtain ⟨ds, hd, hf⟩ := h1
  refine h S1 H1 vs ds _ Q R1.sh (R1.reads r1 hd) hf fun p o z hp ho kz => ?_
  have n := R1.new hp
  refine hk S1 (upd H1 p o) env1 (.ref p) (.own z) (R1.alloc hp) e1 ⟨p, rfl, n.1, n.2.1, n.2.2, ho⟩ (fun _ _ i e q hq => ?_) kz
  cases hq
  exact R1.notOwn hp i e
theorem qn_callB {x : Str} {idS : String} {p : Pos} {r : List V → Hp → VK → Prop} {f : List D → (D → Prop) → Prop} (hc : CallR X (.builtin idS) r) (h : ClN X.K r f) (hg : Gl X x) (hm : X.mg x = none) (hv : bootBuiltins x = some (.builtin idS)) (ha : QA X g W (e :: es) tl ql) (hn : x ≠ "__name__" := by decide) (hdb : (x == ("__debug__" : Str)) = false := by decide)
    (he : starEach (e :: es) X.env = (false, eval e X.env) :: starEach es X.env := by rfl) (hpl : (backTo pos (starEach es X.env)).any (·.1) = false := by rfl) : QN X g W (.Call (.Name x p) (e :: es) [] pos) (tCB r tl) (qCBN f ql) :=
  ⟨pe_callB hc hg hm hv ha.pa hn hdb he hpl, fun N => sm_cbN h (ha.sm N)⟩
theorem qn_callTy {x : Str} {T : String} {p : Pos} {r : List V → Hp → VK → Prop} {f : List D → (D → Prop) → Prop} (hc : CallR X (.type T) r) (h : ClN X.K r f) (hg : Gl X x) (hm : X.mg x = none) (hv : bootBuiltins x = some (.type T)) (ha : QA X g W (e :: es) tl ql) (hn : x ≠ "__name__" := by decide) (hdb : (x == ("__debug__" : Str)) = false := by decide)
    (he : starEach (e :: es) X.env = (false, eval e X.env) :: starEach es X.env := by rfl) (hpl : (backTo pos (starEach es X.env)).any (·.1) = false := by rfl) : QN X g W (.Call (.Name x p) (e :: es) [] pos) (tCB r tl) (qCBN f ql) :=
  ⟨pe_callTy hc hg hm hv ha.pa hn hdb he hpl, fun N => sm_cbN h (ha.sm N)⟩
/-- an operator that makes a new object -/
def Op2N (K : Fg) (r : R2) (f : D → D → (D → Prop) → Prop) : Prop := ∀ (S H : Hp) (v u : V) (d e : D) (k : D → Prop) (Q : VK), Same S H → At K S H v d → At K S H u e → f d e k → (∀ p o z, H p = none → OwnAt K S (upd H p o) p z → k z → Q (.ref p) (upd H p o)) → r v u H Q
def qOpN (f : D → D → (D → Prop) → Prop) (qa qb : TEq) : TNq := fun env k x => qa env (fun y env1 => qb env1 (fun z env2 => ∃ d e, res env2 y = some d ∧ res env2 z = some e ∧ f d e fun w => k (.own w) env2) x) x
theorem sm_opN {r : R2} {f : D → D → (D → Prop) → Prop} (h : Op2N c.K r f) (ha : Sm c W ta qa) (hb : Sm c W tb qb) : SmN c W (tOp r ta tb) (qOpN f qa qb) := by
  intro F P S b σ H env k x Q R hq hx hk
  refine ha F P S b σ H env _ x _ R hq hx fun S1 H1 env1 v y R1 e1 r1 h1 => ?_
  refine hb F P S1 b σ H1 env1 _ x _ R1 h1 (hx.mono e1) fun S2 H2 env2 u z R2 e2 r2 h2 => ?_
  obtain ⟨d, e, hd, he, hf⟩ := h2
  refine h S2 H2 v u d e _ Q R2.sh (R2.read (r1.mono e2.1) hd) (R2.read r2 he) hf fun p o z hp ho kz => ?_
  have n := R2.new hp
  refine hk S2 (upd H2 p o) env2 (.ref p) (.own z) (R2.alloc hp) (e1.trans e2) ⟨p, rfl, n.1, n.2.1, n.2.2, ho⟩ (fun _ _ i e q hq => ?_) kz
  cases hq
  exact R2.notOwn hp i e
theorem qn_op {op : Operator} {r : R2} {f : D → D → (D → Prop) → Prop} (ho : OpR X (binaryOp op) r) (h : Op2N X.K r f) (ha : QE X g W a ta qa) (hb : QE X g W b tb qb) : QN X g W (.BinOp a op b pos) (tOp r ta tb) (qOpN f qa qb) :=
  ⟨pe_op ho ha.pe hb.pe, fun N => sm_opN h (ha.sm N) (hb.sm N)⟩

/-! ### a new object is shared at once -/
def qOfN (q : TNq) : TEq := fun env k x => q env (fun r env1 => k (.d r.dat) env1) x
theorem sm_ofN {q : TNq} (h : SmN c W t q) : Sm c W t (qOfN q) := by
  intro F P S b σ H env k x Q R hq hx hk
  refine h F P S b σ H env _ x _ R hq hx fun S1 H1 env1 v y R1 e1 r1 hn h1 => ?_
  cases y with
  | sh d => exact hk S1 H1 env1 v (.d d) R1 e1 r1 h1
  | own d =>
    obtain ⟨p, rfl, hp, hs, hb, ho⟩ := r1
    obtain ⟨o, hpo⟩ := ho.some
    exact hk _ H1 env1 _ (.d d) (R1.share hp hs hb hpo fun i e => hn d rfl i e p rfl) (e1.trans (Ext.alloc hp hs)) (ho.rep (S0 := S1) hpo hs) h1
theorem QN.qe {q : TNq} (h : QN X g W e t q) : QE X g W e t (qOfN q) := ⟨h.pe, fun N => sm_ofN (h.sm N)⟩

/-! ### what is stored in an object is shared -/
def sh1 (env : En) : Va → Option (D × En)
  | .d d => some (d, env)
  | .ptr i => match env[i]? with
    | some (.sh d) => some (d, env)
    | some (.own d) => some (d, env.set i (.sh d))
    | some (.bor d) => if (scalar d).isSome then some (d, env) else none
    | _ => none
  | .bag _ => none
def shs : List Va → En → Option (List D × En)
  | [], env => some ([], env)
  | y :: ys, env => (sh1 env y).bind fun p => (shs ys p.2).map fun r => (p.1 :: r.1, r.2)
theorem sh1_ok {F P S : Hp} {b : Option Addr} {σ : L2.St} {H : Hp} {env env2 : En} {v : V} {y : Va} {d : D} (R : Rel c F P S b σ H env) (r : RV c.K S σ b v y) (h : sh1 env y = some (d, env2)) : ∃ S2, Rel c F P S2 b σ H env2 ∧ Ext P S S2 ∧ Rep c.K S2 v d := by
  cases y with
  | bag _ => cases h
  | d d' => cases h; exact ⟨S, R, Ext.refl, r⟩
  | ptr i =>
    have r' : σ[i]? = some (some v) := r
    unfold sh1 at h
    simp only at h
    cases e : env[i]? with
    | none => rw [e] at h; cases h
    | some s =>
      rw [e] at h
      have hs := R.sl i s _ e r'
      cases s with
      | no => cases h
      | bag _ => cases h
      | sh d' => cases h; exact ⟨S, R, Ext.refl, hs⟩
      | own d' =>
        cases h
        obtain ⟨p, rfl, hp, hS, hb, ho⟩ := hs
        obtain ⟨o, hpo⟩ := ho.some
        exact ⟨_, R.freeze r' e hpo, Ext.alloc hp hS, ho.rep (S0 := S) hpo hS⟩
      | bor d' =>
        simp only at h
        split at h
        · cases h
          rename_i hz
          obtain ⟨w, hw⟩ := Option.isSome_iff_exists.mp hz
          exact ⟨S, R, Ext.refl, At.scalRep hs hw⟩
        · cases h
theorem shs_ok {F P : Hp} {b : Option Addr} {σ : L2.St} {H : Hp} : ∀ {vs : List V} {ys : List Va} {S : Hp} {env env2 : En} {ds : List D}, Rel c F P S b σ H env → RVs c.K S σ b vs ys → shs ys env = some (ds, env2) → ∃ S2, Rel c F P S2 b σ H env2 ∧ Ext P S S2 ∧ Reps c.K S2 vs ds
  | _, _, S, env, _, _, R, .nil, h => by cases h; exact ⟨S, R, Ext.refl, .nil⟩
  | _, _, S, env, env2, ds, R, .cons (y := y) (ys := ys) (vs := vs) r rs, h => by
    unfold shs at h
    cases e : sh1 env y with
    | none => rw [e] at h; cases h
    | some p =>
      rw [e] at h
      obtain ⟨d, env1⟩ := p
      obtain ⟨S1, R1, x1, q1⟩ := sh1_ok R r e
      cases e2 : shs ys env1 with
      | none => simp [e2] at h
      | some z =>
        obtain ⟨ds', env3⟩ := z
        simp [e2] at h
        obtain ⟨rfl, rfl⟩ := h
        obtain ⟨S2, R2, x2, q2⟩ := shs_ok R1 (rs.mono x1.1) e2
        exact ⟨S2, R2, x1.trans x2, .cons (q1.mono x2.1) q2⟩
theorem size_of {n : Nat} (h : n ≤ 10000000) : n ≤ sizeLine := by rw [sizeLine_eq]; omega
theorem size_lt {n : Nat} (h : n < 10000000) : n < sizeLine := by rw [sizeLine_eq]; omega
/-- [a, b, ..] -/
def qLst (ql : TAq) : TNq := fun env k x => ql env (fun ys env1 => ∃ ds env2, shs ys env1 = some (ds, env2) ∧ ds.length < 10000000 ∧ k (.own (.lst ds)) env2) x
theorem sm_lst (ha : SmA c W tl ql) : SmN c W (tLst tl) (qLst ql) := by
  intro F P S b σ H env k x Q R hq hx hk
  refine ha F P S b σ H env _ x _ R hq hx fun S1 H1 env1 vs ys R1 e1 r1 h1 => ?_
  obtain ⟨ds, env2, hd, hl, h2⟩ := h1
  obtain ⟨S2, R2, e2, r2⟩ := shs_ok R1 r1 hd
  refine ⟨by rw [r2.length]; exact size_of (by omega), fun p hp => ?_⟩
  have n := R2.new hp
  refine hk S2 _ env2 (.ref p) (.own (.lst ds)) (R2.alloc hp) (e1.trans e2) ⟨p, rfl, n.1, n.2.1, n.2.2, .lst upd_same r2⟩ (fun _ _ i e q hq => ?_) h2
  cases hq
  exact R2.notOwn hp i e
theorem qn_lst (ha : QA X g W es tl ql) : QN X g W (.List es pos) (tLst tl) (qLst ql) := ⟨pe_lst ha.pa, fun N => sm_lst (ha.sm N)⟩
/-- (a, b, ..) -/
def qTup (ql : TAq) : TEq := fun env k x => ql env (fun ys env1 => ∃ ds env2, shs ys env1 = some (ds, env2) ∧ ds.length < 10000000 ∧ k (.d (.tup ds)) env2) x
theorem sm_tup (ha : SmA c W tl ql) : Sm c W (tTup tl) (qTup ql) := by
  intro F P S b σ H env k x Q R hq hx hk
  refine ha F P S b σ H env _ x _ R hq hx fun S1 H1 env1 vs ys R1 e1 r1 h1 => ?_
  obtain ⟨ds, env2, hd, hl, h2⟩ := h1
  obtain ⟨S2, R2, e2, r2⟩ := shs_ok R1 r1 hd
  refine ⟨by rw [r2.length]; exact size_of (by omega), fun p hp => ?_⟩
  have n := R2.new hp
  exact hk _ _ env2 (.ref p) (.d (.tup ds)) (R2.allocSh hp) (e1.trans (e2.trans (Ext.alloc n.1 n.2.1))) (.tup (SqT.of upd_same) (r2.mono (same_upd n.2.1))) h2
theorem q_tup {j : Nat} (ha : QA X g W es tl ql) : QE X g W (.Tuple es j pos) (tTup tl) (qTup ql) := ⟨pe_tup ha.pa, fun N => sm_tup (ha.sm N)⟩
end
end Q


set_option Elab.async false
set_option linter.all false
set_option maxRecDepth 100000
set_option maxHeartbeats 2000000
set_option autoImplicit false
/-! Q3: promises by trees, calls, statements, loops, comprehensions. -/
namespace Q
open PySem PySem.Spec PyProof.Rows L2

inductive Ar where
  | bor (d : D) | sh (d : D) | bag (n : Nat)
inductive Md where
  | bor | sh | bag (n : Nat)
abbrev Spq := List Ar → (Rv → Prop) → (Str → List D → Prop) → Prop
def ArOk (K : Fg) (F S : Hp) (b : Option Addr) (v : V) : Ar → Prop
  | .bor d => At K S F v d
  | .sh d => Rep K S v d
  | .bag _ => ∃ p, b = some p ∧ v = .ref p
def aw : Ar → Nat
  | .bag n => n
  | _ => 0
def abud : List Ar → Nat
  | [] => 0
  | a :: r => aw a + abud r
theorem abud_append : ∀ (as bs : List Ar), abud (as ++ bs) = abud as + abud bs
  | [], bs => by simp [abud]
  | a :: as, bs => by
    show aw a + abud (as ++ bs) = aw a + abud as + abud bs
    rw [abud_append as bs]; omega
theorem abud_bor : ∀ ds : List D, abud (ds.map .bor) = 0
  | [] => rfl
  | d :: ds => by
    show aw (.bor d) + abud (ds.map .bor) = 0
    rw [abud_bor ds]; rfl
inductive ArsOk (K : Fg) (F S : Hp) (b : Option Addr) : List V → List Ar → Prop
  | nil : ArsOk K F S b [] []
  | cons {v : V} {vs : List V} {a : Ar} {as : List Ar} : ArOk K F S b v a → ArsOk K F S b vs as → ArsOk K F S b (v :: vs) (a :: as)
section
variable {K : Fg} {F S S' : Hp} {b : Option Addr}
theorem ArsOk.length : ∀ {vs : List V} {as : List Ar}, ArsOk K F S b vs as → vs.length = as.length
  | _, _, .nil => rfl
  | _, _, .cons _ r => congrArg (· + 1) r.length
theorem ArOk.mono {v : V} {a : Ar} (h : ArOk K F S b v a) (e : Same S S') : ArOk K F S' b v a := by
  cases a with
  | bor d => exact At.mono e (Same.refl _) h
  | sh d => exact Rep.mono e h
  | bag _ => exact h
theorem ArsOk.mono (e : Same S S') : ∀ {vs : List V} {as : List Ar}, ArsOk K F S b vs as → ArsOk K F S' b vs as
  | _, _, .nil => .nil
  | _, _, .cons h r => .cons (h.mono e) (r.mono e)
theorem ArsOk.append : ∀ {vs ws : List V} {as bs : List Ar}, ArsOk K F S b vs as → ArsOk K F S b ws bs → ArsOk K F S b (vs ++ ws) (as ++ bs)
  | _, _, _, _, .nil, r => r
  | _, _, _, _, .cons h t, r => .cons h (t.append r)
end
def Bg (c : Cg) (F S H : Hp) (b : Option Addr) (n : Nat) : Prop := ∀ p, b = some p → F p = none ∧ S p = none ∧ BagAt c S H p n
/-- a promise by trees, as a promise of the layer -/
def spQ (K : Fg) (mg : Str → Option Value) (g : Gd) (sp : Spq) : Sp := fun vs H Q E => ∃ (N : Nat) (F S : Hp) (b : Option Addr) (as : List Ar) (k : Rv → Prop) (x : Str → List D → Prop), Same F H ∧ Same S H ∧ Bg ⟨K, mg, g, N⟩ F S H b (abud as) ∧ ArsOk K F S b vs as ∧ sp as k x ∧
  (∀ (v : V) (S' H' : Hp) (r : Rv), Same F H' → Same S' H' → Ext F S S' → Bg ⟨K, mg, g, N⟩ F S' H' b 0 → RvOk K F S' b H' v r → k r → Q v H') ∧
  (∀ (nm : Str) (pay : List D) (C : Addr) (d : Option Addr) (S' H' : Hp), Same F H' → Same S' H' → Ext F S S' → Bg ⟨K, mg, g, N⟩ F S' H' b 0 → x nm pay → mg nm = some (.ref C) → PayOk K S' H' d pay → E (.ref C) d H')
/-- what a call lends: all but the source -/
def lend (b : Option Addr) (H : Hp) : Hp := fun a => if b = some a then none else H a
section
variable {c : Cg} {F P S S' H H' X : Hp} {b : Option Addr} {σ : L2.St} {env env2 : En} {v : V} {y : Va} {d : D} {p : Addr}
theorem lend_same : Same (lend b H) H := fun a o e => by
  unfold lend at e
  split at e
  · cases e
  · exact e
theorem same_lend (h : Same X H) (hb : ∀ p, b = some p → X p = none) : Same X (lend b H) := fun a o e => by
  unfold lend
  rw [if_neg (fun z => by rw [hb a z] at e; cases e)]
  exact h a o e
theorem lend_ne (h : b ≠ some p) : lend b H p = H p := by
  unfold lend; rw [if_neg h]
theorem lend_b (h : b = some p) : lend b H p = none := by
  unfold lend; rw [if_pos h]
theorem Rel.sLend (R : Rel c F P S b σ H env) : Same S (lend b H) := same_lend R.sh fun p h => (R.bg p h).2.1
theorem Rel.pLend (R : Rel c F P S b σ H env) : Same P (lend b H) := same_lend R.ph fun p h => (R.bg p h).1
theorem Rel.borAt (R : Rel c F P S b σ H env) (r : RV c.K S σ b v y) (e : res env y = some d) : At c.K S (lend b H) v d := by
  cases y with
  | d d' => cases e; exact .of_rep R.sLend r
  | bag _ => cases e
  | ptr i =>
    have r' : σ[i]? = some (some v) := r
    have e : (env[i]?).bind slotD = some d := e
    cases h : env[i]? with
    | none => rw [h] at e; cases e
    | some s =>
      rw [h] at e
      have hs := R.sl i s _ h r'
      cases s with
      | no => cases e
      | bag _ => cases e
      | sh d' => cases e; exact .of_rep R.sLend hs
      | bor d' => cases e; exact At.mono (Same.refl _) (R.fp.trans R.pLend) hs
      | own d' =>
        cases e
        obtain ⟨p, rfl, _, _, hb, ho⟩ := hs
        exact (ho.mono (Same.refl _) (lend_ne hb)).at
def arg1 (env : En) : Md → Va → Option (Ar × En)
  | .bor, y => (res env y).map fun d => (.bor d, env)
  | .sh, y => (sh1 env y).map fun r => (.sh r.1, r.2)
  | .bag m, .bag i => match env[i]? with
    | some (.bag n) => if m ≤ n then some (.bag m, env.set i (.bag (n - m))) else none
    | _ => none
  | .bag _, _ => none
def args : List Md → List Va → En → Option (List Ar × En)
  | m :: ms, y :: ys, env => (arg1 env m y).bind fun p => (args ms ys p.2).map fun r => (p.1 :: r.1, r.2)
  | [], [], env => some ([], env)
  | _, _, _ => none
theorem sh1_bud {d : D} (h : sh1 env y = some (d, env2)) : bud env2 ≤ bud env := by
  cases y with
  | bag _ => cases h
  | d d' => cases h; exact Nat.le_refl _
  | ptr i =>
    unfold sh1 at h
    simp only at h
    cases e : env[i]? with
    | none => rw [e] at h; cases h
    | some s =>
      rw [e] at h
      cases s with
      | no => cases h
      | bag _ => cases h
      | sh d' => cases h; exact Nat.le_refl _
      | own d' => cases h; exact bud_le env i _ rfl
      | bor d' =>
        simp only at h
        split at h
        · cases h; exact Nat.le_refl _
        · cases h
theorem arg1_ok {m : Md} {a : Ar} (R : Rel c F P S b σ H env) (r : RV c.K S σ b v y) (h : arg1 env m y = some (a, env2)) : ∃ S2, Rel c F P S2 b σ H env2 ∧ Ext P S S2 ∧ ArOk c.K (lend b H) S2 b v a ∧ bud env2 + aw a ≤ bud env := by
  cases m with
  | bor =>
    cases e : res env y with
    | none => simp [arg1, e] at h
    | some d =>
      simp [arg1, e] at h
      obtain ⟨rfl, rfl⟩ := h
      exact ⟨S, R, Ext.refl, R.borAt r e, Nat.le_refl _⟩
  | sh =>
    cases e : sh1 env y with
    | none => simp [arg1, e] at h
    | some z =>
      obtain ⟨d, env3⟩ := z
      simp [arg1, e] at h
      obtain ⟨rfl, rfl⟩ := h
      obtain ⟨S2, h1, h2, h3⟩ := sh1_ok R r e
      exact ⟨S2, h1, h2, h3, sh1_bud e⟩
  | bag m =>
    cases y with
    | d d => cases h
    | ptr i => cases h
    | bag i =>
      have r' : σ[i]? = some (some v) := r
      unfold arg1 at h
      simp only at h
      cases e : env[i]? with
      | none => rw [e] at h; cases h
      | some s =>
        rw [e] at h
        cases s with
        | no => cases h
        | sh _ => cases h
        | own _ => cases h
        | bor _ => cases h
        | bag n =>
          simp only at h
          split at h
          · rename_i hm
            cases h
            have hs := R.sl i _ _ e r'
            have z := bud_set env i (.bag (n - m)) (.bag n) e
            have z' : bud (env.set i (.bag (n - m))) + n = bud env + (n - m) := z
            refine ⟨S, ⟨by rw [List.length_set]; exact R.len, R.fp, R.ph, R.sh, fun p e' => ⟨(R.bg p e').1, (R.bg p e').2.1, (R.bg p e').2.2.mono (Same.refl _) rfl (by omega)⟩, fun j s' v' h3 h4 => ?_, fun j k q d d' hjk g1 g2 g3 g4 => ?_⟩, Ext.refl, hs, by show _ + m ≤ _; omega⟩
            · rcases getElem?_set' h3 with ⟨z1, z2, _⟩ | ⟨_, z2⟩
              · subst z1; subst z2
                rw [r'] at h4; cases h4
                exact hs
              · exact R.sl j s' v' z2 h4
            · rcases getElem?_set' g2 with ⟨_, z, _⟩ | ⟨_, z1⟩
              · cases z
              · rcases getElem?_set' g4 with ⟨_, z, _⟩ | ⟨_, z2⟩
                · cases z
                · exact R.ap j k q d d' hjk g1 z1 g3 z2
          · cases h
end
theorem args_ok {c : Cg} {F P : Hp} {b : Option Addr} {σ : L2.St} {H : Hp} : ∀ {ms : List Md} {vs : List V} {ys : List Va} {S : Hp} {env env2 : En} {as : List Ar}, Rel c F P S b σ H env → RVs c.K S σ b vs ys → args ms ys env = some (as, env2) →
    ∃ S2, Rel c F P S2 b σ H env2 ∧ Ext P S S2 ∧ ArsOk c.K (lend b H) S2 b vs as ∧ bud env2 + abud as ≤ bud env
  | [], _, _, S, env, _, _, R, .nil, h => by cases h; exact ⟨S, R, Ext.refl, .nil, Nat.le_refl _⟩
  | [], _, _, _, _, _, _, _, .cons _ _, h => by cases h
  | _ :: _, _, _, _, _, _, _, _, .nil, h => by cases h
  | m :: ms, _, _, S, env, env2, as, R, .cons (y := y) (ys := ys) (vs := vs) r rs, h => by
    unfold args at h
    cases e : arg1 env m y with
    | none => rw [e] at h; cases h
    | some p =>
      rw [e] at h
      obtain ⟨a, env1⟩ := p
      obtain ⟨S1, R1, x1, q1, b1⟩ := arg1_ok R r e
      cases e2 : args ms ys env1 with
      | none => simp [e2] at h
      | some z =>
        obtain ⟨as', env3⟩ := z
        simp [e2] at h
        obtain ⟨rfl, rfl⟩ := h
        obtain ⟨S2, R2, x2, q2, b2⟩ := args_ok R1 (rs.mono x1.1) e2
        exact ⟨S2, R2, x1.trans x2, .cons (q1.mono x2.1) q2, by show _ + (aw a + abud as') ≤ _; omega⟩
section
variable {c : Cg} {F P S S' H H' : Hp} {b : Option Addr} {σ : L2.St} {env : En} {v : V} {r : Rv}
/-- behind a call -/
theorem Rel.after (R : Rel c F P S b σ H env) (h1 : Same (lend b H) H') (h2 : Same S' H') (h3 : Ext (lend b H) S S') (h4 : Bg ⟨c.K, c.mg, c.g, c.N - bud env⟩ (lend b H) S' H' b 0) : Rel c F P S' b σ H' env ∧ Ext P S S' := by
  refine ⟨R.to h3.1 (R.pLend.trans h1) h2 (fun i p d e1 e2 => ?_) fun p e => ⟨(h4 p e).2.1, ?_⟩, h3.1, fun a e1 e2 => h3.2 a e1 ?_⟩
  · obtain ⟨_, hs, hb, ho⟩ := R.ownAt e1 e2
    obtain ⟨o, hp⟩ := ho.some
    have hl : lend b H p = some o := (lend_ne hb).trans hp
    exact ⟨h3.2 p hs (by rw [hl]; simp), (h1 p o hl).trans hp.symm⟩
  · obtain ⟨_, _, xs, ds, g1, g2, g3, g4, g5⟩ := h4 p e
    obtain ⟨_, _, _, _, _, _, _, k4, k5⟩ := R.bg p e
    exact ⟨xs, ds, g1, g2, g3, by have z : c.g.cnt ds + 0 ≤ c.N - bud env := g4; omega, k5⟩
  · cases e : P a with
    | none => exact absurd e e2
    | some o => rw [R.pLend a o e]; simp
theorem RvOk.back (R : Rel c F P S b σ H env) (h : RvOk c.K (lend b H) S' b H' v r) : RvOk c.K P S' b H' v r ∧ ∀ d, r = .own d → ∀ (i : Nat) (e : D) (p : Addr), v = .ref p → σ[i]? = some (some (.ref p)) → env[i]? ≠ some (.own e) := by
  cases r with
  | sh d => exact ⟨h, fun d e => nomatch e⟩
  | own d =>
    obtain ⟨p, rfl, hp, hs, hb, ho⟩ := h
    have hn : H p = none := (lend_ne hb).symm.trans hp
    refine ⟨⟨p, rfl, R.ph.free hn, hs, hb, ho⟩, fun _ _ i e q hq h1 h2 => ?_⟩
    cases hq
    exact R.notOwn hn i e h1 h2
end

/-- a flat datum's value -/
def sV (d : D) : V := (scalar d).getD .non
def flats (ds : List D) : Bool := ds.all fun d => (scalar d).isSome
/-- a def of the module that may be called -/
structure Cal (P : Program) (w : World) (K : Fg) (mg : Str → Option Value) (base : Heap) (g : Gd) (k : Nat) (x : Str) (dds : List D) (sp : Spq) : Prop where
  ex : ∃ (f : Addr) (fd : FuncData) (ps : List Str) (ds : List Value), FnG P w K mg base k f fd ps (spQ K mg g sp) ∧ mg x = some (.ref f) ∧ PySem.W.keepIn K (.ref f) = true ∧ Binds K fd ps ds ∧ Vals (dds.map sV) ds ∧ flats dds = true
theorem At.ofScal {K : Fg} {S H : Hp} {d : D} {v : V} (h : scalar d = some v) : At K S H v d := by
  cases d <;> simp [scalar] at h <;> subst h <;> constructor
theorem dds_ok {K : Fg} {F S : Hp} {b : Option Addr} : ∀ {dds : List D}, flats dds = true → ArsOk K F S b (dds.map sV) (dds.map .bor)
  | [], _ => .nil
  | d :: dds, h => by
    unfold flats at h
    rw [List.all_cons, Bool.and_eq_true] at h
    obtain ⟨w, hw⟩ := Option.isSome_iff_exists.mp h.1
    have e : sV d = w := by unfold sV; rw [hw]; rfl
    rw [List.map_cons, List.map_cons, e]
    exact .cons (show At K S F w d from .ofScal hw) (dds_ok h.2)
section
variable {X : Cx} {g : Gd} {W : WX} {e a : Expr} {es : List Expr} {tl : TA} {ql : TAq} {pos p : Pos} {c : Cg} {k j : Nat} {x : Str} {dds : List D} {sp : Spq} {ms : List Md}
def qCall (ms : List Md) (dds : List D) (sp : Spq) (ql : TAq) : TNq := fun env k x => ql env (fun ys env1 => ∃ as env2, args ms ys env1 = some (as, env2) ∧ sp (as ++ dds.map .bor) (fun r => k r env2) fun _ _ => False) x
def qCallS (ms : List Md) (sp : Spq) (ql : TAq) : TNq := fun env k x => ql env (fun ys env1 => ∃ as env2, args ms ys env1 = some (as, env2) ∧ sp as (fun r => k r env2) fun nm pay => x nm pay env2) x
theorem sm_call (hd : flats dds = true) (ha : SmA c W tl ql) : SmN c W (tCall (spQ c.K c.mg c.g sp) (dds.map sV) E0 tl) (qCall ms dds sp ql) := by
  intro F P S b σ H env k x Q R hq hx hk
  refine ha F P S b σ H env _ x _ R hq hx fun S1 H1 env1 vs ys R1 e1 r1 h1 => ?_
  obtain ⟨as, env2, h2, h3⟩ := h1
  obtain ⟨S2, R2, e2, r2, bl⟩ := args_ok R1 r1 h2
  have bg2 : Bg ⟨c.K, c.mg, c.g, c.N - bud env2⟩ (lend b H1) S2 H1 b (abud as) := fun p e => by
    obtain ⟨_, n2, _⟩ := R2.bg p e
    obtain ⟨_, _, xs, ds, g1, g2, g3, g4, g5⟩ := R1.bg p e
    refine ⟨lend_b e, n2, xs, ds, g1, g2.mono e2.1, g3, ?_, by show c.N - bud env2 ≤ _; omega⟩
    show c.g.cnt ds + abud as ≤ c.N - bud env2
    omega
  refine ⟨c.N - bud env2, lend b H1, S2, b, as ++ dds.map .bor, _, _, lend_same, R2.sh, by rw [abud_append, abud_bor]; exact bg2, r2.append (dds_ok hd), h3, fun v S' H' r s1 s2 s3 s4 s5 s6 => ?_, fun _ _ _ _ _ _ _ _ _ _ z => z.elim⟩
  obtain ⟨R3, e3⟩ := R2.after s1 s2 s3 s4
  obtain ⟨o1, o2⟩ := RvOk.back R2 s5
  exact hk S' H' env2 v r R3 (e1.trans (e2.trans e3)) o1 o2 s6
theorem qn_call (ms : List Md) (cl : Cal X.prog X.w X.K X.mg X.base g k x dds sp) (hgd : X.A.guards = some []) (hr : Room j X.A) (hk : k ≤ j) (hg : Gl X x) (ha : QA X g W (e :: es) tl ql) (hdb : (x == ("__debug__" : Str)) = false := by decide)
    (he : starEach (e :: es) X.env = (false, eval e X.env) :: starEach es X.env := by rfl) (hpl : (backTo pos (starEach es X.env)).any (·.1) = false := by rfl) :
    QN X g W (.Call (.Name x p) (e :: es) [] pos) (tCall (spQ X.K X.mg g sp) (dds.map sV) E0 tl) (qCall ms dds sp ql) := by
  obtain ⟨f, fd, ps, ds, G, hm, kp, hb, hv, hd⟩ := cl.ex
  exact ⟨pe_callG G hgd (hr.mono hk) hg hm kp hb hv ha.pa hdb he hpl, fun N => sm_call hd (ha.sm N)⟩
theorem qn_call0 (cl : Cal X.prog X.w X.K X.mg X.base g k x dds sp) (hgd : X.A.guards = some []) (hr : Room j X.A) (hk : k ≤ j) (hg : Gl X x) (hdb : (x == ("__debug__" : Str)) = false := by decide) :
    QN X g W (.Call (.Name x p) [] [] pos) (tCall (spQ X.K X.mg g sp) (dds.map sV) E0 tNil) (qCall [] dds sp qNil) := by
  obtain ⟨f, fd, ps, ds, G, hm, kp, hb, hv, hd⟩ := cl.ex
  exact ⟨pe_callG0 G hgd (hr.mono hk) hg hm kp hb hv hdb, fun N => sm_call (c := cg X g N) hd fun F P S b σ H env k x Q R hq _ hk => hk S H env [] [] R Ext.refl .nil hq⟩
/-- a call that may raise -/
theorem sm_callS (ha : SmA c W tl ql) : SmN c W (tCallS (spQ c.K c.mg c.g sp) (WE W) tl) (qCallS ms sp ql) := by
  intro F P S b σ H env k x Q R hq hx hk
  refine ha F P S b σ H env _ x _ R hq hx fun S1 H1 env1 vs ys R1 e1 r1 h1 => ?_
  obtain ⟨as, env2, h2, h3⟩ := h1
  obtain ⟨S2, R2, e2, r2, bl⟩ := args_ok R1 r1 h2
  have bg2 : Bg ⟨c.K, c.mg, c.g, c.N - bud env2⟩ (lend b H1) S2 H1 b (abud as) := fun p e => by
    obtain ⟨_, n2, _⟩ := R2.bg p e
    obtain ⟨_, _, xs, ds, g1, g2, g3, g4, g5⟩ := R1.bg p e
    refine ⟨lend_b e, n2, xs, ds, g1, g2.mono e2.1, g3, ?_, by show c.N - bud env2 ≤ _; omega⟩
    show c.g.cnt ds + abud as ≤ c.N - bud env2
    omega
  refine ⟨c.N - bud env2, lend b H1, S2, b, as, _, _, lend_same, R2.sh, bg2, r2, h3, fun v S' H' r s1 s2 s3 s4 s5 s6 => ?_, fun nm pay C d S' H' s1 s2 s3 s4 s5 s6 s7 => ?_⟩
  · obtain ⟨R3, e3⟩ := R2.after s1 s2 s3 s4
    obtain ⟨o1, o2⟩ := RvOk.back R2 s5
    exact hk S' H' env2 v r R3 (e1.trans (e2.trans e3)) o1 o2 s6
  · obtain ⟨R3, e3⟩ := R2.after s1 s2 s3 s4
    exact hx nm pay env2 S' σ H' C d R3 (e1.trans (e2.trans e3)) s5 s6 s7
theorem qn_callS (ms : List Md) (cl : Cal X.prog X.w X.K X.mg X.base g k x [] sp) (hgd : X.A.guards = some []) (hr : Room j X.A) (hk : k ≤ j) (tk : Takes X W) (hg : Gl X x) (ha : QA X g W (e :: es) tl ql) (hdb : (x == ("__debug__" : Str)) = false := by decide)
    (he : starEach (e :: es) X.env = (false, eval e X.env) :: starEach es X.env := by rfl) (hpl : (backTo pos (starEach es X.env)).any (·.1) = false := by rfl) :
    QN X g W (.Call (.Name x p) (e :: es) [] pos) (tCallS (spQ X.K X.mg g sp) (WE W) tl) (qCallS ms sp ql) := by
  obtain ⟨f, fd, ps, ds, G, hm, kp, hb, hv, hd⟩ := cl.ex
  cases hv
  exact ⟨pe_callGS G hgd (hr.mono hk) tk hg hm kp hb ha.pa hdb he hpl, fun N => sm_callS (ha.sm N)⟩
end

/-! ### statements -/
structure Ens where
  nx : En → Prop
  rt : Rv → En → Prop
  bk : En → Prop := fun _ => False
  ct : En → Prop := fun _ => False
  ex : XQ := fun _ _ _ => False
abbrev TSq := Ens → En → Prop
structure EOk (c : Cg) (F P : Hp) (b : Option Addr) (W : WX) (S : Hp) (DQ : Ens) (D : Ends) : Prop where
  nx : ∀ (S' : Hp) (σ' : L2.St) (H' : Hp) (env' : En), Rel c F P S' b σ' H' env' → Ext P S S' → DQ.nx env' → D.nx σ' H'
  rt : ∀ (S' : Hp) (σ' : L2.St) (H' : Hp) (env' : En) (v : V) (r : Rv), Rel c F P S' b σ' H' env' → Ext P S S' → RvOk c.K P S' b H' v r → DQ.rt r env' → D.rt v H'
  bk : ∀ (S' : Hp) (σ' : L2.St) (H' : Hp) (env' : En), Rel c F P S' b σ' H' env' → Ext P S S' → DQ.bk env' → D.bk σ' H'
  ct : ∀ (S' : Hp) (σ' : L2.St) (H' : Hp) (env' : En), Rel c F P S' b σ' H' env' → Ext P S S' → DQ.ct env' → D.ct σ' H'
  ex : XOk c F P b W S DQ.ex
theorem EOk.mono {c : Cg} {F P : Hp} {b : Option Addr} {W : WX} {S S' : Hp} {DQ : Ens} {D : Ends} (h : EOk c F P b W S DQ D) (e : Ext P S S') : EOk c F P b W S' DQ D :=
  ⟨fun S2 σ' H' env' R e2 => h.nx S2 σ' H' env' R (e.trans e2), fun S2 σ' H' env' v r R e2 => h.rt S2 σ' H' env' v r R (e.trans e2), fun S2 σ' H' env' R e2 => h.bk S2 σ' H' env' R (e.trans e2), fun S2 σ' H' env' R e2 => h.ct S2 σ' H' env' R (e.trans e2), h.ex.mono e⟩
def SmS (c : Cg) (W : WX) (t : TS) (q : TSq) : Prop := ∀ (F P S : Hp) (b : Option Addr) (σ : L2.St) (H : Hp) (env : En) (DQ : Ens) (D : Ends), Rel c F P S b σ H env → q DQ env → EOk c F P b W S DQ D → t D σ H
structure QS (X : Cx) (g : Gd) (W : WX) (st : Stmt) (t : TS) (q : TSq) : Prop where
  ps : PS X st t
  sm : ∀ N, SmS (cg X g N) W t q
structure QSs (X : Cx) (g : Gd) (W : WX) (sts : List Stmt) (t : TS) (q : TSq) : Prop where
  pss : PSs X sts t
  sm : ∀ N, SmS (cg X g N) W t q
section
variable {X : Cx} {g : Gd} {W : WX} {e a : Expr} {st : Stmt} {sts : List Stmt} {t u : TS} {q r : TSq} {te : TE} {qe : TEq} {qn : TNq} {tt : TT} {qt : TTq} {pos : Pos} {c : Cg}
def qNext : TSq := fun DQ env => DQ.nx env
def qSeq (q r : TSq) : TSq := fun DQ env => q { DQ with nx := r DQ } env
theorem sm_next : SmS c W tNext qNext := fun F P S b σ H env DQ D R h k => k.nx S σ H env R Ext.refl h
theorem sm_seq (h1 : SmS c W t q) (h2 : SmS c W u r) : SmS c W (tSeq t u) (qSeq q r) := fun F P S b σ H env DQ D R h k =>
  h1 F P S b σ H env _ _ R h ⟨fun S' σ' H' env' R' e' h' => h2 F P S' b σ' H' env' DQ D R' h' (k.mono e'), k.rt, k.bk, k.ct, k.ex⟩
theorem qs_nil : QSs X g W [] tNext qNext := ⟨pss_nil, fun N => sm_next⟩
theorem qs_cons (h1 : QS X g W st t q) (h2 : QSs X g W sts u r) : QSs X g W (st :: sts) (tSeq t u) (qSeq q r) := ⟨pss_cons h1.ps h2.pss, fun N => sm_seq (h1.sm N) (h2.sm N)⟩
theorem qs_one (h1 : QS X g W st t q) : QSs X g W [st] t q := ⟨pss_one h1.ps, h1.sm⟩
def qBreak : TSq := fun DQ env => DQ.bk env
def qCont : TSq := fun DQ env => DQ.ct env
theorem qs_pass : QS X g W (.Pass pos) tNext qNext := ⟨ps_pass, fun N => sm_next⟩
theorem qs_break : QS X g W (.Break pos) tBreak qBreak := ⟨ps_break, fun N F P S b σ H env DQ D R h k => k.bk S σ H env R Ext.refl h⟩
theorem qs_continue : QS X g W (.Continue pos) tCont qCont := ⟨ps_continue, fun N F P S b σ H env DQ D R h k => k.ct S σ H env R Ext.refl h⟩
theorem qs_doc {x : String} {j : Nat} {pos' : Pos} : QS X g W (.Expr (.Constant (.str x) j pos) pos') tNext qNext := ⟨ps_doc, fun N => sm_next⟩
def qNever : TSq := fun _ _ => False
theorem qs_never : QS X g W st tNever qNever := ⟨ps_never, fun N F P S b σ H env DQ D R h k => h.elim⟩
def qDrop (q : TEq) : TSq := fun DQ env => q env (fun _ env1 => DQ.nx env1) DQ.ex
theorem qs_expr (h : QE X g W e te qe) (hs : swapsWith e none pos.line X.env = pure false := by rfl) : QS X g W (.Expr e pos) (tDrop te) (qDrop qe) :=
  ⟨ps_expr h.pe hs, fun N F P S b σ H env DQ D R hq k => h.sm N F P S b σ H env _ _ _ R hq k.ex fun S1 H1 env1 v y R1 e1 _ h1 => k.nx S1 σ H1 env1 R1 e1 h1⟩
def retV (env : En) : Va → Option Rv
  | .d d => some (.sh d)
  | .ptr i => match env[i]? with
    | some (.sh d) => some (.sh d)
    | some (.own d) => some (.own d)
    | some (.bor d) => if (scalar d).isSome then some (.sh d) else none
    | _ => none
  | .bag _ => none
def qRet (q : TEq) : TSq := fun DQ env => q env (fun y env1 => ∃ r, retV env1 y = some r ∧ DQ.rt r env1) DQ.ex
theorem sm_ret (h : Sm c W te qe) : SmS c W (tRet te) (qRet qe) := by
  intro F P S b σ H env DQ D R hq k
  refine h F P S b σ H env _ _ _ R hq k.ex fun S1 H1 env1 v y R1 e1 r1 h1 => ?_
  obtain ⟨r, hr, h2⟩ := h1
  refine k.rt S1 σ H1 env1 v r R1 e1 ?_ h2
  cases y with
  | bag _ => cases hr
  | d d => cases hr; exact r1
  | ptr i =>
    have r' : σ[i]? = some (some v) := r1
    unfold retV at hr
    simp only at hr
    cases e : env1[i]? with
    | none => rw [e] at hr; cases hr
    | some s =>
      rw [e] at hr
      have hs := R1.sl i s _ e r'
      cases s with
      | no => cases hr
      | bag _ => cases hr
      | sh d' => cases hr; exact hs
      | own d' => cases hr; exact hs
      | bor d' =>
        simp only at hr
        split at hr
        · cases hr
          rename_i hz
          obtain ⟨w, hw⟩ := Option.isSome_iff_exists.mp hz
          exact At.scalRep hs hw
        · cases hr
theorem qs_ret (h : QE X g W e te qe) : QS X g W (.Return (some e) pos) (tRet te) (qRet qe) := ⟨ps_ret h.pe, fun N => sm_ret (h.sm N)⟩
def qRetN (q : TNq) : TSq := fun DQ env => q env DQ.rt DQ.ex
theorem qs_retN (h : QN X g W e te qn) : QS X g W (.Return (some e) pos) (tRet te) (qRetN qn) :=
  ⟨ps_ret h.pe, fun N F P S b σ H env DQ D R hq k => h.sm N F P S b σ H env _ _ _ R hq k.ex fun S1 H1 env1 v y R1 e1 r1 _ h1 => k.rt S1 σ H1 env1 v y R1 e1 r1 h1⟩
def qRet0 : TSq := fun DQ env => DQ.rt (.sh .non) env
theorem qs_ret0 : QS X g W (.Return none pos) tRetN qRet0 := ⟨ps_retN, fun N F P S b σ H env DQ D R hq k => k.rt S σ H env .non (.sh .non) R Ext.refl Rep.non hq⟩
def qIf (qt : TTq) (q r : TSq) : TSq := fun DQ env => qt env (fun c env1 => if c = true then q DQ env1 else r DQ env1) DQ.ex
theorem sm_if (hc : SmT c W tt qt) (h1 : SmS c W t q) (h2 : SmS c W u r) : SmS c W (tIfS tt t u) (qIf qt q r) := by
  intro F P S b σ H env DQ D R hq k
  refine hc F P S b σ H env _ _ _ R hq k.ex fun S1 H1 env1 y R1 e1 h => ?_
  cases y with
  | true =>
    rw [if_pos rfl] at h ⊢
    exact h1 F P S1 b σ H1 env1 DQ D R1 h (k.mono e1)
  | false =>
    rw [if_neg Bool.false_ne_true] at h ⊢
    exact h2 F P S1 b σ H1 env1 DQ D R1 h (k.mono e1)
theorem qs_if {cd : Expr} {bs os : List Stmt} (hc : QT X g W cd tt qt) (h1 : QSs X g W bs t q) (h2 : QSs X g W os u r) : QS X g W (.If cd bs os pos) (tIfS tt t u) (qIf qt q r) := ⟨ps_if hc.pt h1.pss h2.pss, fun N => sm_if (hc.sm N) (h1.sm N) (h2.sm N)⟩
/-! stores -/
def asV (env : En) : Va → Option (Sl × En)
  | .d d => some (.sh d, env)
  | .ptr i => match env[i]? with
    | some (.sh d) => some (.sh d, env)
    | some (.own d) => some (.sh d, env.set i (.sh d))
    | some (.bor d) => some (.bor d, env)
    | _ => none
  | .bag _ => none
theorem asV_ok {F P S H : Hp} {b : Option Addr} {σ : L2.St} {env env2 : En} {v : V} {y : Va} {s : Sl} (R : Rel c F P S b σ H env) (r : RV c.K S σ b v y) (h : asV env y = some (s, env2)) :
    ∃ S2, Rel c F P S2 b σ H env2 ∧ Ext P S S2 ∧ SlOk c.K F P S2 H b s (some v) ∧ (∀ d, s ≠ .own d) ∧ bw s = 0 := by
  cases y with
  | bag _ => cases h
  | d d' => cases h; exact ⟨S, R, Ext.refl, r, fun d e => (nomatch e), rfl⟩
  | ptr i =>
    have r' : σ[i]? = some (some v) := r
    unfold asV at h
    simp only at h
    cases e : env[i]? with
    | none => rw [e] at h; cases h
    | some s' =>
      rw [e] at h
      have hs := R.sl i s' _ e r'
      cases s' with
      | no => cases h
      | bag _ => cases h
      | sh d' => cases h; exact ⟨S, R, Ext.refl, hs, fun d e => (nomatch e), rfl⟩
      | bor d' => cases h; exact ⟨S, R, Ext.refl, hs, fun d e => (nomatch e), rfl⟩
      | own d' =>
        cases h
        obtain ⟨p, rfl, hp, hS, hb, ho⟩ := hs
        obtain ⟨o, hpo⟩ := ho.some
        exact ⟨_, R.freeze r' e hpo, Ext.alloc hp hS, ho.rep (S0 := S) hpo hS, fun d e => (nomatch e), rfl⟩
def qSet (i : Nat) (q : TEq) : TSq := fun DQ env => q env (fun y env1 => ∃ s env2, asV env1 y = some (s, env2) ∧ DQ.nx (env2.set i s)) DQ.ex
theorem sm_set {i : Nat} (h : Sm c W te qe) : SmS c W (tAsg te (gName i)) (qSet i qe) := by
  intro F P S b σ H env DQ D R hq k
  refine h F P S b σ H env _ _ _ R hq k.ex fun S1 H1 env1 v y R1 e1 r1 h1 => ?_
  obtain ⟨s, env2, hs, h2⟩ := h1
  obtain ⟨S2, R2, e2, hk, hn, hw⟩ := asV_ok R1 r1 hs
  exact k.nx S2 _ H1 _ (R2.put hk hn hw) (e1.trans e2) h2
theorem qs_set {i : Nat} {x : Str} {pos' : Pos} (hN : X.N.Nodup) (hi : X.N[i]? = some x) (hx : Loc X.env.scope x) (he : QE X g W e te qe) (hs : swapsWith e (some (.Name x pos')) pos.line X.env = pure false := by rfl) (hf : X.fn x = true ∨ X.env.scope.names.lookup x = some .local := by first | exact .inl rfl | exact .inr rfl | assumption) :
    QS X g W (.Assign [.Name x pos'] e pos) (tAsg te (gName i)) (qSet i qe) := ⟨ps_set hN hi hx he.pe hs hf, fun N => sm_set (he.sm N)⟩
def rvSl : Rv → Sl
  | .sh d => .sh d
  | .own d => .own d
def qSetN (i : Nat) (q : TNq) : TSq := fun DQ env => q env (fun r env1 => DQ.nx (env1.set i (rvSl r))) DQ.ex
theorem Rel.putRv {F P S H : Hp} {b : Option Addr} {σ : L2.St} {env : En} {v : V} {y : Rv} {i : Nat} (R : Rel c F P S b σ H env) (r1 : RvOk c.K P S b H v y) (hn : ∀ d, y = .own d → ∀ (i : Nat) (e : D) (p : Addr), v = .ref p → σ[i]? = some (some (.ref p)) → env[i]? ≠ some (.own e)) :
    Rel c F P S b (σ.set i (some v)) H (env.set i (rvSl y)) := by
  cases y with
  | sh d => exact R.putSh r1
  | own d =>
    obtain ⟨p, rfl, hp, hs, hb, ho⟩ := r1
    exact R.putOwn hp hs hb ho fun j e => hn d rfl j e p rfl
theorem sm_setN {i : Nat} (h : SmN c W te qn) : SmS c W (tAsg te (gName i)) (qSetN i qn) := by
  intro F P S b σ H env DQ D R hq k
  refine h F P S b σ H env _ _ _ R hq k.ex fun S1 H1 env1 v y R1 e1 r1 hn h1 => ?_
  exact k.nx S1 _ H1 _ (R1.putRv r1 hn) e1 h1
theorem qs_setN {i : Nat} {x : Str} {pos' : Pos} (hN : X.N.Nodup) (hi : X.N[i]? = some x) (hx : Loc X.env.scope x) (he : QN X g W e te qn) (hs : swapsWith e (some (.Name x pos')) pos.line X.env = pure false := by rfl) (hf : X.fn x = true ∨ X.env.scope.names.lookup x = some .local := by first | exact .inl rfl | exact .inr rfl | assumption) :
    QS X g W (.Assign [.Name x pos'] e pos) (tAsg te (gName i)) (qSetN i qn) := ⟨ps_set hN hi hx he.pe hs hf, fun N => sm_setN (he.sm N)⟩
/-- x += e, ints -/
def qAug (f : Int → Int → Int) (i : Nat) (q : TEq) : TSq := fun DQ env => ∃ m, (env[i]?).bind slotD = some (.int m) ∧ q env (fun y env1 => ∃ n, res env1 y = some (.int n) ∧ DQ.nx (env1.set i (.sh (.int (f m n))))) DQ.ex
theorem sm_aug {i : Nat} {f : Int → Int → Int} (h : Sm c W te qe) : SmS c W (tAug i te (ipI f)) (qAug f i qe) := by
  intro F P S b σ H env DQ D R hq k
  obtain ⟨m, hm, hq⟩ := hq
  cases e : env[i]? with
  | none => rw [e] at hm; cases hm
  | some s =>
    rw [e] at hm
    obtain ⟨v, hv, hs⟩ := R.slot e
    cases v with
    | none => cases s <;> first | exact hs.elim | cases hm
    | some v =>
      have z := (SlOk.at R hs hm).scal (w := .int m) rfl
      subst z
      refine ⟨_, hv, h F P S b σ H env _ _ _ R hq k.ex fun S1 H1 env1 v y R1 e1 r1 h1 => ?_⟩
      obtain ⟨n, hn, h2⟩ := h1
      exact ⟨m, n, rfl, (R1.read r1 hn).scal (w := .int n) rfl, k.nx S1 _ H1 _ (R1.putSh (.int _)) e1 h2⟩
theorem qs_aug {i : Nat} {x : Str} {op : Operator} {f : Int → Int → Int} {pos' : Pos} (ho : PIp X op (ipI f)) (hN : X.N.Nodup) (hi : X.N[i]? = some x) (hx : Loc X.env.scope x) (he : QE X g W e te qe) (hf : X.fn x = true ∨ X.env.scope.names.lookup x = some .local := by first | exact .inl rfl | exact .inr rfl | assumption) :
    QS X g W (.AugAssign (.Name x pos') op e pos) (tAug i te (ipI f)) (qAug f i qe) := ⟨ps_aug hN hi hx he.pe ho hf, fun N => sm_aug (he.sm N)⟩
end
end Q


set_option Elab.async false
set_option linter.all false
set_option maxRecDepth 100000
set_option maxHeartbeats 2000000
set_option autoImplicit false
/-! Q4: targets, what is walked, for, while, comprehensions, raise, a def by its body. -/
namespace Q
open PySem PySem.Spec PyProof.Rows L2

/-! ### targets of a walk: a shared datum is stored -/
abbrev TGq := D → En → (En → Prop) → Prop
abbrev TGsq := List D → En → (En → Prop) → Prop
/-- σ' is σ outside the places ix -/
def Outside (ix : List Nat) (σ σ' : L2.St) : Prop := σ'.length = σ.length ∧ ∀ j, j ∉ ix → σ'[j]? = σ[j]?
theorem Outside.refl {ix : List Nat} {σ : L2.St} : Outside ix σ σ := ⟨rfl, fun _ _ => rfl⟩
theorem Outside.trans {ix : List Nat} {σ σ1 σ2 : L2.St} (a : Outside ix σ σ1) (b : Outside ix σ1 σ2) : Outside ix σ σ2 := ⟨b.1.trans a.1, fun j h => (b.2 j h).trans (a.2 j h)⟩
theorem Outside.set {ix : List Nat} {σ : L2.St} {i : Nat} {v : Option V} (h : i ∈ ix) : Outside ix σ (σ.set i v) := ⟨List.length_set, fun j hj => List.getElem?_set_ne (fun e => hj (by rw [← e]; exact h))⟩
def SmG (c : Cg) (ix : List Nat) (t : TG) (q : TGq) : Prop := ∀ (F P S : Hp) (b : Option Addr) (σ : L2.St) (H : Hp) (env : En) (v : V) (d : D) (k : En → Prop) (Q : L2.St → Hp → Prop), Rel c F P S b σ H env → Rep c.K S v d → q d env k →
  (∀ (σ' : L2.St) (env' : En), Rel c F P S b σ' H env' → Outside ix σ σ' → k env' → Q σ' H) → t v σ H Q
def SmGs (c : Cg) (ix : List Nat) (t : TGs) (q : TGsq) : Prop := ∀ (F P S : Hp) (b : Option Addr) (σ : L2.St) (H : Hp) (env : En) (vs : List V) (ds : List D) (k : En → Prop) (Q : L2.St → Hp → Prop), Rel c F P S b σ H env → Reps c.K S vs ds → q ds env k →
  (∀ (σ' : L2.St) (env' : En), Rel c F P S b σ' H env' → Outside ix σ σ' → k env' → Q σ' H) → t vs σ H Q
structure QG (X : Cx) (g : Gd) (ix : List Nat) (e : Expr) (t : TG) (q : TGq) : Prop where
  pg : PG X e t
  sm : ∀ N, SmG (cg X g N) ix t q
structure QGs (X : Cx) (g : Gd) (ix : List Nat) (es : List Expr) (t : TGs) (q : TGsq) : Prop where
  pgs : PGs X es t
  sm : ∀ N, SmGs (cg X g N) ix t q
section
variable {X : Cx} {g : Gd} {W : WX} {e a : Expr} {es : List Expr} {pos : Pos} {c : Cg} {ix : List Nat}
def qName (i : Nat) : TGq := fun d env k => k (env.set i (.sh d))
theorem qg_name {i : Nat} {x : Str} (hN : X.N.Nodup) (hi : X.N[i]? = some x) (hx : Loc X.env.scope x) (hm : i ∈ ix := by decide) (hf : X.fn x = true ∨ X.env.scope.names.lookup x = some .local := by first | exact .inl rfl | exact .inr rfl | assumption) : QG X g ix (.Name x pos) (gName i) (qName i) :=
  ⟨pg_name hN hi hx hf, fun N F P S b σ H env v d k Q R r hq hk => hk _ _ (R.putSh r) (Outside.set hm) hq⟩
def qgNil : TGsq := fun ds env k => ds = [] ∧ k env
def qgCons (t : TGq) (u : TGsq) : TGsq := fun ds env k => ∃ d r, ds = d :: r ∧ t d env fun env1 => u r env1 k
theorem qgs_nil : QGs X g ix [] gNil qgNil := ⟨pgs_nil, fun N F P S b σ H env vs ds k Q R r hq hk => by
  obtain ⟨rfl, h⟩ := hq
  cases r
  exact ⟨rfl, hk σ env R Outside.refl h⟩⟩
theorem qgs_cons {t : TG} {u : TGs} {qt : TGq} {qu : TGsq} (h1 : QG X g ix e t qt) (h2 : QGs X g ix es u qu) (hs : (assignEach (e :: es) X.env).map (·.2) = assign e X.env :: (assignEach es X.env).map (·.2) := by rfl) : QGs X g ix (e :: es) (gCons t u) (qgCons qt qu) :=
  ⟨pgs_cons h1.pg h2.pgs hs, fun N F P S b σ H env vs ds k Q R r hq hk => by
    obtain ⟨d, ds', rfl, h⟩ := hq
    cases r with
    | cons r rs => exact ⟨_, _, rfl, h1.sm N F P S b σ H env _ _ _ _ R r h fun σ1 env1 R1 o1 k1 => h2.sm N F P S b σ1 H env1 _ _ _ _ R1 rs k1 fun σ2 env2 R2 o2 k2 => hk σ2 env2 R2 (o1.trans o2) k2⟩⟩
def qgTup (n : Nat) (t : TGsq) : TGq := fun d env k => ∃ ds, d = .tup ds ∧ ds.length = n ∧ t ds env k
theorem qg_tup {k : Nat} {t : TGs} {q : TGsq} {n : Nat} (hc : X.calm = true) (h : QGs X g ix es t q) (hn : (assignEach es X.env).length = n := by rfl) (hst : (assignEach es X.env).findIdx? (·.1) = none := by rfl) : QG X g ix (.Tuple es k pos) (gTup X.K n t) (qgTup n q) :=
  ⟨pg_tup hc h.pgs hn hst, fun N F P S b σ H env v d k Q R r hq hk => by
    obtain ⟨ds, rfl, hl, hq⟩ := hq
    cases r with
    | tup h1 r1 => exact ⟨_, _, rfl, Same.sqt R.sh h1, by rw [r1.length]; exact hl, h.sm N F P S b σ H env _ ds k Q R r1 hq hk⟩⟩
end

/-! ### what is walked -/
abbrev TIq := En → (List D → En → Prop) → XQ → Prop
def YldOk (K : Fg) (S H : Hp) (v : V) (d : D) (H' : Hp) : Prop := (H' = H ∧ Rep K S v d) ∨ ∃ (T : Addr) (xs : List V) (ds : List D), v = .ref T ∧ d = .tup ds ∧ H T = none ∧ H' = upd H T (.tup xs) ∧ Reps K S xs ds
def Walks (K : Fg) (F S : Hp) (J : It) (items : List D) : Prop := ∀ (i : Nat) (S1 H1 : Hp), Same S S1 → Same S1 H1 → Same F H1 →
  (∀ d, items[i]? = some d → J.go i H1 ∧ ∀ v H2, J.yld i H1 v H2 → YldOk K S1 H1 v d H2) ∧ (items.length ≤ i → J.stop i H1)
def SmI (c : Cg) (W : WX) (t : TI) (q : TIq) : Prop := ∀ (F P S : Hp) (b : Option Addr) (σ : L2.St) (H : Hp) (env : En) (k : List D → En → Prop) (x : XQ) (R : It → Hp → Prop), Rel c F P S b σ H env → q env k x → XOk c F P b W S x →
  (∀ (S' H' : Hp) (env' : En) (J : It) (items : List D), Rel c F P S' b σ H' env' → Ext P S S' → Walks c.K F S' J items → k items env' → R J H') → t σ H R
structure QI (X : Cx) (g : Gd) (W : WX) (tg iter : Expr) (t : TI) (q : TIq) : Prop where
  pi : PI X tg iter t
  sm : ∀ N, SmI (cg X g N) W t q
/-- a turn's datum has come: shared from now on -/
theorem Rel.yield {c : Cg} {F P S H H' : Hp} {b : Option Addr} {σ : L2.St} {env : En} {v : V} {d : D} (R : Rel c F P S b σ H env) (h : YldOk c.K S H v d H') : ∃ S', Rel c F P S' b σ H' env ∧ Ext P S S' ∧ Rep c.K S' v d := by
  rcases h with ⟨rfl, h⟩ | ⟨T, xs, ds, rfl, rfl, hT, rfl, r⟩
  · exact ⟨S, R, Ext.refl, h⟩
  · have n := R.new hT
    exact ⟨_, R.allocSh hT, Ext.alloc n.1 n.2.1, .tup (SqT.of upd_same) (r.mono (same_upd n.2.1))⟩
/-- for: the turns as a recursion over the items -/
def loopQ (g : TGq) (body : TSq) (DQ : Ens) : List D → En → Prop
  | [], env => DQ.nx env
  | d :: ds, env => g d env fun env1 => body { DQ with nx := loopQ g body DQ ds, ct := loopQ g body DQ ds, bk := DQ.nx } env1
def qFor (qi : TIq) (g : TGq) (body : TSq) : TSq := fun DQ env => qi env (fun items env1 => loopQ g body DQ items env1) DQ.ex
theorem sm_for {c : Cg} {W : WX} {ti : TI} {qi : TIq} {t : TG} {ix : List Nat} {q : TGq} {tb : TS} {qb : TSq} (hi : SmI c W ti qi) (hg : SmG c ix t q) (hb : SmS c W tb qb) : SmS c W (tFor ti t tb) (qFor qi q qb) := by
  intro F P S b σ H env DQ D R hq k
  refine hi F P S b σ H env _ _ _ R hq k.ex fun S0 H0 env0 J items R0 e0 wk h0 => ?_
  refine ⟨fun i m σ1 H1 => m = items.length - i ∧ i ≤ items.length ∧ ∃ S1 env1, Rel c F P S1 b σ1 H1 env1 ∧ Ext P S0 S1 ∧ loopQ q qb DQ (items.drop i) env1, ⟨_, rfl, Nat.zero_le _, S0, env0, R0, Ext.refl, h0⟩, ?_⟩
  rintro i m σ1 H1 ⟨rfl, hil, S1, env1, R1, e1, h1⟩
  obtain ⟨w1, w2⟩ := wk i S1 H1 e1.1 R1.sh R1.fh
  by_cases hlt : i < items.length
  · obtain ⟨go, yld⟩ := w1 items[i] (List.getElem?_eq_getElem hlt)
    refine .inr ⟨go, fun σ2 H2 => ∃ S2 env2, Rel c F P S2 b σ2 H2 env2 ∧ Ext P S0 S2 ∧ loopQ q qb DQ (items.drop (i + 1)) env2, fun σ2 H2 ⟨S2, env2, R2, e2, h2⟩ => ⟨items.length - (i + 1), by omega, rfl, hlt, S2, env2, R2, e2, h2⟩, fun v H2 y => ?_⟩
    obtain ⟨S2, R2, e2, r2⟩ := R1.yield (yld v H2 y)
    rw [List.drop_eq_getElem_cons hlt] at h1
    refine hg F P S2 b σ1 H2 env1 v _ _ _ R2 r2 h1 fun σ3 env3 R3 _ h3 => ?_
    refine hb F P S2 b σ3 H2 env3 _ _ R3 h3 ⟨fun S4 σ4 H4 env4 R4 e4 h4 => ⟨S4, env4, R4, e1.trans (e2.trans e4), h4⟩, fun S4 σ4 H4 env4 v r R4 e4 ro h4 => k.rt S4 σ4 H4 env4 v r R4 (e0.trans (e1.trans (e2.trans e4))) ro h4,
      fun S4 σ4 H4 env4 R4 e4 h4 => k.nx S4 σ4 H4 env4 R4 (e0.trans (e1.trans (e2.trans e4))) h4, fun S4 σ4 H4 env4 R4 e4 h4 => ⟨S4, env4, R4, e1.trans (e2.trans e4), h4⟩, k.ex.mono (e0.trans (e1.trans e2))⟩
  · have e : i = items.length := by omega
    subst e
    rw [List.drop_length] at h1
    exact .inl ⟨w2 (Nat.le_refl _), k.nx S1 σ1 H1 env1 R1 (e0.trans e1) h1⟩
section
variable {X : Cx} {g : Gd} {W : WX} {tg iter e a b : Expr} {es : List Expr} {sts : List Stmt} {pos p : Pos} {c : Cg} {ix : List Nat} {ti : TI} {qi : TIq} {t : TG} {q : TGq} {tb : TS} {qb : TSq} {te : TE} {qe : TEq} {tl : TA} {ql : TAq} {tt : TT} {qt : TTq}
theorem qs_for (ix : List Nat) (hi : QI X g W tg iter ti qi) (hg : QG X g ix tg t q) (hb : QSs X g W sts tb qb) (hp : PassesOwn (model X.prog X.w) X.A X.env X.xe) (hc : X.calm = true := by rfl) (hs : ∀ x, foldedSetIterable iter X.env x = pure x := by intro _; rfl) :
    QS X g W (.For tg iter sts [] pos) (tFor ti t tb) (qFor qi q qb) := ⟨ps_for hp hc hi.pi hg.pg hb.pss hs, fun N => sm_for (hi.sm N) (hg.sm N) (hb.sm N)⟩
/-! a list or a tuple -/
def iSeq (K : Fg) (tl : TE) : TI := fun σ H R => tl σ H fun x H1 => ∃ a, x = .ref a ∧ (((∃ xs, SqL K H1 a xs) ∧ R (Itl K a) H1) ∨ ((∃ xs, SqT K H1 a xs) ∧ R (Itt K a) H1))
theorem pi_seq {l : Expr} {tl : TE} (hl : PE X l tl) : PI X tg l (iSeq X.K tl) := by
  refine ⟨fun pins s σ H R I h => ?_⟩
  refine thn (hl.run pins s σ H _ I h) fun v s1 ⟨x, H1, I1, r1, q1⟩ => ?_
  obtain ⟨a, e, q1⟩ := q1
  subst e
  cases r1
  have hf : ∀ b ∈ [s1.heap.objs.size], FpOk X pins H1 b := fun b hb => by
    have e : b = s1.heap.objs.size := by simpa using hb
    subst e
    exact I1.fpOk (Nat.le_refl _) (I1.hok.fresh (Nat.le_refl _))
  rcases q1 with ⟨⟨xs, hq⟩, q⟩ | ⟨⟨xs, hq⟩, q⟩
  · obtain ⟨its, rv, p, hz⟩ := I1.list hq
    refine wpAny_pyIter_list p.isList ?_
    exact ⟨s1.heap.objs.size, [s1.heap.objs.size], _, _, H1, rfl, I1.kept (t' := s1.toks) fun b o e => Heap.get?_push_of_some _ e, turn_list a _, ⟨_, Heap.get?_push_size _ rfl, rfl, rfl⟩, hf, q⟩
  · obtain ⟨its, rv, p, hz⟩ := I1.tuple hq
    refine wpAny_pyIter_tuple (show s1.heap.IsTuple a its.toArray from p) ?_
    exact ⟨s1.heap.objs.size, [s1.heap.objs.size], _, _, H1, rfl, I1.kept (t' := s1.toks) fun b o e => Heap.get?_push_of_some _ e, turn_tuple a _, ⟨_, Heap.get?_push_size _ rfl, rfl, rfl⟩, hf, q⟩
def dItems : D → Option (List D)
  | .lst ds => some ds
  | .tup ds => some ds
  | .scr ns => some (ns.map .int)
  | _ => none
/-- the items of a value; an own list is shared from now on -/
def itemsV (env : En) : Va → Option (List D × En)
  | .d d => (dItems d).map fun ds => (ds, env)
  | .ptr i => match env[i]? with
    | some (.sh d) => (dItems d).map fun ds => (ds, env)
    | some (.own d) => (dItems d).map fun ds => (ds, env.set i (.sh d))
    | some (.bor d) => (dItems d).map fun ds => (ds, env)
    | _ => none
  | .bag _ => none
theorem walk_l {K : Fg} {S1 H1 : Hp} {a : Addr} {ys : List V} {items : List D} {i : Nat} (h1 : SqL K H1 a ys) (r1 : Reps K S1 ys items) :
    (∀ d, items[i]? = some d → (Itl K a).go i H1 ∧ ∀ v H2, (Itl K a).yld i H1 v H2 → YldOk K S1 H1 v d H2) ∧ (items.length ≤ i → (Itl K a).stop i H1) := by
  refine ⟨fun d hd => ?_, fun hl => ⟨ys, h1, by rw [r1.length]; exact hl⟩⟩
  obtain ⟨v, hv, hr⟩ := r1.get hd
  exact ⟨⟨ys, v, h1, hv⟩, fun u H2 y => .inl ⟨y.1, by
    have := y.2 ys h1
    rw [hv] at this; cases this; exact hr⟩⟩
theorem walks_at {K : Fg} {F S H0 : Hp} {v : V} {d : D} {items : List D} (h : At K S H0 v d) (hi : dItems d = some items) (hs : (∀ S1 H1, Same S S1 → Same S1 H1 → Same F H1 → At K S1 H1 v d)) :
    ∃ a, v = .ref a ∧ (((∃ xs, SqL K H0 a xs) ∧ Walks K F S (Itl K a) items) ∨ ((∃ xs, SqT K H0 a xs) ∧ Walks K F S (Itt K a) items)) := by
  cases h with
  | non => cases hi
  | bl _ => cases hi
  | int _ => cases hi
  | str _ => cases hi
  | dct _ _ => cases hi
  | @lst a xs ds h r =>
    cases hi
    refine ⟨a, rfl, .inl ⟨⟨xs, SqL.of h⟩, fun i S1 H1 s1 s2 s3 => ?_⟩⟩
    cases hs S1 H1 s1 s2 s3 with
    | @lst _ ys _ h1 r1 => exact walk_l (SqL.of h1) r1
  | @scr a ns h =>
    cases hi
    refine ⟨a, rfl, .inl ⟨⟨_, h⟩, fun i S1 H1 s1 s2 s3 => ?_⟩⟩
    cases hs S1 H1 s1 s2 s3 with
    | scr h1 => exact walk_l h1 (Reps.of_ints ns)
  | @tup a xs ds h r =>
    cases hi
    refine ⟨a, rfl, .inr ⟨⟨xs, h⟩, fun i S1 H1 s1 s2 s3 => ?_⟩⟩
    cases hs S1 H1 s1 s2 s3 with
    | @tup _ ys _ h1 r1 =>
      refine ⟨fun d hd => ?_, fun hl => ⟨ys, h1, by rw [r1.length]; exact hl⟩⟩
      obtain ⟨v, hv, hr⟩ := r1.get hd
      exact ⟨⟨ys, v, h1, hv⟩, fun u H2 y => .inl ⟨y.1, by
        have := y.2 ys h1
        rw [hv] at this; cases this; exact hr⟩⟩
/-- a value that is walked stands still -/
theorem itemsV_ok {F P S H : Hp} {bb : Option Addr} {σ : L2.St} {env env2 : En} {v : V} {y : Va} {items : List D} (R : Rel c F P S bb σ H env) (r : RV c.K S σ bb v y) (h : itemsV env y = some (items, env2)) :
    ∃ S2 d, Rel c F P S2 bb σ H env2 ∧ Ext P S S2 ∧ dItems d = some items ∧ At c.K S2 H v d ∧ ∀ S1 H1, Same S2 S1 → Same S1 H1 → Same F H1 → At c.K S1 H1 v d := by
  cases y with
  | bag _ => cases h
  | d d =>
    cases e : dItems d with
    | none => simp [itemsV, e] at h
    | some ds =>
      simp [itemsV, e] at h
      obtain ⟨rfl, rfl⟩ := h
      exact ⟨S, d, R, Ext.refl, e, .of_rep R.sh r, fun S1 H1 s1 s2 _ => .of_rep s2 (Rep.mono s1 r)⟩
  | ptr i =>
    have r' : σ[i]? = some (some v) := r
    unfold itemsV at h
    simp only at h
    cases e : env[i]? with
    | none => rw [e] at h; cases h
    | some s =>
      rw [e] at h
      have hs := R.sl i s _ e r'
      cases s with
      | no => cases h
      | bag _ => cases h
      | sh d =>
        cases e2 : dItems d with
        | none => simp [e2] at h
        | some ds =>
          simp [e2] at h
          obtain ⟨rfl, rfl⟩ := h
          exact ⟨S, d, R, Ext.refl, e2, .of_rep R.sh hs, fun S1 H1 s1 s2 _ => .of_rep s2 (Rep.mono s1 hs)⟩
      | bor d =>
        cases e2 : dItems d with
        | none => simp [e2] at h
        | some ds =>
          simp [e2] at h
          obtain ⟨rfl, rfl⟩ := h
          exact ⟨S, d, R, Ext.refl, e2, At.mono (Same.refl _) R.fh hs, fun S1 H1 s1 _ s3 => At.mono s1 s3 hs⟩
      | own d =>
        cases e2 : dItems d with
        | none => simp [e2] at h
        | some ds =>
          simp [e2] at h
          obtain ⟨rfl, rfl⟩ := h
          obtain ⟨p, rfl, hp, hS, hb, ho⟩ := hs
          obtain ⟨o, hpo⟩ := ho.some
          have rp := ho.rep (S0 := S) hpo hS
          have R2 := R.freeze r' e hpo
          exact ⟨_, d, R2, Ext.alloc hp hS, e2, .of_rep R2.sh rp, fun S1 H1 s1 s2 _ => .of_rep s2 (Rep.mono s1 rp)⟩
def qSeqI (q : TEq) : TIq := fun env k x => q env (fun y env1 => ∃ items env2, itemsV env1 y = some (items, env2) ∧ k items env2) x
theorem sm_seqI (h : Sm c W te qe) : SmI c W (iSeq c.K te) (qSeqI qe) := by
  intro F P S b σ H env k x R Rl hq hx hk
  refine h F P S b σ H env _ x _ Rl hq hx fun S1 H1 env1 v y R1 e1 r1 h1 => ?_
  obtain ⟨items, env2, hi, h2⟩ := h1
  obtain ⟨S2, d, R2, e2, hd, ha, hw⟩ := itemsV_ok R1 r1 hi
  obtain ⟨a, rfl, z⟩ := walks_at (F := F) ha hd hw
  refine ⟨a, rfl, ?_⟩
  rcases z with ⟨z1, z3⟩ | ⟨z1, z3⟩
  · exact .inl ⟨z1, hk S2 H1 env2 _ items R2 (e1.trans e2) z3 h2⟩
  · exact .inr ⟨z1, hk S2 H1 env2 _ items R2 (e1.trans e2) z3 h2⟩
theorem qi_seq (h : QE X g W iter te qe) : QI X g W tg iter (iSeq X.K te) (qSeqI qe) := ⟨pi_seq h.pe, fun N => sm_seqI (h.sm N)⟩
/-! ranges -/
def ranged (lo : Int) (n : Nat) : List D := (List.range n).map fun i => .int (lo + (i : Nat))
theorem ranged_length (lo : Int) (n : Nat) : (ranged lo n).length = n := by simp [ranged]
theorem walks_range {K : Fg} {F S : Hp} (lo : Int) (n : Nat) : Walks K F S (Itr lo n) (ranged lo n) := by
  intro i S1 H1 _ _ _
  refine ⟨fun d hd => ?_, fun hl => by rw [ranged_length] at hl; exact hl⟩
  have hi : i < n := by
    have := (List.getElem?_eq_some_iff.mp hd).1
    rw [ranged_length] at this; exact this
  have e : d = .int (lo + (i : Nat)) := by
    unfold ranged at hd
    rw [List.getElem?_map, List.getElem?_range hi] at hd
    exact (Option.some.inj hd).symm
  subst e
  exact ⟨hi, fun v H2 y => .inl ⟨y.1, by rw [y.2]; exact .int _⟩⟩
def qRng1 (ql : TAq) : TIq := fun env k x => ql env (fun ys env1 => ∃ j : Int, ress env1 ys = some [.int j] ∧ -4000000000000000000 ≤ j ∧ j < 4000000000000000000 ∧ k (ranged 0 j.toNat) env1) x
theorem qi_range1 (hg : Gl X "range") (hm : X.mg "range" = none) (ha : QA X g W [a] tl ql) (hs : starEach [a] X.env = [(false, eval a X.env)] := by rfl) : QI X g W tg (.Call (.Name "range" p) [a] [] pos) (iRng1 tl) (qRng1 ql) :=
  ⟨pi_range1 hg hm ha.pa hs, fun N F P S b σ H env k x R Rl hq hx hk => by
    refine ha.sm N F P S b σ H env _ x _ Rl hq hx fun S1 H1 env1 vs ys R1 e1 r1 h1 => ?_
    obtain ⟨j, hj, h2, h3, h4⟩ := h1
    have z := R1.reads r1 hj
    cases z with
    | cons z1 z2 =>
      cases z2
      cases z1
      exact ⟨j, rfl, by omega, by omega, hk S1 H1 env1 _ _ R1 e1 (walks_range 0 j.toNat) h4⟩⟩
def qRng2 (ql : TAq) : TIq := fun env k x => ql env (fun ys env1 => ∃ i j : Int, ress env1 ys = some [.int i, .int j] ∧ (-4000000000000000000 ≤ i ∧ i < 4000000000000000000 ∧ -4000000000000000000 ≤ j ∧ j < 4000000000000000000) ∧ k (ranged i (j - i).toNat) env1) x
theorem qi_range2 (hg : Gl X "range") (hm : X.mg "range" = none) (ha : QA X g W [a, b] tl ql) (hs : starEach [a, b] X.env = [(false, eval a X.env), (false, eval b X.env)] := by rfl) (hs2 : starEach [b] X.env = [(false, eval b X.env)] := by rfl) : QI X g W tg (.Call (.Name "range" p) [a, b] [] pos) (iRng2 tl) (qRng2 ql) :=
  ⟨pi_range2 hg hm ha.pa hs hs2, fun N F P S b σ H env k x R Rl hq hx hk => by
    refine ha.sm N F P S b σ H env _ x _ Rl hq hx fun S1 H1 env1 vs ys R1 e1 r1 h1 => ?_
    obtain ⟨i, j, hj, h2, h4⟩ := h1
    have z := R1.reads r1 hj
    cases z with
    | cons z1 z2 =>
      cases z2 with
      | cons z2 z3 =>
        cases z3
        cases z1
        cases z2
        exact ⟨i, j, rfl, by omega, hk S1 H1 env1 _ _ R1 e1 (walks_range i _) h4⟩⟩

/-! ### while: the turns by fuel -/
def whileQ (cd : TTq) (body : TSq) (DQ : Ens) : Nat → En → Prop
  | 0, _ => False
  | n + 1, env => cd env (fun y env1 => if y = true then body { DQ with nx := whileQ cd body DQ n, ct := whileQ cd body DQ n, bk := DQ.nx } env1 else DQ.nx env1) DQ.ex
def qWhile (cd : TTq) (body : TSq) : TSq := fun DQ env => ∃ n, whileQ cd body DQ n env
theorem sm_while (hc : SmT c W tt qt) (hb : SmS c W tb qb) : SmS c W (tWhile tt tb) (qWhile qt qb) := by
  intro F P S b σ H env DQ D R hq k
  obtain ⟨n, hq⟩ := hq
  refine ⟨fun m σ1 H1 => ∃ S1 env1, Rel c F P S1 b σ1 H1 env1 ∧ Ext P S S1 ∧ whileQ qt qb DQ m env1, ⟨n, S, env, R, Ext.refl, hq⟩, ?_⟩
  rintro m σ1 H1 ⟨S1, env1, R1, e1, h1⟩
  cases m with
  | zero => exact h1.elim
  | succ m =>
    refine hc F P S1 b σ1 H1 env1 _ _ _ R1 h1 (k.ex.mono e1) fun S2 H2 env2 y R2 e2 h2 => ?_
    cases y with
    | true =>
      rw [if_pos rfl] at h2 ⊢
      refine ⟨fun σ3 H3 => ∃ S3 env3, Rel c F P S3 b σ3 H3 env3 ∧ Ext P S S3 ∧ whileQ qt qb DQ m env3, fun σ3 H3 w => ⟨m, Nat.lt_succ_self m, w⟩, ?_⟩
      exact hb F P S2 b σ1 H2 env2 _ _ R2 h2 ⟨fun S4 σ4 H4 env4 R4 e4 h4 => ⟨S4, env4, R4, e1.trans (e2.trans e4), h4⟩, fun S4 σ4 H4 env4 v r R4 e4 ro h4 => k.rt S4 σ4 H4 env4 v r R4 (e1.trans (e2.trans e4)) ro h4,
        fun S4 σ4 H4 env4 R4 e4 h4 => k.nx S4 σ4 H4 env4 R4 (e1.trans (e2.trans e4)) h4, fun S4 σ4 H4 env4 R4 e4 h4 => ⟨S4, env4, R4, e1.trans (e2.trans e4), h4⟩, k.ex.mono (e1.trans e2)⟩
    | false =>
      rw [if_neg Bool.false_ne_true] at h2 ⊢
      exact k.nx S2 σ1 H2 env2 R2 (e1.trans e2) h2
theorem qs_while {cd : Expr} (hc : QT X g W cd tt qt) (hb : QSs X g W sts tb qb) (hp : PassesOwn (model X.prog X.w) X.A X.env X.xe) : QS X g W (.While cd sts [] pos) (tWhile tt tb) (qWhile qt qb) := ⟨ps_while hp hc.pt hb.pss, fun N => sm_while (hc.sm N) (hb.sm N)⟩
end
end Q


set_option Elab.async false
set_option linter.all false
set_option maxRecDepth 100000
set_option maxHeartbeats 2000000
set_option autoImplicit false
/-! Q5: comprehensions; a def by its body. -/
namespace Q
open PySem PySem.Spec PyProof.Rows L2

def wipeE (env : En) : List Nat → En
  | [] => env
  | v :: vs => (wipeE env vs).set v .no
theorem wipeE_length (env : En) : ∀ vs : List Nat, (wipeE env vs).length = env.length
  | [] => rfl
  | v :: vs => by unfold wipeE; rw [List.length_set, wipeE_length env vs]
theorem wipeE_get (env : En) : ∀ (vs : List Nat) (j : Nat) (s : Sl), (wipeE env vs)[j]? = some s → (j ∈ vs ∧ s = .no) ∨ (j ∉ vs ∧ env[j]? = some s)
  | [], j, s, h => .inr ⟨by simp, h⟩
  | v :: vs, j, s, h => by
    unfold wipeE at h
    rcases getElem?_set' h with ⟨e, e2, _⟩ | ⟨e, e2⟩
    · exact .inl ⟨by simp [e], e2⟩
    · rcases wipeE_get env vs j s e2 with ⟨a, b⟩ | ⟨a, b⟩
      · exact .inl ⟨by simp [a], b⟩
      · exact .inr ⟨by simp [e, a], b⟩
theorem wipe_get (σ : L2.St) : ∀ (vs : List Nat) (j : Nat), j ∉ vs → (wipe σ vs)[j]? = σ[j]?
  | [], _, _ => rfl
  | v :: vs, j, h => by
    simp only [List.mem_cons, not_or] at h
    unfold wipe
    rw [List.getElem?_set_ne (fun e => h.1 e.symm)]
    exact wipe_get σ vs j h.2
theorem wipe_in (σ : L2.St) : ∀ (vs : List Nat) (j : Nat), j ∈ vs → j < σ.length → (wipe σ vs)[j]? = some none
  | [], _, h, _ => by simp at h
  | v :: vs, j, h, hl => by
    unfold wipe
    by_cases e : j = v
    · subst e
      rw [List.getElem?_set_self (by rw [wipe_length]; exact hl)]
    · rw [List.getElem?_set_ne (fun z => e z.symm)]
      refine wipe_in σ vs j ?_ hl
      simp only [List.mem_cons] at h
      exact h.resolve_left e
theorem wipe_eq {σ σ2 : L2.St} {vs : List Nat} (o : Outside vs (wipe σ vs) σ2) : wipe σ2 vs = wipe σ vs := by
  refine List.ext_getElem? fun j => ?_
  have hl : σ2.length = σ.length := o.1.trans (wipe_length σ vs)
  by_cases h : j ∈ vs
  · by_cases hj : j < σ.length
    · rw [wipe_in σ vs j h hj, wipe_in σ2 vs j h (by omega)]
    · rw [List.getElem?_eq_none (by rw [wipe_length]; omega), List.getElem?_eq_none (by rw [wipe_length]; omega)]
  · rw [wipe_get σ2 vs j h]
    exact o.2 j h
theorem Outside.mono {ix vs : List Nat} {σ σ' : L2.St} (o : Outside ix σ σ') (h : ∀ i ∈ ix, i ∈ vs) : Outside vs σ σ' := ⟨o.1, fun j hj => o.2 j fun z => hj (h j z)⟩
section
variable {c : Cg} {F P S H : Hp} {b : Option Addr} {σ : L2.St} {env : En} {vs : List Nat} {D' : Addr} {o o' : HO}
theorem bud_wipe (env : En) : ∀ vs : List Nat, bud (wipeE env vs) ≤ bud env
  | [] => Nat.le_refl _
  | v :: vs => Nat.le_trans (bud_le _ v .no rfl) (bud_wipe env vs)
theorem Rel.wipe (R : Rel c F P S b σ H env) : Rel c F P S b (wipe σ vs) H (wipeE env vs) := by
  refine ⟨by rw [wipeE_length, wipe_length]; exact R.len, R.fp, R.ph, R.sh, fun p e => ⟨(R.bg p e).1, (R.bg p e).2.1, (R.bg p e).2.2.mono (Same.refl _) rfl (bud_wipe env vs)⟩, fun i s v h1 h2 => ?_, fun i j p d d' hij h1 h2 h3 h4 => ?_⟩
  · rcases wipeE_get env vs i s h1 with ⟨a, e⟩ | ⟨a, e⟩
    · subst e; trivial
    · rw [wipe_get σ vs i a] at h2
      exact R.sl i s v e h2
  · rcases wipeE_get env vs i _ h2 with ⟨a, e⟩ | ⟨a, e⟩
    · cases e
    · rcases wipeE_get env vs j _ h4 with ⟨a', e'⟩ | ⟨a', e'⟩
      · cases e'
      · rw [wipe_get σ vs i a] at h1
        rw [wipe_get σ vs j a'] at h3
        exact R.ap i j p d d' hij h1 e h3 e'
theorem Rel.unwipe (R : Rel c F P S b (L2.wipe σ vs) H env) (hv : ∀ j ∈ vs, ∀ s, env[j]? = some s → s = .no) : Rel c F P S b σ H env := by
  have nv : ∀ (j : Nat) (s : Sl), env[j]? = some s → s ≠ .no → j ∉ vs := fun j s h hn z => hn (hv j z s h)
  refine ⟨by rw [← wipe_length σ vs]; exact R.len, R.fp, R.ph, R.sh, R.bg, fun i s v h1 h2 => ?_, fun i j p d d' hij h1 h2 h3 h4 => ?_⟩
  · cases s with
    | no => trivial
    | sh d => exact R.sl i _ v h1 (by rw [wipe_get σ vs i (nv i _ h1 (by simp))]; exact h2)
    | own d => exact R.sl i _ v h1 (by rw [wipe_get σ vs i (nv i _ h1 (by simp))]; exact h2)
    | bor d => exact R.sl i _ v h1 (by rw [wipe_get σ vs i (nv i _ h1 (by simp))]; exact h2)
    | bag _ => exact R.sl i _ v h1 (by rw [wipe_get σ vs i (nv i _ h1 (by simp))]; exact h2)
  · exact R.ap i j p d d' hij (by rw [wipe_get σ vs i (nv i _ h2 (by simp))]; exact h1) h2 (by rw [wipe_get σ vs j (nv j _ h4 (by simp))]; exact h3) h4
theorem Rel.reguard (R : Rel c F (upd P D' o) S b σ H env) (hp : P D' = none) (hf : F D' = none) (hs : S D' = none) (hb : b ≠ some D') : Rel c F (upd P D' o') S b σ (upd H D' o') env := by
  have hfp : Same F P := fun a u e => by
    have := R.fp a u e
    rw [upd_ne (fun z => by rw [z, hf] at e; cases e)] at this
    exact this
  have up : ∀ q, q ≠ D' → upd P D' o' q = upd P D' o q := fun q h => by rw [upd_ne h, upd_ne h]
  refine ⟨R.len, hfp.trans (same_upd hp), fun a u e => ?_, fun a u e => ?_, fun q e => ?_, fun j s' v' h3 h4 => ?_, R.ap⟩
  · by_cases h : a = D'
    · subst h; rw [upd_same] at e ⊢; exact e
    · rw [up a h] at e
      rw [upd_ne h]; exact R.ph a u e
  · rw [upd_ne (fun z => by rw [z, hs] at e; cases e)]; exact R.sh a u e
  · obtain ⟨a1, a2, a3⟩ := R.bg q e
    have ne : q ≠ D' := fun z => hb (z ▸ e)
    exact ⟨by rw [up q ne]; exact a1, a2, a3.mono (Same.refl _) (upd_ne ne) (Nat.le_refl _)⟩
  · have h := R.sl j s' v' h3 h4
    cases s' with
    | no => trivial
    | sh d => cases v' <;> exact h
    | bor d => cases v' <;> exact h
    | bag _ => cases v' <;> exact h
    | own d' =>
      cases v' with
      | none => exact h
      | some v =>
        obtain ⟨q, rfl, h5, h6, h7, h8⟩ := h
        have ne : q ≠ D' := fun z => by rw [z, upd_same] at h5; cases h5
        exact ⟨q, rfl, by rw [up q ne]; exact h5, h6, h7, h8.mono (Same.refl _) (upd_ne ne)⟩
end

/-- the block of a comprehension: the turns as a recursion over the items -/
def compQ (g : TGq) (tt : TTq) (te : TEq) (vs : List Nat) : List D → List D → En → (List D → En → Prop) → Prop
  | [], acc, env, k => k acc env
  | d :: ds, acc, env, k => g d env fun env1 => tt env1 (fun y env2 => if y = true then te env2 (fun y env3 => ∃ e env4, sh1 env3 y = some (e, env4) ∧ acc.length < 10000000 ∧ compQ g tt te vs ds (acc ++ [e]) (wipeE env4 vs) k) (fun _ _ _ => False)
      else compQ g tt te vs ds acc (wipeE env2 vs) k) fun _ _ _ => False
def qLc (qi : TIq) (g : TGq) (tt : TTq) (te : TEq) (vs : List Nat) : TNq := fun env k x => qi env (fun items env1 => compQ g tt te vs items [] (wipeE env1 vs) fun acc env2 => k (.own (.lst acc)) env2) x
abbrev W0 : WX := fun _ _ _ _ => False
theorem sm_lc {c : Cg} {W : WX} {ti : TI} {qi : TIq} {t : TG} {ix vs : List Nat} {q : TGq} {tt : TT} {qt : TTq} {te : TE} {qe : TEq} (hi : SmI c W ti qi) (hg : SmG c ix t q) (hx : ∀ i ∈ ix, i ∈ vs) (ht : SmT c W0 tt qt) (he : Sm c W0 te qe) : SmN c W (tLc ti t tt te vs) (qLc qi q qt qe vs) := by
  intro F P S b σ H env k x Q R hq hxx hk
  refine hi F P S b σ H env _ x _ R hq hxx fun S0 H0 env0 J items R0 e0 wk h0 => ?_
  intro D' hD
  have n0 := R0.new hD
  have hF : F D' = none := R0.fh.free hD
  have dn : ∀ (i : Nat) (s : Sl), (wipeE env0 vs)[i]? = some s → i ∈ vs → s = .no := fun i s h hm => by
    rcases wipeE_get env0 vs i s h with ⟨_, e⟩ | ⟨a, _⟩
    · exact e
    · exact absurd hm a
  let Iv (i : Nat) (H1 : Hp) : Prop := ∃ (S1 : Hp) (env1 : En) (acc : List V) (accD : List D), Rel c F (upd P D' (.lst acc)) S1 b (wipe σ vs) H1 env1 ∧ Ext P S0 S1 ∧ S1 D' = none ∧ Reps c.K S1 acc accD ∧ (∀ j ∈ vs, ∀ s, env1[j]? = some s → s = .no) ∧
      compQ q qt qe vs (items.drop i) accD env1 fun acc env2 => k (.own (.lst acc)) env2
  refine ⟨fun i m H1 => m = items.length - i ∧ i ≤ items.length ∧ Iv i H1, ⟨_, rfl, Nat.zero_le _, S0, wipeE env0 vs, [], [], ?_, Ext.refl, n0.2.1, .nil, fun j hj s h => dn j s h hj, h0⟩, ?_⟩
  · exact (((R0.alloc hD).guard n0.1 upd_same n0.2.1 n0.2.2 (R0.notOwn hD)).wipe (vs := vs))
  rintro i m H1 ⟨rfl, hil, S1, env1, acc, accD, R1, e1, hS1, r1, hw, h1⟩
  have hH1 : H1 D' = some (.lst acc) := R1.ph D' _ upd_same
  obtain ⟨w1, w2⟩ := wk i S1 H1 e1.1 R1.sh R1.fh
  have extP : ∀ {o : HO} {A B : Hp}, Ext (upd P D' o) A B → Ext P A B := fun {o A B} z => ⟨z.1, fun a h1 h2 => z.2 a h1 (by
    by_cases e : a = D'
    · subst e; rw [upd_same]; simp
    · rw [upd_ne e]; exact h2)⟩
  by_cases hlt : i < items.length
  · obtain ⟨go, yld⟩ := w1 items[i] (List.getElem?_eq_getElem hlt)
    refine .inr ⟨go, Iv (i + 1), fun H2 w => ⟨items.length - (i + 1), by omega, rfl, hlt, w⟩, fun v H2 y => ?_⟩
    obtain ⟨S2, R2, e2, r2⟩ := R1.yield (yld v H2 y)
    have hS2 : S2 D' = none := e2.2 D' hS1 (by rw [upd_same]; simp)
    rw [List.drop_eq_getElem_cons hlt] at h1
    refine hg F _ S2 b (wipe σ vs) H2 env1 v _ _ _ R2 r2 h1 fun σ3 env3 R3 o3 h3 => ?_
    have we : wipe σ3 vs = wipe σ vs := wipe_eq (o3.mono hx)
    refine ⟨we, ?_⟩
    refine ht F _ S2 b σ3 H2 env3 _ _ _ R3 h3 XOk.no fun S4 H4 env4 y4 R4 e4 h4 => ?_
    have hS4 : S4 D' = none := e4.2 D' hS2 (by rw [upd_same]; simp)
    have fin : ∀ (E : En) (j : Nat), j ∈ vs → ∀ s, (wipeE E vs)[j]? = some s → s = .no := fun E j hj s h => by
      rcases wipeE_get E vs j s h with ⟨_, e⟩ | ⟨a, _⟩
      · exact e
      · exact absurd hj a
    cases y4 with
    | false =>
      rw [if_neg Bool.false_ne_true] at h4 ⊢
      exact ⟨S4, wipeE env4 vs, acc, accD, by rw [← we]; exact R4.wipe, e1.trans ((extP e2).trans (extP e4)), hS4, r1.mono (e2.1.trans e4.1), fin env4, h4⟩
    | true =>
      rw [if_pos rfl] at h4 ⊢
      refine he F _ S4 b σ3 H4 env4 _ _ _ R4 h4 XOk.no fun S5 H5 env5 v5 y5 R5 e5 r5 h5 => ?_
      obtain ⟨ed, env6, hs, hl, h6⟩ := h5
      obtain ⟨S6, R6, e6, r6⟩ := sh1_ok R5 r5 hs
      have hS6 : S6 D' = none := e6.2 D' (e5.2 D' hS4 (by rw [upd_same]; simp)) (by rw [upd_same]; simp)
      have acc6 : Reps c.K S6 acc accD := r1.mono (e2.1.trans (e4.1.trans (e5.1.trans e6.1)))
      refine ⟨acc, R6.ph D' _ upd_same, by rw [acc6.length]; exact size_lt hl, S6, wipeE env6 vs, acc ++ [v5], accD ++ [ed], ?_, e1.trans ((extP e2).trans ((extP e4).trans ((extP e5).trans (extP e6)))), hS6, acc6.append (.cons r6 .nil), fin env6, h6⟩
      rw [← we]
      exact (R6.reguard n0.1 hF hS6 n0.2.2).wipe
  · have e : i = items.length := by omega
    subst e
    rw [List.drop_length] at h1
    refine .inl ⟨w2 (Nat.le_refl _), ?_⟩
    have R2 : Rel c F P S1 b σ H1 env1 := (R1.unguard n0.1 R0.fp).unwipe hw
    refine hk S1 H1 env1 (.ref D') (.own (.lst accD)) R2 (e0.trans e1) ⟨D', rfl, n0.1, hS1, n0.2.2, .lst hH1 r1⟩ (fun d _ j ed p hp h2 h3 => ?_) h1
    cases hp
    have nj : j ∉ vs := fun z => by cases hw j z _ h3
    obtain ⟨a1, _⟩ := R1.ownAt (by rw [wipe_get σ vs j nj]; exact h2) h3
    rw [upd_same] at a1; cases a1

structure QTs (X : Cx) (g : Gd) (ifs : List Expr) (t : TT) (q : TTq) : Prop where
  pts : PTs X ifs t
  sm : ∀ N, SmT (cg X g N) W0 t q
def qYes : TTq := fun env k _ => k true env
section
variable {X : Cx} {g : Gd} {W : WX} {tg iter elt : Expr} {ifs : List Expr} {scope : Scope} {own : List (Str × Nat)} {ti : TI} {qi : TIq} {t : TG} {q : TGq} {tt : TT} {qt : TTq} {te : TE} {qe : TEq} {pos : Pos}
theorem qts_nil : QTs X g [] tYes qYes := ⟨pts_nil, fun N F P S b σ H env k x Q R hq _ hk => hk S H env true R Ext.refl hq⟩
theorem qts_one {cd : Expr} (h : QT X g W0 cd tt qt) : QTs X g [cd] tt qt := ⟨pts_one h.pt, h.sm⟩
theorem qn_lc (own : List (Str × Nat)) (hc : X.calm = true) (hN : X.N.Nodup) (hi : QI X g W tg iter ti qi) (ok : BlkOk X.N X.env.scope scope own)
    (hg : ∀ (s : Shared) (H : Hp) (C : Addr) (cl : List (Str × Addr)) (fp : List Addr), QG (X.blk s H scope (compEnvC scope cl C X.env) fp) g (own.map (·.2)) tg t q) (ht : ∀ (s : Shared) (H : Hp) (C : Addr) (cl : List (Str × Addr)) (fp : List Addr), QTs (X.blk s H scope (compEnvC scope cl C X.env) fp) g ifs tt qt)
    (he : ∀ (s : Shared) (H : Hp) (C : Addr) (cl : List (Str × Addr)) (fp : List Addr), QE (X.blk s H scope (compEnvC scope cl C X.env) fp) g W0 elt te qe) (hs : ∀ x, foldedSetIterable iter X.env x = pure x := by intro _; rfl) :
    QN X g W (.ListComp elt [⟨tg, iter, ifs, 0⟩] scope pos) (tLc ti t tt te (own.map (·.2))) (qLc qi q qt qe (own.map (·.2))) :=
  ⟨pe_lc hc hN hi.pi ok (fun s H C cl fp => (hg s H C cl fp).pg) (fun s H C cl fp => (ht s H C cl fp).pts) (fun s H C cl fp => (he s H C cl fp).pe) hs,
    fun N => sm_lc (hi.sm N) ((hg X.s_0 X.H_0 0 [] []).sm N) (fun _ h => h) ((ht X.s_0 X.H_0 0 [] []).sm N) ((he X.s_0 X.H_0 0 [] []).sm N)⟩
theorem qs_setLc {i : Nat} {y : Str} {py spos : Pos} (own : List (Str × Nat)) (hc : X.calm = true) (hN : X.N.Nodup) (hy : X.N[i]? = some y) (hyl : X.env.scope.names.lookup y = some .local)
    (hsw : swapsWith (.ListComp elt [⟨tg, iter, ifs, 0⟩] scope pos) (some (.Name y py)) spos.line X.env = pure true) (hi : QI X g W tg iter ti qi) (ok : BlkOk X.N X.env.scope scope own)
    (hg : ∀ (s : Shared) (H : Hp) (C : Addr) (cl : List (Str × Addr)) (fp : List Addr), QG (X.blk s H scope (compEnvC scope cl C X.env) fp) g (own.map (·.2)) tg t q) (ht : ∀ (s : Shared) (H : Hp) (C : Addr) (cl : List (Str × Addr)) (fp : List Addr), QTs (X.blk s H scope (compEnvC scope cl C X.env) fp) g ifs tt qt)
    (he : ∀ (s : Shared) (H : Hp) (C : Addr) (cl : List (Str × Addr)) (fp : List Addr), QE (X.blk s H scope (compEnvC scope cl C X.env) fp) g W0 elt te qe) (hs : ∀ x, foldedSetIterable iter X.env x = pure x := by intro _; rfl) :
    QS X g W (.Assign [.Name y py] (.ListComp elt [⟨tg, iter, ifs, 0⟩] scope pos) spos) (tAsg (tLc ti t tt te (own.map (·.2))) (gName i)) (qSetN i (qLc qi q qt qe (own.map (·.2)))) :=
  ⟨ps_setLc hc hN hy hyl hsw hi.pi ok (fun s H C cl fp => (hg s H C cl fp).pg) (fun s H C cl fp => (ht s H C cl fp).pts) (fun s H C cl fp => (he s H C cl fp).pe) hs,
    fun N => sm_setN (sm_lc (hi.sm N) ((hg X.s_0 X.H_0 0 [] []).sm N) (fun _ h => h) ((ht X.s_0 X.H_0 0 [] []).sm N) ((he X.s_0 X.H_0 0 [] []).sm N))⟩
end

/-! ### a def by its body -/
def arSl : Ar → Sl
  | .bor d => .bor d
  | .sh d => .sh d
  | .bag n => .bag n
def startE (N : List Str) (as : List Ar) : En := as.map arSl ++ List.replicate (N.length - as.length) .no
theorem arsOk_get {K : Fg} {F S : Hp} {b : Option Addr} : ∀ {vs : List V} {as : List Ar}, ArsOk K F S b vs as → ∀ {i : Nat} {v : V} {a : Ar}, vs[i]? = some v → as[i]? = some a → ArOk K F S b v a
  | _, _, .nil, _, _, _, h, _ => by simp at h
  | _, _, .cons h r, 0, _, _, h1, h2 => by
    simp at h1 h2; subst h1; subst h2; exact h
  | _, _, .cons h r, i + 1, v, a, h1, h2 => arsOk_get r (i := i) (by simpa using h1) (by simpa using h2)
theorem bud_app : ∀ (a b : En), bud (a ++ b) = bud a + bud b
  | [], b => by simp [bud]
  | s :: a, b => by
    show bw s + bud (a ++ b) = bw s + bud a + bud b
    rw [bud_app a b]; omega
theorem bud_no : ∀ n, bud (List.replicate n Sl.no) = 0
  | 0 => rfl
  | n + 1 => by
    rw [List.replicate_succ]
    show bw .no + bud (List.replicate n Sl.no) = 0
    rw [bud_no n]; rfl
theorem bud_start (N : List Str) (as : List Ar) : bud (startE N as) = abud as := by
  unfold startE
  rw [bud_app, bud_no, Nat.add_zero]
  induction as with
  | nil => rfl
  | cons a as ih =>
    show bw (arSl a) + bud (as.map arSl) = aw a + abud as
    rw [ih]
    cases a <;> rfl
theorem rel_start {c : Cg} {F S H : Hp} {b : Option Addr} {N : List Str} {vs : List V} {as : List Ar} (hF : Same F H) (hS : Same S H) (hb : Bg c F S H b (abud as)) (h : ArsOk c.K F S b vs as) (hl : as.length ≤ N.length) : Rel c F F S b (L2.start N vs) H (startE N as) := by
  have e := h.length
  have own : ∀ (i : Nat) (d : D), (startE N as)[i]? ≠ some (.own d) := fun i d z => by
    unfold startE at z
    have := List.mem_of_getElem? z
    rcases List.mem_append.mp this with m | m
    · obtain ⟨a, _, q⟩ := List.mem_map.mp m
      cases a <;> cases q
    · cases (List.mem_replicate.mp m).2
  refine ⟨?_, Same.refl _, hF, hS, fun p e => by rw [bud_start]; exact hb p e, fun i s v h1 h2 => ?_, fun i j p d d' _ _ h2 _ _ => own i d h2⟩
  · unfold startE L2.start
    rw [List.length_append, List.length_append, List.length_map, List.length_map, List.length_replicate, List.length_replicate, e]
  · unfold startE at h1
    unfold L2.start at h2
    by_cases hi : i < as.length
    · rw [List.getElem?_append_left (by rw [List.length_map]; exact hi), List.getElem?_map] at h1
      rw [List.getElem?_append_left (by rw [List.length_map, e]; exact hi), List.getElem?_map] at h2
      cases e1 : as[i]? with
      | none => rw [e1] at h1; cases h1
      | some a =>
        cases e2 : vs[i]? with
        | none => rw [e2] at h2; cases h2
        | some u =>
          rw [e1] at h1; rw [e2] at h2
          cases h1; cases h2
          have := arsOk_get h e2 e1
          cases a <;> exact this
    · rw [List.getElem?_append_right (by rw [List.length_map]; omega)] at h1
      have := (List.mem_replicate.mp (List.mem_of_getElem? h1)).2
      subst this
      trivial
theorem fn_q {P : Program} {w : World} {K : Fg} {mg : Str → Option Value} {base : Heap} {x qual : Str} {params : Arguments} {body : List Stmt} {scope : Scope} {dvs : List V} {kws : List (Str × V)} {f : Addr} {fd : FuncData} {N ps : List Str} {k : Nat} {sp : Spq} (g : Gd)
    (Fn : FunD K x qual params body scope dvs kws f fd) (S : FnScope N ps scope) (hl : ps.length ≤ N.length) (len : ∀ as k x, sp as k x → as.length = ps.length)
    (hbody : ∀ (cdv : Value) (A : Around) (outer : List Env) (s : Shared) (H : Hp) (E : XK), A.guards = some [] → Room k (A.deeper (envOfC qual scope s.heap.objs.size f cdv)) →
      ∃ t q, QSs (cxOf (L2.CX P w) P w K mg base N qual scope f cdv A outer s H E) g (fun cls d _ H => E cls d H) body t q ∧
        ∀ as k x, sp as k x → q { nx := fun _ => k (.sh .non), rt := fun r _ => k r, ex := fun nm pay _ => x nm pay } (startE N as)) : FnG P w K mg base (k + 1) f fd ps (spQ K mg g sp) := by
  obtain ⟨oc, od, dV, kV, doc, pm, an, cdv, ct, osl, rfl, lk, hcd, _, _⟩ := Fn.ex
  refine fnG_of lk hcd S (fun vs H Q E h => ?_) fun A outer s H vs Q E hgd hr h => ?_
  · obtain ⟨_, F, S, b, as, k, x, _, _, _, h4, h5, _⟩ := h
    exact h4.length.trans (len as k x h5)
  · obtain ⟨t, q, ht, hq⟩ := hbody cdv A outer s H E hgd hr
    refine ⟨t, ht.pss, ?_⟩
    obtain ⟨M, F, S, b, as, k, x, hF, hS, hb, h4, h5, h6, h7⟩ := h
    have lo : ∀ {S' H' : Hp} {E : En}, (∀ p, b = some p → F p = none ∧ S' p = none ∧ BagAt ⟨K, mg, g, M⟩ S' H' p (bud E)) → Bg ⟨K, mg, g, M⟩ F S' H' b 0 := fun z p e => ⟨(z p e).1, (z p e).2.1, (z p e).2.2.mono (Same.refl _) rfl (Nat.zero_le _)⟩
    have R := rel_start (c := ⟨K, mg, g, M⟩) (N := N) hF hS hb h4 (by rw [len as k x h5]; exact hl)
    refine ht.sm M F F S b _ H _ _ _ R (hq as k x h5) ⟨fun S' σ' H' env' R' e' hk => ?_, fun S' σ' H' env' v r R' e' ro hk => ?_, fun _ _ _ _ _ _ z => z.elim, fun _ _ _ _ _ _ z => z.elim, fun nm pay env' S' σ' H' C d R' e' hx hm hp => ?_⟩
    · exact h6 .non S' H' (.sh .non) R'.ph R'.sh e' (lo R'.bg) Rep.non hk
    · exact h6 v S' H' r R'.ph R'.sh e' (lo R'.bg) ro hk
    · exact h7 nm pay C d S' H' R'.ph R'.sh e' (lo R'.bg) hx hm hp
end Q


set_option Elab.async false
set_option linter.all false
set_option maxRecDepth 100000
set_option maxHeartbeats 2000000
set_option autoImplicit false
/-! Q6: operators, built-ins, methods by trees. -/
namespace Q
open PySem PySem.Spec PyProof.Rows L2

/-! ### results that may be new -/
structure Out (K : Fg) (S H : Hp) (k : Rv → Prop) (Q : VK) : Prop where
  old : ∀ w z, Rep K S w z → k (.sh z) → Q w H
  new : ∀ p o z, H p = none → OwnAt K S (upd H p o) p z → k (.own z) → Q (.ref p) (upd H p o)
  tup : ∀ p xs ds, H p = none → Reps K S xs ds → k (.sh (.tup ds)) → Q (.ref p) (upd H p (.tup xs))
theorem Rel.out {c : Cg} {F P S S0 H : Hp} {b : Option Addr} {σ : L2.St} {env : En} {k : Rv → En → Prop} {Q : VK} (R : Rel c F P S b σ H env) (e0 : Ext P S0 S)
    (hk : ∀ (S' H' : Hp) (env' : En) (v : V) (y : Rv), Rel c F P S' b σ H' env' → Ext P S0 S' → RvOk c.K P S' b H' v y → (∀ d, y = .own d → ∀ (i : Nat) (e : D) (p : Addr), v = .ref p → σ[i]? = some (some (.ref p)) → env'[i]? ≠ some (.own e)) → k y env' → Q v H') : Out c.K S H (fun r => k r env) Q := by
  refine ⟨fun w z h kz => hk S H env w (.sh z) R e0 h (fun d e => nomatch e) kz, fun p o z hp ho kz => ?_, fun p xs ds hp r kz => ?_⟩
  · have n := R.new hp
    refine hk S (upd H p o) env (.ref p) (.own z) (R.alloc hp) e0 ⟨p, rfl, n.1, n.2.1, n.2.2, ho⟩ (fun _ _ i e q hq => ?_) kz
    cases hq
    exact R.notOwn hp i e
  · have n := R.new hp
    exact hk _ _ env (.ref p) (.sh (.tup ds)) (R.allocSh hp) (e0.trans (Ext.alloc n.1 n.2.1)) (Rep.tup (SqT.of upd_same) (r.mono (same_upd n.2.1))) (fun d e => nomatch e) kz
def Op2R (K : Fg) (r : R2) (f : D → D → (Rv → Prop) → Prop) : Prop := ∀ (S H : Hp) (v u : V) (d e : D) (k : Rv → Prop) (Q : VK), Same S H → At K S H v d → At K S H u e → f d e k → Out K S H k Q → r v u H Q
def qOpR (f : D → D → (Rv → Prop) → Prop) (qa qb : TEq) : TNq := fun env k x => qa env (fun y env1 => qb env1 (fun z env2 => ∃ d e, res env2 y = some d ∧ res env2 z = some e ∧ f d e fun r => k r env2) x) x
section
variable {c : Cg} {X : Cx} {g : Gd} {W : WX} {e a b : Expr} {es : List Expr} {t ta tb : TE} {tl : TA} {q qa qb : TEq} {ql : TAq} {pos p2 : Pos}
theorem sm_opR {r : R2} {f : D → D → (Rv → Prop) → Prop} (h : Op2R c.K r f) (ha : Sm c W ta qa) (hb : Sm c W tb qb) : SmN c W (tOp r ta tb) (qOpR f qa qb) := by
  intro F P S b σ H env k x Q R hq hx hk
  refine ha F P S b σ H env _ x _ R hq hx fun S1 H1 env1 v y R1 e1 r1 h1 => ?_
  refine hb F P S1 b σ H1 env1 _ x _ R1 h1 (hx.mono e1) fun S2 H2 env2 u z R2 e2 r2 h2 => ?_
  obtain ⟨d, e, hd, he, hf⟩ := h2
  exact h S2 H2 v u d e _ Q R2.sh (R2.read (r1.mono e2.1) hd) (R2.read r2 he) hf (R2.out (e1.trans e2) hk)
theorem qn_opR {op : Operator} {r : R2} {f : D → D → (Rv → Prop) → Prop} (ho : OpR X (binaryOp op) r) (h : Op2R X.K r f) (ha : QE X g W a ta qa) (hb : QE X g W b tb qb) : QN X g W (.BinOp a op b pos) (tOp r ta tb) (qOpR f qa qb) :=
  ⟨pe_op ho ha.pe hb.pe, fun N => sm_opR h (ha.sm N) (hb.sm N)⟩
def CbR (K : Fg) (r : List V → Hp → VK → Prop) (f : List D → (Rv → Prop) → Prop) : Prop := ∀ (S H : Hp) (vs : List V) (ds : List D) (k : Rv → Prop) (Q : VK), Same S H → Ats K S H vs ds → f ds k → Out K S H k Q → r vs H Q
def qCBR (f : List D → (Rv → Prop) → Prop) (ql : TAq) : TNq := fun env k x => ql env (fun ys env1 => ∃ ds, ress env1 ys = some ds ∧ f ds fun r => k r env1) x
theorem sm_cbR {r : List V → Hp → VK → Prop} {f : List D → (Rv → Prop) → Prop} (h : CbR c.K r f) (ha : SmA c W tl ql) : SmN c W (tCB r tl) (qCBR f ql) := by
  intro F P S b σ H env k x Q R hq hx hk
  refine ha F P S b σ H env _ x _ R hq hx fun S1 H1 env1 vs ys R1 e1 r1 h1 => ?_
  obtain ⟨ds, hd, hf⟩ := h1
  exact h S1 H1 vs ds _ Q R1.sh (R1.reads r1 hd) hf (R1.out e1 hk)
theorem qn_cb {x : Str} {idS : String} {p : Pos} {r : List V → Hp → VK → Prop} {f : List D → (Rv → Prop) → Prop} (hc : CallR X (.builtin idS) r) (h : CbR X.K r f) (hg : Gl X x) (hm : X.mg x = none) (hv : bootBuiltins x = some (.builtin idS)) (ha : QA X g W (e :: es) tl ql) (hn : x ≠ "__name__" := by decide) (hdb : (x == ("__debug__" : Str)) = false := by decide)
    (he : starEach (e :: es) X.env = (false, eval e X.env) :: starEach es X.env := by rfl) (hpl : (backTo pos (starEach es X.env)).any (·.1) = false := by rfl) : QN X g W (.Call (.Name x p) (e :: es) [] pos) (tCB r tl) (qCBR f ql) :=
  ⟨pe_callB hc hg hm hv ha.pa hn hdb he hpl, fun N => sm_cbR h (ha.sm N)⟩
theorem qn_ty {x : Str} {T : String} {p : Pos} {r : List V → Hp → VK → Prop} {f : List D → (Rv → Prop) → Prop} (hc : CallR X (.type T) r) (h : CbR X.K r f) (hg : Gl X x) (hm : X.mg x = none) (hv : bootBuiltins x = some (.type T)) (ha : QA X g W (e :: es) tl ql) (hn : x ≠ "__name__" := by decide) (hdb : (x == ("__debug__" : Str)) = false := by decide)
    (he : starEach (e :: es) X.env = (false, eval e X.env) :: starEach es X.env := by rfl) (hpl : (backTo pos (starEach es X.env)).any (·.1) = false := by rfl) : QN X g W (.Call (.Name x p) (e :: es) [] pos) (tCB r tl) (qCBR f ql) :=
  ⟨pe_callTy hc hg hm hv ha.pa hn hdb he hpl, fun N => sm_cbR h (ha.sm N)⟩
theorem CallR.or {u : Value} {r r' : List V → Hp → VK → Prop} (h : CallR X u r) (h' : CallR X u r') : CallR X u (fun x H Q => r x H Q ∨ r' x H Q) := by
  intro pins s σ H xs us Q I rv z
  rcases z with z | z
  · exact h pins s σ H xs us Q I rv z
  · exact h' pins s σ H xs us Q I rv z
/-! ### slices -/
abbrev TOq := En → (Option Int → En → Prop) → XQ → Prop
def SmO (c : Cg) (W : WX) (t : TO) (q : TOq) : Prop := ∀ (F P S : Hp) (b : Option Addr) (σ : L2.St) (H : Hp) (env : En) (k : Option Int → En → Prop) (x : XQ) (Q : Option Int → Hp → Prop), Rel c F P S b σ H env → q env k x → XOk c F P b W S x →
  (∀ (S' H' : Hp) (env' : En) (y : Option Int), Rel c F P S' b σ H' env' → Ext P S S' → k y env' → Q y H') → t σ H Q
structure QO (X : Cx) (g : Gd) (W : WX) (e : Option Expr) (t : TO) (q : TOq) : Prop where
  po : PO X e t
  sm : ∀ N, SmO (cg X g N) W t q
def qoNone : TOq := fun env k _ => k none env
def qoSome (q : TEq) : TOq := fun env k x => q env (fun y env1 => ∃ i, res env1 y = some (.int i) ∧ k (some i) env1) x
theorem qo_none : QO X g W none tNoPart qoNone := ⟨po_none, fun N F P S b σ H env k x Q R hq _ hk => hk S H env none R Ext.refl hq⟩
theorem qo_some (h : QE X g W e t q) : QO X g W (some e) (tPart t) (qoSome q) := ⟨po_some h.pe, fun N F P S b σ H env k x Q R hq hx hk => by
  refine h.sm N F P S b σ H env _ x _ R hq hx fun S1 H1 env1 v y R1 e1 r1 h1 => ?_
  obtain ⟨i, hi, h2⟩ := h1
  exact ⟨i, (R1.read r1 hi).scal (w := .int i) rfl, hk S1 H1 env1 (some i) R1 e1 h2⟩⟩
def SlOp (K : Fg) (r : V → Option Int → Option Int → Hp → VK → Prop) (f : D → Option Int → Option Int → (Rv → Prop) → Prop) : Prop := ∀ (S H : Hp) (v : V) (d : D) (lo hi : Option Int) (k : Rv → Prop) (Q : VK), Same S H → At K S H v d → f d lo hi k → Out K S H k Q → r v lo hi H Q
def qSl (f : D → Option Int → Option Int → (Rv → Prop) → Prop) (qa : TEq) (ql qh : TOq) : TNq := fun env k x => qa env (fun y env1 => ql env1 (fun lo env2 => qh env2 (fun hi env3 => ∃ d, res env3 y = some d ∧ f d lo hi fun r => k r env3) x) x) x
theorem sm_sl {r : V → Option Int → Option Int → Hp → VK → Prop} {f : D → Option Int → Option Int → (Rv → Prop) → Prop} {t1 t2 : TO} {q1 q2 : TOq} (h : SlOp c.K r f) (ha : Sm c W ta qa) (hl : SmO c W t1 q1) (hh : SmO c W t2 q2) : SmN c W (tSl r ta t1 t2) (qSl f qa q1 q2) := by
  intro F P S b σ H env k x Q R hq hx hk
  refine ha F P S b σ H env _ x _ R hq hx fun S1 H1 env1 v y R1 e1 r1 h1 => ?_
  refine hl F P S1 b σ H1 env1 _ x _ R1 h1 (hx.mono e1) fun S2 H2 env2 lo R2 e2 h2 => ?_
  refine hh F P S2 b σ H2 env2 _ x _ R2 h2 (hx.mono (e1.trans e2)) fun S3 H3 env3 hi R3 e3 h3 => ?_
  obtain ⟨d, hd, hf⟩ := h3
  exact h S3 H3 v d lo hi _ Q R3.sh (R3.read (r1.mono (e2.trans e3).1) hd) hf (R3.out (e1.trans (e2.trans e3)) hk)
theorem qn_sl {lo hi : Option Expr} {r : V → Option Int → Option Int → Hp → VK → Prop} {f : D → Option Int → Option Int → (Rv → Prop) → Prop} {t1 t2 : TO} {q1 q2 : TOq} (hr : SlR X r) (h : SlOp X.K r f) (ha : QE X g W a ta qa) (hl : QO X g W lo t1 q1) (hh : QO X g W hi t2 q2) :
    QN X g W (.Subscript a (.Slice lo hi none p2) pos) (tSl r ta t1 t2) (qSl f qa q1 q2) := ⟨pe_slice hr ha.pe hl.po hh.po, fun N => sm_sl h (ha.sm N) (hl.sm N) (hh.sm N)⟩
end
/-! ### the operators -/
section
variable {K : Fg} {X : Cx}
/-- two ints -/
def fI2 (C : Int → Int → Prop) (h : Int → Int → D) : D → D → (D → Prop) → Prop
  | .int i, .int j, k => C i j ∧ k (h i j)
  | _, _, _ => False
theorem o_I {C : Int → Int → Prop} {gv : Int → Int → V} {h : Int → Int → D} (hs : ∀ i j, scalar (h i j) = some (gv i j)) : Op2 K (rI C gv) (fI2 C h) := by
  intro S H v u d e k Q _ a b hf hk
  cases a <;> cases b <;> first | exact hf.elim | skip
  exact ⟨_, _, rfl, rfl, hf.1, hk _ _ (Rep.scal (hs _ _)) hf.2⟩
theorem o_I0 {gv : Int → Int → V} {h : Int → Int → D} (hs : ∀ i j, scalar (h i j) = some (gv i j)) : Op2 K (rI0 gv) (fI2 (fun _ _ => True) h) := by
  intro S H v u d e k Q _ a b hf hk
  cases a <;> cases b <;> first | exact hf.elim | skip
  exact ⟨_, _, rfl, rfl, hk _ _ (Rep.scal (hs _ _)) hf.2⟩
def fSub := fI2 (fun _ _ => True) fun i j => .int (i - j)
def fMod := fI2 (fun _ j => 0 < j) fun i j => .int (i % j)
def fDiv := fI2 CDiv fun i j => .int (i / j)
def fDivW := fI2 CDivW fun i j => .int (i / j)
def fPow := fI2 CPow fun i j => .int (i ^ j.toNat)
def fLt := fI2 (fun _ _ => True) fun i j => .bl (decide (i < j))
def fLe := fI2 (fun _ _ => True) fun i j => .bl (decide (i ≤ j))
def fGt := fI2 (fun _ _ => True) fun i j => .bl (decide (j < i))
def fGe := fI2 (fun _ _ => True) fun i j => .bl (decide (j ≤ i))
theorem o_sub : Op2 K (rI0 fun i j => .int (i - j)) fSub := o_I0 fun _ _ => rfl
theorem o_mod : Op2 K (rI (fun _ j => 0 < j) fun i j => .int (i % j)) fMod := o_I fun _ _ => rfl
theorem o_div : Op2 K (rI CDiv fun i j => .int (i / j)) fDiv := o_I fun _ _ => rfl
theorem o_divW : Op2 K (rI CDivW fun i j => .int (i / j)) fDivW := o_I fun _ _ => rfl
theorem o_pow : Op2 K (rI CPow fun i j => .int (i ^ j.toNat)) fPow := o_I fun _ _ => rfl
theorem o_lt : Op2 K (rI0 fun i j => .bl (decide (i < j))) fLt := o_I0 fun _ _ => rfl
theorem o_le : Op2 K (rI0 fun i j => .bl (decide (i ≤ j))) fLe := o_I0 fun _ _ => rfl
theorem o_gt : Op2 K (rI0 fun i j => .bl (decide (j < i))) fGt := o_I0 fun _ _ => rfl
theorem o_ge : Op2 K (rI0 fun i j => .bl (decide (j ≤ i))) fGe := o_I0 fun _ _ => rfl
/-- + -/
def fAdd : D → D → (Rv → Prop) → Prop
  | .int i, .int j, k => k (.sh (.int (i + j)))
  | .str x, .str y, k => x.length + y.length ≤ 10000000 ∧ k (.sh (.str (x ++ y)))
  | .lst a, .lst b, k => a.length + b.length < 10000000 ∧ k (.own (.lst (a ++ b)))
  | _, _, _ => False
def rAddQ : R2 := fun x y H Q => (rI0 fun i j => .int (i + j)) x y H Q ∨ ((∃ i j, x = .str i ∧ y = .str j ∧ i.length + j.length ≤ sizeLine ∧ Q (.str (i ++ j)) H) ∨ rCat x y H Q)
theorem or_addQ : OpR X (binaryOp .Add) rAddQ := OpR.or op_add (OpR.or op_add_str op_cat)
theorem o_add : Op2R K rAddQ fAdd := by
  intro S H v u d e k Q _ a b hf o
  cases a with
  | int i =>
    cases b <;> first | exact hf.elim | skip
    exact .inl ⟨_, _, rfl, rfl, o.old _ _ (.int _) hf⟩
  | str x =>
    cases b <;> first | exact hf.elim | skip
    exact .inr (.inl ⟨_, _, rfl, rfl, size_of hf.1, o.old _ _ (.str _) hf.2⟩)
  | lst h r =>
    cases b <;> first | exact hf.elim | skip
    rename_i h2 r2
    refine .inr (.inr ⟨_, _, _, _, rfl, rfl, h, h2, by rw [r.length, r2.length]; exact size_of (Nat.le_of_lt hf.1), fun p hp => o.new p _ _ hp (.lst upd_same (r.append r2)) hf.2⟩)
  | _ => cases b <;> exact hf.elim
/-- * -/
def fMul : D → D → (Rv → Prop) → Prop
  | .int i, .int j, k => (CMul i j ∨ CMulW i j) ∧ k (.sh (.int (i * j)))
  | .lst a, .int j, k => -1000000000 ≤ j ∧ j ≤ 1000000000 ∧ a.length * j.toNat ≤ 10000000 ∧ k (.own (.lst (List.replicate j.toNat a).flatten))
  | _, _, _ => False
def rMulQ : R2 := fun x y H Q => (rI CMul fun i j => .int (i * j)) x y H Q ∨ ((rI CMulW fun i j => .int (i * j)) x y H Q ∨ rRep x y H Q)
theorem or_mulQ : OpR X (binaryOp .Mult) rMulQ := OpR.or op_mul (OpR.or op_mulW op_rep)
theorem Reps.flat {S : Hp} : ∀ (n : Nat) {vs : List V} {ds : List D}, Reps K S vs ds → Reps K S (List.replicate n vs).flatten (List.replicate n ds).flatten
  | 0, _, _, _ => by simp; exact .nil
  | n + 1, _, _, r => by
    rw [List.replicate_succ, List.replicate_succ, List.flatten_cons, List.flatten_cons]
    exact r.append (Reps.flat n r)
theorem o_mul : Op2R K rMulQ fMul := by
  intro S H v u d e k Q _ a b hf o
  cases a with
  | int i =>
    cases b <;> first | exact hf.elim | skip
    rcases hf.1 with h | h
    · exact .inl ⟨_, _, rfl, rfl, h, o.old _ _ (.int _) hf.2⟩
    · exact .inr (.inl ⟨_, _, rfl, rfl, h, o.old _ _ (.int _) hf.2⟩)
  | lst h r =>
    cases b <;> first | exact hf.elim | skip
    obtain ⟨h1, h2, h3, h4⟩ := hf
    refine .inr (.inr ⟨_, _, _, rfl, rfl, h, by omega, by omega, by rw [r.length]; exact size_of h3, fun p hp => o.new p _ _ hp (.lst upd_same (Reps.flat _ r)) h4⟩)
  | _ => cases b <;> exact hf.elim
/-- x[i] -/
def fIx : D → D → (D → Prop) → Prop
  | .lst a, .int i, k => ∃ d, atI a i = some d ∧ k d
  | .tup a, .int i, k => ∃ d, atI a i = some d ∧ k d
  | .scr a, .int i, k => ∃ n, atI a i = some n ∧ k (.int n)
  | .str z, .int i, k => ∃ c, z.length ≤ 10000000 ∧ atI z.cps.toList i = some c ∧ k (.str ⟨#[c]⟩)
  | _, _, _ => False
def rIxQ (K : Fg) : R2 := fun x y H Q => rIxL K x y H Q ∨ (rIxT K x y H Q ∨ rIxS x y H Q)
theorem ix_Q : IxR X (rIxQ X.K) := IxR.or ix_list (IxR.or ix_tup ix_str)
theorem atI_reps {S : Hp} {vs : List V} {ds : List D} {i : Int} {d : D} (r : Reps K S vs ds) (h : atI ds i = some d) : ∃ v, atI vs i = some v ∧ Rep K S v d := by
  unfold atI at h ⊢
  rw [r.length]
  cases e : ixN ds.length i with
  | none => rw [e] at h; cases h
  | some j =>
    rw [e] at h
    exact r.get h
theorem atI_map {α β : Type} (f : α → β) {xs : List α} {i : Int} {x : α} (h : atI xs i = some x) : atI (xs.map f) i = some (f x) := by
  unfold atI at h ⊢
  rw [List.length_map]
  cases e : ixN xs.length i with
  | none => rw [e] at h; cases h
  | some j =>
    rw [e] at h
    have h : xs[j]? = some x := h
    show (xs.map f)[j]? = some (f x)
    rw [List.getElem?_map, h]; rfl
theorem o_ix : Op2 K (rIxQ K) fIx := by
  intro S H v u d e k Q _ a b hf hk
  cases a with
  | lst h r =>
    cases b <;> first | exact hf.elim | skip
    obtain ⟨d, h1, h2⟩ := hf
    obtain ⟨w, h3, h4⟩ := atI_reps r h1
    exact .inl ⟨_, _, _, w, rfl, rfl, SqL.of h, h3, hk w d h4 h2⟩
  | scr h =>
    cases b <;> first | exact hf.elim | skip
    obtain ⟨n, h1, h2⟩ := hf
    exact .inl ⟨_, _, _, _, rfl, rfl, h, atI_map V.int h1, hk _ _ (.int n) h2⟩
  | tup h r =>
    cases b <;> first | exact hf.elim | skip
    obtain ⟨d, h1, h2⟩ := hf
    obtain ⟨w, h3, h4⟩ := atI_reps r h1
    exact .inr (.inl ⟨_, _, _, w, rfl, rfl, h, h3, hk w d h4 h2⟩)
  | str z =>
    cases b <;> first | exact hf.elim | skip
    obtain ⟨c, h1, h2, h3⟩ := hf
    exact .inr (.inr ⟨_, _, _, rfl, rfl, size_of h1, h2, hk _ _ (.str _) h3⟩)
  | _ => cases b <;> exact hf.elim
/-! ### == -/
mutual
def toP : D → PyData
  | .non => .none
  | .bl b => .bool b
  | .int i => .int i
  | .str x => .str x
  | .lst xs => .list (toPs xs)
  | .tup xs => .tuple (toPs xs)
  | .dct kvs => .dict (toPk kvs)
  | .scr ns => .list (ns.map .int)
def toPs : List D → List PyData
  | [] => []
  | x :: xs => toP x :: toPs xs
def toPk : List (Key × D) → List (PyData × PyData)
  | [] => []
  | (k, x) :: xs => ((match k with | .inl i => .int i | .inr s => .str s), toP x) :: toPk xs
end
theorem dp_ints {H : Hp} : ∀ (ns : List Int), DpAll K H (ns.map V.int) (ns.map PyData.int)
  | [] => .nil
  | n :: ns => .cons (.int n) (dp_ints ns)
mutual
theorem dp_rep {S H : Hp} (e : Same S H) : ∀ {v : V} {d : D}, Rep K S v d → (toP d).canLay0 = true → Dp K H v (toP d)
  | _, _, .non, _ => by unfold toP; exact .non
  | _, _, .bl b, _ => by unfold toP; exact .bl b
  | _, _, .int i, _ => by unfold toP; exact .int i
  | _, _, .str x, _ => by unfold toP; exact .str x
  | _, _, .lst h r, hc => by
    unfold toP at hc ⊢
    exact .lst (SqL.of (e _ _ h)) (dp_reps e r (by simpa [PyData.canLay0] using hc))
  | _, _, .scr h, _ => by unfold toP; exact .lst (e.seq h) (dp_ints _)
  | _, _, .tup h r, hc => by
    unfold toP at hc ⊢
    exact .tup (Same.sqt e h) (dp_reps e r (by simpa [PyData.canLay0] using hc))
  | _, _, .dct h r, hc => by unfold toP at hc; simp [PyData.canLay0] at hc
theorem dp_reps {S H : Hp} (e : Same S H) : ∀ {vs : List V} {ds : List D}, Reps K S vs ds → PyData.canLayAll0 (toPs ds) = true → DpAll K H vs (toPs ds)
  | _, _, .nil, _ => by unfold toPs; exact .nil
  | _, _, .cons h r, hc => by
    unfold toPs at hc ⊢
    simp only [PyData.canLayAll0, Bool.and_eq_true] at hc
    exact .cons (dp_rep e h hc.1) (dp_reps e r hc.2)
end
theorem dp_at {S H : Hp} (e : Same S H) {v : V} {d : D} (h : At K S H v d) (hc : (toP d).canLay0 = true) : Dp K H v (toP d) := by
  cases h with
  | non => unfold toP; exact .non
  | bl b => unfold toP; exact .bl b
  | int i => unfold toP; exact .int i
  | str x => unfold toP; exact .str x
  | lst h r =>
    unfold toP at hc ⊢
    exact .lst (SqL.of h) (dp_reps e r (by simpa [PyData.canLay0] using hc))
  | scr h => unfold toP; exact .lst h (dp_ints _)
  | tup h r =>
    unfold toP at hc ⊢
    exact .tup h (dp_reps e r (by simpa [PyData.canLay0] using hc))
  | dct h r => unfold toP at hc; simp [PyData.canLay0] at hc
theorem shaped_lay {d : PyData} (h : SeqAt.shaped d = true) : d.canLay0 = true := by
  unfold SeqAt.shaped at h
  rw [Bool.and_eq_true] at h
  exact h.1
def sEq : D → D → Option Bool
  | .int i, .int j => some (decide (i = j))
  | .str x, .str y => some (decide (x = y))
  | .bl x, .bl y => some (decide (x = y))
  | _, _ => none
def fEqB (neg : Bool) (d e : D) (k : D → Prop) : Prop := match sEq d e with
  | some c => k (.bl (if neg then !c else c))
  | none => SeqAt.shaped (toP d) = true ∧ SeqAt.shaped (toP e) = true ∧ k (.bl (if neg then !PyData.eqv (toP d) (toP e) else PyData.eqv (toP d) (toP e)))
def fEq := fEqB false
def fNe := fEqB true
def rEqQ (K : Fg) : R2 := fun x y H Q => rEq x y H Q ∨ rEqD K x y H Q
def rNeQ (K : Fg) : R2 := fun x y H Q => rNe x y H Q ∨ rNeD K x y H Q
theorem or_eqQ (hu : X.A.units + 64 < cLine) : OpR X (compareOp .Eq) (rEqQ X.K) := OpR.or op_eq (op_eqD hu)
theorem or_neQ (hu : X.A.units + 64 < cLine) : OpR X (compareOp .NotEq) (rNeQ X.K) := OpR.or op_ne (op_neD hu)
theorem sEq_scal {S H : Hp} {v u : V} {d e : D} {c : Bool} (a : At K S H v d) (b : At K S H u e) (h : sEq d e = some c) : scal v u = true ∧ decide (v = u) = c := by
  cases a <;> cases b <;> simp [sEq] at h <;> subst h <;> simp [scal]
theorem o_eq : Op2 K (rEqQ K) fEq := by
  intro S H v u d e k Q s a b hf hk
  unfold fEq fEqB at hf
  cases h : sEq d e with
  | some c =>
    rw [h] at hf
    obtain ⟨h1, h2⟩ := sEq_scal a b h
    exact .inl ⟨h1, by rw [h2]; exact hk _ _ (.bl c) hf⟩
  | none =>
    rw [h] at hf
    obtain ⟨h1, h2, h3⟩ := hf
    exact .inr ⟨_, _, dp_at s a (shaped_lay h1), dp_at s b (shaped_lay h2), h1, h2, hk _ _ (.bl _) h3⟩
theorem o_ne : Op2 K (rNeQ K) fNe := by
  intro S H v u d e k Q s a b hf hk
  unfold fNe fEqB at hf
  cases h : sEq d e with
  | some c =>
    rw [h] at hf
    obtain ⟨h1, h2⟩ := sEq_scal a b h
    exact .inl ⟨h1, by rw [h2]; exact hk _ _ (.bl _) hf⟩
  | none =>
    rw [h] at hf
    obtain ⟨h1, h2, h3⟩ := hf
    exact .inr ⟨_, _, dp_at s a (shaped_lay h1), dp_at s b (shaped_lay h2), h1, h2, hk _ _ (.bl _) h3⟩
/-- is None -/
def isNon : D → Bool
  | .non => true
  | _ => false
def fIs : D → D → (D → Prop) → Prop := fun d e k => isNon e = true ∧ k (.bl (isNon d))
def fIsNot : D → D → (D → Prop) → Prop := fun d e k => isNon e = true ∧ k (.bl (!isNon d))
theorem isNon_dec {S H : Hp} {v : V} {d : D} (a : At K S H v d) : decide (v = .non) = isNon d := by cases a <;> simp [isNon]
theorem isNon_eq {S H : Hp} {v : V} {d : D} (a : At K S H v d) (h : isNon d = true) : v = .non := by cases a <;> simp [isNon] at h <;> rfl
theorem o_is : Op2 K (fun x y H Q => y = .non ∧ Q (.bl (decide (x = .non))) H) fIs := by
  intro S H v u d e k Q s a b hf hk
  exact ⟨isNon_eq b hf.1, by rw [isNon_dec a]; exact hk _ _ (.bl _) hf.2⟩
theorem o_isNot : Op2 K (fun x y H Q => y = .non ∧ Q (.bl (!decide (x = .non))) H) fIsNot := by
  intro S H v u d e k Q s a b hf hk
  exact ⟨isNon_eq b hf.1, by rw [isNon_dec a]; exact hk _ _ (.bl _) hf.2⟩
/-! ### built-ins -/
def lenD : D → Option Nat
  | .lst a => some a.length
  | .tup a => some a.length
  | .scr a => some a.length
  | .str x => if x.length ≤ 10000000 then some x.length else none
  | _ => none
def fLen : List D → (D → Prop) → Prop
  | [d], k => ∃ n, lenD d = some n ∧ k (.int (n : Nat))
  | _, _ => False
theorem c_len : Cl K (fun xs H Q => ∃ x n, xs = [x] ∧ LenV K x H n ∧ Q (.int n) H) fLen := by
  intro S H vs ds k Q s a hf hk
  cases a with
  | nil => exact hf.elim
  | cons a r =>
    cases r with
    | cons _ _ => exact hf.elim
    | nil =>
      obtain ⟨n, h, hk2⟩ := hf
      refine ⟨_, n, rfl, ?_, hk _ _ (.int _) hk2⟩
      cases a with
      | lst h1 r => cases h; exact .inl ⟨_, SqL.of h1, r.length.symm⟩
      | scr h1 => cases h; exact .inl ⟨_, h1, by rw [List.length_map]⟩
      | tup h1 r => cases h; exact .inr ⟨_, h1, r.length.symm⟩
      | str x =>
        have h : (if x.length ≤ 10000000 then some x.length else none) = some n := h
        by_cases hl : x.length ≤ 10000000
        · rw [if_pos hl] at h
          cases h; exact ⟨size_of hl, rfl⟩
        · rw [if_neg hl] at h
          cases h
      | _ => cases h
def fMin : List D → (D → Prop) → Prop
  | [.int i, .int j], k => k (.int (if j < i then j else i))
  | _, _ => False
def fMax : List D → (D → Prop) → Prop
  | [.int i, .int j], k => k (.int (if j > i then j else i))
  | _, _ => False
theorem ats1 {S H : Hp} {vs : List V} {d : D} (h : Ats K S H vs [d]) : ∃ v, vs = [v] ∧ At K S H v d := by
  cases h with
  | cons h r => cases r; exact ⟨_, rfl, h⟩
theorem ats2 {S H : Hp} {vs : List V} {d e : D} (h : Ats K S H vs [d, e]) : ∃ v u, vs = [v, u] ∧ At K S H v d ∧ At K S H u e := by
  cases h with
  | cons h r =>
    obtain ⟨u, rfl, h2⟩ := ats1 r
    exact ⟨_, u, rfl, h, h2⟩
theorem c_min : Cl K (fun xs H Q => ∃ i j, xs = [.int i, .int j] ∧ Q (.int (if j < i then j else i)) H) fMin := by
  intro S H vs ds k Q s a hf hk
  unfold fMin at hf
  split at hf
  · obtain ⟨v, u, rfl, a1, a2⟩ := ats2 a
    cases a1; cases a2
    exact ⟨_, _, rfl, hk _ _ (.int _) hf⟩
  · exact hf.elim
theorem c_max : Cl K (fun xs H Q => ∃ i j, xs = [.int i, .int j] ∧ Q (.int (if j > i then j else i)) H) fMax := by
  intro S H vs ds k Q s a hf hk
  unfold fMax at hf
  split at hf
  · obtain ⟨v, u, rfl, a1, a2⟩ := ats2 a
    cases a1; cases a2
    exact ⟨_, _, rfl, hk _ _ (.int _) hf⟩
  · exact hf.elim
def fAbs : List D → (D → Prop) → Prop
  | [.int i], k => k (.int (if i < 0 then -i else i))
  | _, _ => False
theorem c_abs : Cl K (fun xs H Q => ∃ i, xs = [.int i] ∧ Q (.int (if i < 0 then -i else i)) H) fAbs := by
  intro S H vs ds k Q s a hf hk
  unfold fAbs at hf
  split at hf
  · obtain ⟨v, rfl, a1⟩ := ats1 a
    cases a1
    exact ⟨_, rfl, hk _ _ (.int _) hf⟩
  · exact hf.elim
def fInt : List D → (D → Prop) → Prop
  | [.int i], k => k (.int i)
  | [.bl b], k => k (.int (if b then 1 else 0))
  | _, _ => False
theorem c_int : Cl K (fun xs H Q => (∃ i, xs = [.int i] ∧ Q (.int i) H) ∨ ∃ k, xs = [.bl k] ∧ Q (.int (if k then 1 else 0)) H) fInt := by
  intro S H vs ds k Q s a hf hk
  unfold fInt at hf
  split at hf
  · obtain ⟨v, rfl, a1⟩ := ats1 a
    cases a1
    exact .inl ⟨_, rfl, hk _ _ (.int _) hf⟩
  · obtain ⟨v, rfl, a1⟩ := ats1 a
    cases a1
    exact .inr ⟨_, rfl, hk _ _ (.int _) hf⟩
  · exact hf.elim
def fAll : List D → (D → Prop) → Prop
  | [.lst ds], k => ∃ bs : List Bool, ds = bs.map .bl ∧ k (.bl (bs.all id))
  | _, _ => False
def fAny : List D → (D → Prop) → Prop
  | [.lst ds], k => ∃ bs : List Bool, ds = bs.map .bl ∧ k (.bl (bs.any id))
  | _, _ => False
theorem c_all : Cl K (rAll K) fAll := by
  intro S H vs ds k Q s a hf hk
  unfold fAll at hf
  split at hf
  · obtain ⟨bs, rfl, hk2⟩ := hf
    obtain ⟨v, rfl, a1⟩ := ats1 a
    cases a1 with
    | lst h r => exact ⟨_, bs, rfl, by rw [← r.bls]; exact SqL.of h, hk _ _ (.bl _) hk2⟩
  · exact hf.elim
theorem c_any : Cl K (rAny K) fAny := by
  intro S H vs ds k Q s a hf hk
  unfold fAny at hf
  split at hf
  · obtain ⟨bs, rfl, hk2⟩ := hf
    obtain ⟨v, rfl, a1⟩ := ats1 a
    cases a1 with
    | lst h r => exact ⟨_, bs, rfl, by rw [← r.bls]; exact SqL.of h, hk _ _ (.bl _) hk2⟩
  · exact hf.elim
def fSum : List D → (D → Prop) → Prop
  | [.lst ds], k => ∃ ns : List Int, ds = ns.map .int ∧ k (.int ns.sum)
  | _, _ => False
theorem c_sum : Cl K (rSum K) fSum := by
  intro S H vs ds k Q s a hf hk
  unfold fSum at hf
  split at hf
  · obtain ⟨bs, rfl, hk2⟩ := hf
    obtain ⟨v, rfl, a1⟩ := ats1 a
    cases a1 with
    | lst h r => exact ⟨_, bs, rfl, by rw [← r.ints]; exact SqL.of h, hk _ _ (.int _) hk2⟩
  · exact hf.elim
def fStr : List D → (D → Prop) → Prop
  | [.int i], k => i.natAbs.log2 < 1920 ∧ k (.str (toString i))
  | _, _ => False
theorem c_str : Cl K (fun xs H Q => ∃ i, xs = [.int i] ∧ i.natAbs.log2 < 1920 ∧ Q (.str (toString i)) H) fStr := by
  intro S H vs ds k Q s a hf hk
  unfold fStr at hf
  split at hf
  · obtain ⟨v, rfl, a1⟩ := ats1 a
    cases a1
    exact ⟨_, rfl, hf.1, hk _ _ (.str _) hf.2⟩
  · exact hf.elim
/-- list(x) -/
def fList : List D → (Rv → Prop) → Prop
  | [.lst ds], k => k (.own (.lst ds))
  | [.tup ds], k => k (.own (.lst ds))
  | [.scr ns], k => k (.own (.lst (ns.map .int)))
  | _, _ => False
theorem c_list : CbR K (fun xs H Q => ∃ p ys, xs = [.ref p] ∧ (SqL K H p ys ∨ SqT K H p ys) ∧ ∀ l, H l = none → Q (.ref l) (upd H l (.lst ys))) fList := by
  intro S H vs ds k Q s a hf o
  unfold fList at hf
  split at hf
  · obtain ⟨v, rfl, a1⟩ := ats1 a
    cases a1 with
    | lst h r => exact ⟨_, _, rfl, .inl (SqL.of h), fun l hl => o.new l _ _ hl (.lst upd_same r) hf⟩
  · obtain ⟨v, rfl, a1⟩ := ats1 a
    cases a1 with
    | tup h r => exact ⟨_, _, rfl, .inr h, fun l hl => o.new l _ _ hl (.lst upd_same r) hf⟩
  · obtain ⟨v, rfl, a1⟩ := ats1 a
    cases a1 with
    | scr h => exact ⟨_, _, rfl, .inl h, fun l hl => o.new l _ _ hl (.lst upd_same (Reps.of_ints _)) hf⟩
  · exact hf.elim
def fTuple : List D → (Rv → Prop) → Prop
  | [.lst ds], k => k (.sh (.tup ds))
  | _, _ => False
theorem c_tuple : CbR K (fun xs H Q => ∃ p ys, xs = [.ref p] ∧ ((SqL K H p ys ∧ ∀ l, H l = none → Q (.ref l) (upd H l (.tup ys))) ∨ (SqT K H p ys ∧ Q (.ref p) H))) fTuple := by
  intro S H vs ds k Q s a hf o
  unfold fTuple at hf
  split at hf
  · obtain ⟨v, rfl, a1⟩ := ats1 a
    cases a1 with
    | lst h r => exact ⟨_, _, rfl, .inl ⟨SqL.of h, fun l hl => o.tup l _ _ hl r hf⟩⟩
  · exact hf.elim
/-- x[lo:hi] -/
def cut {α : Type} (xs : List α) (lo hi : Option Int) : List α := (xs.drop (HT.sIx xs.length 0 lo)).take (HT.sIx xs.length xs.length hi - HT.sIx xs.length 0 lo)
def fSl : D → Option Int → Option Int → (Rv → Prop) → Prop
  | .lst ds, lo, hi, k => k (.own (.lst (cut ds lo hi)))
  | .scr ns, lo, hi, k => k (.own (.lst ((cut ns lo hi).map .int)))
  | .str z, lo, hi, k => z.length ≤ 10000000 ∧ k (.sh (.str (cutS z lo hi)))
  | .tup ds, lo, hi, k => ¬ (HT.sIx ds.length 0 lo = 0 ∧ HT.sIx ds.length ds.length hi = ds.length) ∧ k (.sh (.tup (cut ds lo hi)))
  | _, _, _, _ => False
def rSlQ (K : Fg) : V → Option Int → Option Int → Hp → VK → Prop := fun x lo hi H Q => rSlL K x lo hi H Q ∨ (rSlS x lo hi H Q ∨ rSlT K x lo hi H Q)
theorem sl_Q : SlR X (rSlQ X.K) := SlR.or sl_list (SlR.or sl_str sl_tup)
theorem reps_cut {S : Hp} {vs : List V} {ds : List D} (lo hi : Option Int) (r : Reps K S vs ds) : Reps K S (cutV vs lo hi) (cut ds lo hi) := by
  unfold cutV cut
  rw [r.length]
  exact (r.drop _).take _
theorem o_sl : SlOp K (rSlQ K) fSl := by
  intro S H v d lo hi k Q s a hf o
  cases a with
  | lst h r => exact .inl ⟨_, _, rfl, SqL.of h, fun p hp => o.new p _ _ hp (.lst upd_same (reps_cut lo hi r)) hf⟩
  | scr h =>
    refine .inl ⟨_, _, rfl, h, fun p hp => o.new p _ _ hp (.lst upd_same ?_) hf⟩
    have e : ∀ ns : List Int, (cut ns lo hi).map D.int = cut (ns.map D.int) lo hi := fun ns => by
      unfold cut
      rw [List.length_map, List.map_take, List.map_drop]
    rw [e]
    exact reps_cut lo hi (Reps.of_ints _)
  | str z => exact .inr (.inl ⟨_, rfl, size_of hf.1, o.old _ _ (.str _) hf.2⟩)
  | tup h r => exact .inr (.inr ⟨_, _, rfl, h, by rw [r.length]; exact hf.1, fun p hp => o.tup p _ _ hp (reps_cut lo hi r) hf.2⟩)
  | _ => exact hf.elim
end
end Q


set_option Elab.async false
set_option linter.all false
set_option maxRecDepth 100000
set_option maxHeartbeats 2000000
set_option autoImplicit false
/-! Q7: enumerate over lists and tuples. -/
namespace Q
open PySem PySem.Spec PyProof.Rows L2
open AutoSeq1 (wpAny_loadPart')

theorem meets_enumT (l : Addr) (items : Array Value) (n : Nat) (dct : Option Addr) (sl : Array (Option Value)) :
    Meets (Builtin.«enumerate.__new__» ⟨[.type "enumerate", .ref l], []⟩) (fun _ R s => s.heap.get? l = some { cls := .type "tuple", dict := dct, data := .seq items n, slots := sl } ∧
      R (.ok (.ret (.ref (s.heap.push { cls := .type "tuple_iterator", data := .fields #[.ref l, .int 0 0] }).objs.size)))
        { s with heap := (s.heap.push { cls := .type "tuple_iterator", data := .fields #[.ref l, .int 0 0] }).push { cls := .type "enumerate", data := .fields #[.none, .bool false, .ref s.heap.objs.size, rawInt 0, .none, .none] } }) :=
  .of_wp fun prog w A R s h => by
    obtain ⟨hp, g, d, tk, os⟩ := s
    obtain ⟨hl, h⟩ := h
    have hsub := sub_enumerate
    have hL : Heap.IsTuple (Shared.heap ⟨hp, g, d, tk, os⟩) l items := ⟨_, hl, rfl, n, rfl⟩
    wp_walk using wpAny_loadPart' hl
    refine wpAny_stack_any fun st => wpAny_pure ?_
    split
    · rename_i c _ _ _ _ _
      by_cases hc : (c == Value.type "enumerate") = true
      · simp only [hc]
        wp_walk using wpAny_loadPart' hl, wpAny_pyIter_tuple hL
        exact ⟨_, rfl, h⟩
      · simp only [hc]
        wp_walk using wpAny_loadPart' hl, wpAny_pyIter_tuple hL
        exact ⟨_, rfl, h⟩
    · wp_walk using wpAny_loadPart' hl, wpAny_pyIter_tuple hL
      exact ⟨_, rfl, h⟩
theorem call_enumT {prog : Program} {w : World} {A : Around} {E : Value → Shared → Prop} {s : Shared} {l : Addr} {items : Array Value} {Q : Value → Shared → Prop} (hL : s.heap.IsTuple l items)
    (h : ∀ h', IsEnum h' (s.heap.objs.size + 1) s.heap.objs.size 0 .none → h'.IsTupleIter s.heap.objs.size l 0 → (∀ b o, s.heap.get? b = some o → h'.get? b = some o) → Q (.ref (s.heap.objs.size + 1)) { s with heap := h' }) :
    wpAny (model prog w) A (call (.type "enumerate") [.ref l]) Q E s := by
  obtain ⟨⟨c, dct, dt, sl⟩, hl, hc, n, hd⟩ := hL
  obtain rfl : c = .type "tuple" := hc
  obtain rfl : dt = .seq items n := hd
  refine callType_new F.called_enumerate (by decide) (F.typeCall_enumerate_1 _) (F.newCall_enumerate_1 _) (fun obj => F.args_object_init_2 obj _) F.entry_enumerate_new (meets_enumT l items n dct sl) ⟨hl, ?_⟩
  have hz : (s.heap.push { cls := .type "tuple_iterator", data := .fields #[.ref l, .int 0 0] }).objs.size = s.heap.objs.size + 1 := Heap.size_push ..
  have he : IsEnum ((s.heap.push { cls := .type "tuple_iterator", data := .fields #[.ref l, .int 0 0] }).push { cls := .type "enumerate", data := .fields #[.none, .bool false, .ref s.heap.objs.size, rawInt 0, .none, .none] }) (s.heap.objs.size + 1) s.heap.objs.size 0 .none := by
    rw [← hz]
    exact Heap.get?_push_size _ rfl
  show _ ∧ _
  rw [hz]
  exact ⟨⟨_, he, rfl⟩, h _ he ⟨_, Heap.get?_push_of_some _ (Heap.get?_push_size _ rfl), rfl, rfl⟩ fun b o x => Heap.get?_push_of_some _ (Heap.get?_push_of_some _ x)⟩
theorem wpAny_pyNext_enum_endT {prog : Program} {w : World} {A : Around} {E : Value → Shared → Prop} {s : Shared} {e it t : Addr} {i : Nat} {items : Array Value} {old : Value} {Q : Option Value → Shared → Prop} (hh : A.handled = none) (he : IsEnum s.heap e it i old)
    (hit : s.heap.IsTupleIter it t i) (ht : s.heap.IsTuple t items) (hx : items[i]? = none) (hQ : ∀ h', Heap.ExtBut it s.heap h' → Q none { s with heap := h' }) : wpAny (model prog w) A (pyNext (.ref e)) Q E s := by
  have hT : s.TypeIs (.ref e) "enumerate" := ⟨_, he, rfl⟩
  unfold pyNext
  refine wpAny_bind (wpAny_attempt (wpAny_callSpecial?_slot (name := Str.ofString "__next__") hT F.slot_enumerate_next (wpAny_call_entry F.slot_enumerate_next hT F.entry_enumerate_next ?_ (F.args_enumerate_next_1 _))))
  show wpAny _ _ (field (.ref e) 2 >>= _) _ _ _
  refine wpAny_bind (wpAny_field he rfl (x := .ref it) rfl (wpAny_bind (wpAny_nextOf_tuple_end hh hit ht hx fun h' x he' hx' => ?_)))
  obtain ⟨o, ho, hc⟩ := hx'
  exact wpAny_bind (wpAny_isInstance (T := "StopIteration") (b := true) ⟨o, ho, hc⟩ isSubtype_stop (wpAny_pure (hQ _ he')))
/-- the tuple at a, each item in a new pair -/
def IteT (K : Fg) (a : Addr) : It :=
  ⟨fun i H => ∃ (xs : List V) (x : V), SqT K H a xs ∧ xs[i]? = some x, fun i H v H' => ∃ T x, v = .ref T ∧ H T = none ∧ H' = upd H T (.tup [.int (i : Nat), x]) ∧ ∀ xs, SqT K H a xs → xs[i]? = some x, fun i H => ∃ xs : List V, SqT K H a xs ∧ xs.length ≤ i⟩
theorem turn_enumT {P : Program} {w : World} {K : Fg} {elts : List Expr} {kk : Nat} {tpos : Pos} (a e it : Addr) :
    Turn P w K (.Tuple elts kk tpos) (IteT K a) [e, it] e (fun i h => (∃ old, IsEnum h e it ((i : Nat) : Int) old) ∧ h.IsTupleIter it a i ∧ e ≠ it ∧ a ≠ it ∧ e ≠ a) where
  mem := List.mem_cons_self
  obj := by
    rintro i h ⟨⟨old, he⟩, ⟨o, ho, hc, hd⟩, _⟩ b hb
    rcases List.mem_cons.mp hb with z | z
    · exact ⟨_, by rw [z]; exact he, fun v q => (by cases q)⟩
    · obtain rfl : b = it := by simpa using z
      exact ⟨o, ho, fun v q => by rw [hd] at q; cases q⟩
  keep := by
    rintro i h h' ⟨⟨old, he⟩, hi, hne⟩ k
    exact ⟨⟨old, k e (by simp) _ he⟩, hi.at fun o q => k it (by simp) o q, hne⟩
  item := by
    intro X hP hw hK hc i pins s σ H E I hf st hg
    subst hP hw hK
    obtain ⟨⟨old, he⟩, hit, hne, hai, hea⟩ := st
    obtain ⟨xs, x, hq, hx⟩ := hg
    obtain ⟨its, rv, p, hz⟩ := I.tuple hq
    obtain ⟨u, hu, ru⟩ := rv.get hx
    have hel : e < s.heap.objs.size := Heap.lt_size he
    have hil : it < s.heap.objs.size := by obtain ⟨_, q, _⟩ := hit; exact Heap.lt_size q
    have hu2 : its.toArray[i]? = some u := by simpa using hu
    have hlt : i < its.toArray.size := (Array.getElem?_eq_some_iff.mp hu2).1
    have pt : s.heap.IsTuple a its.toArray := p
    refine wpAny_pyNext_enum_itemD (Draws.tuple (show X.A.in1.handled = none from I.ok.hd hc) it a hai its.toArray) he ⟨hit, pt⟩ hlt hne (by simp [hne, hea]) fun x1 h' tk hx1 ho st1 hT hsz hk => ?_
    have ex : x1 = u := by
      have hx1 : its.toArray[i]? = some x1 := hx1
      rw [hu2] at hx1
      exact (Option.some.inj hx1).symm
    subst ex
    refine ⟨_, rfl, wpAny_letOwnedTupleGo_enum (s := { s with heap := h', toks := tk + 1 }) ho fun h'' he' sb => ?_⟩
    have hT2 : h''.get? s.heap.objs.size = some { cls := .type "tuple", data := .seq #[.int i tk, x1] } := (sb.2 _ (Nat.ne_of_gt hel)).trans hT
    have new : ObjOk X.prog X.w (upd H s.heap.objs.size (.tup [.int (i : Nat), x])) h'' s.heap.objs.size (.tup [.int (i : Nat), x]) :=
      ⟨show 2 ≤ sizeLine by decide, [.int i tk, x1], .cons ⟨_, rfl⟩ (.cons ru .nil), ⟨_, hT2, rfl, _, rfl⟩⟩
    have I1 : Inv X pins σ (upd H s.heap.objs.size (.tup [.int (i : Nat), x])) { s with heap := h'', toks := tk + 1 } :=
      I.turnedNew (ch := [e, it]) (fun b ob hb q => by
        have hb1 : b ≠ e := fun z => hb (by simp [z])
        have hb2 : b ≠ it := fun z => hb (by simp [z])
        exact (sb.2 b hb1).trans (hk b ob hb1 hb2 q)) hf (Nat.le_refl _) new
    refine ⟨.ref s.heap.objs.size, _, I1, rfl, ⟨_, x, rfl, I.hok.fresh (Nat.le_refl _), rfl, fun ys hy => by rw [I.tuple_inj hy hq]; exact hx⟩, ⟨⟨x1, ?_⟩, st1.1.at fun o q => (sb.2 it (Ne.symm hne)).trans q, hne, hai, hea⟩, fun b hb => ?_⟩
    · have e1 : ((i + 1 : Nat) : Int) = (i : Int) + 1 := by omega
      rw [e1]; exact he'
    · have hb' : b < s.heap.objs.size := by
        rcases List.mem_cons.mp hb with z | z
        · rw [z]; exact hel
        · rw [show b = it by simpa using z]; exact hil
      rw [upd_ne (Nat.ne_of_lt hb')]
      exact (hf b hb).1
  done := by
    intro X hP hw hK hc i pins s σ H E I hf st hg
    subst hP hw hK
    obtain ⟨⟨old, he⟩, hit, hne, hai, hea⟩ := st
    obtain ⟨xs, hq, hx⟩ := hg
    obtain ⟨its, rv, p, hz⟩ := I.tuple hq
    obtain ⟨f0, f1, f2, f3, f4, f5⟩ := hf it (by simp)
    have pt : s.heap.IsTuple a its.toArray := p
    have hl := rv.length
    have fin : ∀ h' : Heap, Heap.ExtBut it s.heap h' → (none : Option Value) = none ∧ Inv X pins σ H { s with heap := h' } := fun h' eb => ⟨rfl, I.turned (t' := s.toks) (fun b o hb q => eb b o hb q) f0 f1 f3 f4 f5⟩
    refine wpAny_pyNext_enum_endT (I.ok.hd hc) he hit pt (by simp; omega) fin
  self := fun A i s Q E st h => wpAny_pyIter_enum st.1.choose_spec h
def iEnumQ (K : Fg) (ta : TA) : TI := fun σ H R => ta σ H fun vs H1 => ∃ a, vs = [.ref a] ∧ (((∃ xs, SqL K H1 a xs) ∧ R (Ite K a) H1) ∨ ((∃ xs, SqT K H1 a xs) ∧ R (IteT K a) H1))
theorem pi_enumQ {X : Cx} {e : Expr} {ta : TA} {p pos tpos : Pos} {elts : List Expr} {kk : Nat} (hg : Gl X "enumerate") (hm : X.mg "enumerate" = none) (ha : PA X [e] ta) (hs : starEach [e] X.env = [(false, eval e X.env)]) : PI X (.Tuple elts kk tpos) (.Call (.Name "enumerate" p) [e] [] pos) (iEnumQ X.K ta) := by
  constructor
  intro pins s σ H R I h
  refine Call_ (ld_blt I hg hm boot_enumerate (PyProof.Rows.callWith_type1 (thn (ha.run pos pins s σ H _ I h) fun us s1 ⟨vs, H1, I1, r1, q1⟩ => ?_) hs rfl))
  obtain ⟨a, rfl, q⟩ := q1
  obtain ⟨u, rfl, r⟩ := vals1 r1
  obtain rfl : u = .ref a := r
  have fp : ∀ b ∈ [s1.heap.objs.size + 1, s1.heap.objs.size], FpOk X pins H1 b := fun b hb => by
    have hle : s1.heap.objs.size ≤ b := by
      rcases List.mem_cons.mp hb with z | z
      · rw [z]; exact Nat.le_add_right _ _
      · rw [show b = s1.heap.objs.size by simpa using z]; exact Nat.le_refl _
    exact I1.fpOk hle (I1.hok.fresh hle)
  rcases q with ⟨⟨xs, hq⟩, q⟩ | ⟨⟨xs, hq⟩, q⟩
  · obtain ⟨its, rv, p', hz⟩ := I1.list hq
    exact call_enumerate_list p'.isList fun h' he hit hsz hk => wpAny_pyIter_enum he ⟨s1.heap.objs.size + 1, [s1.heap.objs.size + 1, s1.heap.objs.size], _, _, H1, rfl, I1.kept (t' := s1.toks) hk, turn_enum a (s1.heap.objs.size + 1) s1.heap.objs.size, ⟨⟨.none, he⟩, hit, Nat.succ_ne_self _⟩, fp, q⟩
  · obtain ⟨its, rv, p', hz⟩ := I1.tuple hq
    have pt : s1.heap.IsTuple a its.toArray := p'
    have hal : a < s1.heap.objs.size := by obtain ⟨o, ho, _⟩ := pt; exact Heap.lt_size ho
    exact call_enumT pt fun h' he hit hk => wpAny_pyIter_enum he ⟨s1.heap.objs.size + 1, [s1.heap.objs.size + 1, s1.heap.objs.size], _, _, H1, rfl, I1.kept (t' := s1.toks) hk, turn_enumT a (s1.heap.objs.size + 1) s1.heap.objs.size, ⟨⟨.none, he⟩, hit, Nat.succ_ne_self _, Nat.ne_of_lt hal, Nat.ne_of_gt (Nat.lt_succ_of_lt hal)⟩, fp, q⟩
/-- the items with their places -/
def numbered : Nat → List D → List D
  | _, [] => []
  | i, d :: ds => .tup [.int (i : Nat), d] :: numbered (i + 1) ds
theorem numbered_length : ∀ (i : Nat) (ds : List D), (numbered i ds).length = ds.length
  | _, [] => rfl
  | i, d :: ds => congrArg (· + 1) (numbered_length (i + 1) ds)
theorem numbered_get : ∀ (i : Nat) (ds : List D) (j : Nat) (e : D), (numbered i ds)[j]? = some e → ∃ d, ds[j]? = some d ∧ e = .tup [.int ((i + j : Nat) : Int), d]
  | _, [], j, e, h => by simp [numbered] at h
  | i, d :: ds, 0, e, h => by
    simp [numbered] at h
    exact ⟨d, rfl, h.symm⟩
  | i, d :: ds, j + 1, e, h => by
    obtain ⟨d', h1, h2⟩ := numbered_get (i + 1) ds j e (by simpa [numbered] using h)
    refine ⟨d', by simpa using h1, ?_⟩
    rw [h2]
    have z : i + 1 + j = i + (j + 1) := by omega
    rw [z]
theorem walk_enum {K : Fg} {S1 H1 : Hp} {a : Addr} {ys : List V} {items : List D} {i : Nat} (h1 : SqL K H1 a ys) (r1 : Reps K S1 ys items) :
    (∀ d, (numbered 0 items)[i]? = some d → (Ite K a).go i H1 ∧ ∀ v H2, (Ite K a).yld i H1 v H2 → YldOk K S1 H1 v d H2) ∧ ((numbered 0 items).length ≤ i → (Ite K a).stop i H1) := by
  refine ⟨fun d hd => ?_, fun hl => ⟨ys, h1, by rw [r1.length]; rw [numbered_length] at hl; exact hl⟩⟩
  obtain ⟨d', hd', rfl⟩ := numbered_get 0 items i d hd
  obtain ⟨v, hv, hr⟩ := r1.get hd'
  refine ⟨⟨ys, v, h1, hv⟩, fun u H2 y => ?_⟩
  obtain ⟨T, x, rfl, hT, rfl, hx⟩ := y
  have := hx ys h1
  rw [hv] at this; cases this
  refine .inr ⟨T, _, _, rfl, rfl, hT, rfl, .cons ?_ (.cons hr .nil)⟩
  rw [Nat.zero_add]
  exact .int _
theorem walk_enumT {K : Fg} {S1 H1 : Hp} {a : Addr} {ys : List V} {items : List D} {i : Nat} (h1 : SqT K H1 a ys) (r1 : Reps K S1 ys items) :
    (∀ d, (numbered 0 items)[i]? = some d → (IteT K a).go i H1 ∧ ∀ v H2, (IteT K a).yld i H1 v H2 → YldOk K S1 H1 v d H2) ∧ ((numbered 0 items).length ≤ i → (IteT K a).stop i H1) := by
  refine ⟨fun d hd => ?_, fun hl => ⟨ys, h1, by rw [r1.length]; rw [numbered_length] at hl; exact hl⟩⟩
  obtain ⟨d', hd', rfl⟩ := numbered_get 0 items i d hd
  obtain ⟨v, hv, hr⟩ := r1.get hd'
  refine ⟨⟨ys, v, h1, hv⟩, fun u H2 y => ?_⟩
  obtain ⟨T, x, rfl, hT, rfl, hx⟩ := y
  have := hx ys h1
  rw [hv] at this; cases this
  refine .inr ⟨T, _, _, rfl, rfl, hT, rfl, .cons ?_ (.cons hr .nil)⟩
  rw [Nat.zero_add]
  exact .int _
theorem walks_enum {K : Fg} {F S H0 : Hp} {v : V} {d : D} {items : List D} (h : At K S H0 v d) (hi : dItems d = some items) (hs : ∀ S1 H1, Same S S1 → Same S1 H1 → Same F H1 → At K S1 H1 v d) :
    ∃ a, v = .ref a ∧ (((∃ xs, SqL K H0 a xs) ∧ Walks K F S (Ite K a) (numbered 0 items)) ∨ ((∃ xs, SqT K H0 a xs) ∧ Walks K F S (IteT K a) (numbered 0 items))) := by
  cases h with
  | non => cases hi
  | bl _ => cases hi
  | int _ => cases hi
  | str _ => cases hi
  | dct _ _ => cases hi
  | @lst a xs ds h r =>
    cases hi
    refine ⟨a, rfl, .inl ⟨⟨xs, SqL.of h⟩, fun i S1 H1 s1 s2 s3 => ?_⟩⟩
    cases hs S1 H1 s1 s2 s3 with
    | lst h1 r1 => exact walk_enum (SqL.of h1) r1
  | @scr a ns h =>
    cases hi
    refine ⟨a, rfl, .inl ⟨⟨_, h⟩, fun i S1 H1 s1 s2 s3 => ?_⟩⟩
    cases hs S1 H1 s1 s2 s3 with
    | scr h1 => exact walk_enum h1 (Reps.of_ints ns)
  | @tup a xs ds h r =>
    cases hi
    refine ⟨a, rfl, .inr ⟨⟨xs, h⟩, fun i S1 H1 s1 s2 s3 => ?_⟩⟩
    cases hs S1 H1 s1 s2 s3 with
    | tup h1 r1 => exact walk_enumT h1 r1
def qEnum (qe : TEq) : TIq := fun env k x => qe env (fun y env1 => ∃ items env2, itemsV env1 y = some (items, env2) ∧ k (numbered 0 items) env2) x
theorem qi_enum {X : Cx} {g : Gd} {W : WX} {e : Expr} {te : TE} {qe : TEq} {p pos tpos : Pos} {elts : List Expr} {kk : Nat} (hg : Gl X "enumerate") (hm : X.mg "enumerate" = none) (he : QE X g W e te qe) (hs : starEach [e] X.env = (false, eval e X.env) :: starEach [] X.env := by rfl) :
    QI X g W (.Tuple elts kk tpos) (.Call (.Name "enumerate" p) [e] [] pos) (iEnumQ X.K (tCons te tNil)) (qEnum qe) :=
  ⟨pi_enumQ hg hm (pa_cons he.pe pa_nil hs) hs, fun N F P S b σ H env k x R Rl hq hx hk => by
    refine he.sm N F P S b σ H env _ x _ Rl hq hx fun S1 H1 env1 v y R1 e1 r1 h1 => ?_
    obtain ⟨items, env2, hi, h2⟩ := h1
    obtain ⟨S2, d, R2, e2, hd, ha, hw⟩ := itemsV_ok R1 r1 hi
    obtain ⟨a, rfl, z⟩ := walks_enum (F := F) ha hd hw
    refine ⟨a, rfl, ?_⟩
    rcases z with ⟨z1, z3⟩ | ⟨z1, z3⟩
    · exact .inl ⟨z1, hk S2 H1 env2 _ _ R2 (e1.trans e2) z3 h2⟩
    · exact .inr ⟨z1, hk S2 H1 env2 _ _ R2 (e1.trans e2) z3 h2⟩⟩
end Q


set_option Elab.async false
set_option linter.all false
set_option maxRecDepth 100000
set_option maxHeartbeats 2000000
set_option autoImplicit false
/-! Q8: isinstance, repr, sets of ints, own objects written, dicts, raise. -/
namespace Q
open PySem PySem.Spec PyProof.Rows L2

/-! ### isinstance -/
def tyN : D → String
  | .non => "NoneType"
  | .bl _ => "bool"
  | .int _ => "int"
  | .str _ => "str"
  | .lst _ => "list"
  | .scr _ => "list"
  | .tup _ => "tuple"
  | .dct _ => "dict"
def isTy (T : String) (d : D) : Bool := tyN d == T || (T == "int" && tyN d == "bool")
theorem tyX_at {K : Fg} {S H : Hp} {v : V} {d : D} (a : At K S H v d) : TyX K H v (.type (tyN d)) := by
  have sq : ∀ {a : Addr} {xs : List V}, SqL K H a xs → TyX K H (.ref a) (.type "list") := fun {a xs} h => by
    rcases h with (h | ⟨o, h⟩) | ⟨o, its, n, h1, h2, _⟩
    · exact .base (.lst h)
    · exact .base (.frz h)
    · exact .kList h1 h2
  cases a with
  | non => exact .base .non
  | bl b => exact .base (.bl b)
  | int i => exact .base (.int i)
  | str x => exact .base (.str x)
  | lst h r => exact .base (.lst h)
  | scr h => exact sq h
  | tup h r =>
    rcases h with (h | ⟨o, h⟩) | ⟨o, its, n, h1, h2, _⟩
    · exact .base (.tup h)
    · exact .fTuple h
    · exact .kTuple h1 h2
  | dct h r =>
    rcases h with h | ⟨o, h⟩
    · exact .base (.dK h)
    · exact .fDict h
/-- the types that are asked for -/
def tyAsked (T : String) : Bool := T == "int" || T == "bool" || T == "str" || T == "list" || T == "tuple" || T == "dict"
theorem kit_tab : (["NoneType", "bool", "int", "str", "list", "tuple", "dict"].all fun a => ["int", "bool", "str", "list", "tuple", "dict"].all fun T => decide (kitB a T = some (a == T || (T == "int" && a == "bool")))) = true := by decide +kernel
theorem kit_at {K : Fg} {T : String} (h : tyAsked T = true) (d : D) : PySem.W.kitOne K (.type (tyN d)) (.type T) = some (isTy T d) := by
  refine kit_ty ?_
  have hT : T ∈ ["int", "bool", "str", "list", "tuple", "dict"] := by
    unfold tyAsked at h
    simp only [Bool.or_eq_true, beq_iff_eq] at h
    simp only [List.mem_cons, List.not_mem_nil, or_false]
    rcases h with ((((h | h) | h) | h) | h) | h <;> simp [h]
  have hd : tyN d ∈ ["NoneType", "bool", "int", "str", "list", "tuple", "dict"] := by cases d <;> simp [tyN]
  have z := List.all_eq_true.mp (List.all_eq_true.mp kit_tab _ hd) _ hT
  exact of_decide_eq_true z
section
variable {X : Cx} {g : Gd} {W : WX} {e a b : Expr} {es : List Expr} {te ta : TE} {tl : TA} {qe qa : TEq} {ql : TAq} {pos p p1 p2 p3 : Pos} {c : Cg}
def qIsi (T : String) (qe : TEq) : TEq := fun env k x => qe env (fun y env1 => ∃ d, res env1 y = some d ∧ k (.d (.bl (isTy T d))) env1) x
theorem q_isi {T : String} {Tn : Str} (hg : Gl X "isinstance") (hm : X.mg "isinstance" = none) (hg2 : Gl X Tn) (hm2 : X.mg Tn = none) (hv2 : bootBuiltins Tn = some (.type T)) (hT : tyAsked T = true) (he : QE X g W e te qe) (hn : Tn ≠ "__name__" := by decide) (hd : (Tn == ("__debug__" : Str)) = false := by decide)
    (hs : starEach [e, .Name Tn p2] X.env = (false, eval e X.env) :: starEach [.Name Tn p2] X.env := by rfl) : QE X g W (.Call (.Name "isinstance" p) [e, .Name Tn p2] [] pos) (tCB (rIsi X.K) (tCons te (tCons (tC (.ty T)) tNil))) (qIsi T qe) :=
  ⟨pe_callB call_isi hg hm (by decide +kernel) (pa_cons he.pe (pa_cons (pe_bltn (v := .ty T) hg2 hm2 hv2 rfl hn hd) pa_nil) hs) (by decide) (by decide) hs, fun N F P S b σ H env k x Q R hq hx hk => by
    refine he.sm N F P S b σ H env _ x _ R hq hx fun S1 H1 env1 v y R1 e1 r1 h1 => ?_
    obtain ⟨d, hd, h2⟩ := h1
    exact ⟨v, .ty T, _, _, _, rfl, .ty T, tyX_at (R1.read r1 hd), kit_at hT d, hk S1 H1 env1 _ (.d _) R1 e1 (Rep.bl _) h2⟩⟩
def qIsi2 (T U : String) (qe : TEq) : TEq := fun env k x => qe env (fun y env1 => ∃ d, res env1 y = some d ∧ k (.d (.bl (isTy T d || isTy U d))) env1) x
theorem q_isi2 {T U : String} {Tn Un : Str} {j : Nat} {pt : Pos} (hg : Gl X "isinstance") (hm : X.mg "isinstance" = none) (hg2 : Gl X Tn) (hm2 : X.mg Tn = none) (hv2 : bootBuiltins Tn = some (.type T)) (hT : tyAsked T = true) (hg3 : Gl X Un) (hm3 : X.mg Un = none) (hv3 : bootBuiltins Un = some (.type U)) (hU : tyAsked U = true)
    (he : QE X g W e te qe) (hn : Tn ≠ "__name__" := by decide) (hd : (Tn == ("__debug__" : Str)) = false := by decide) (hn3 : Un ≠ "__name__" := by decide) (hd3 : (Un == ("__debug__" : Str)) = false := by decide)
    (hs : starEach [e, .Tuple [.Name Tn p2, .Name Un p3] j pt] X.env = (false, eval e X.env) :: starEach [.Tuple [.Name Tn p2, .Name Un p3] j pt] X.env := by rfl) :
    QE X g W (.Call (.Name "isinstance" p) [e, .Tuple [.Name Tn p2, .Name Un p3] j pt] [] pos) (tCB (rIsiT X.K) (tCons te (tCons (tTup (tCons (tC (.ty T)) (tCons (tC (.ty U)) tNil))) tNil))) (qIsi2 T U qe) :=
  ⟨pe_callB call_isiT hg hm (by decide +kernel) (pa_cons he.pe (pa_cons (pe_tup (pa_cons (pe_bltn (v := .ty T) hg2 hm2 hv2 rfl hn hd) (pa_cons (pe_bltn (v := .ty U) hg3 hm3 hv3 rfl hn3 hd3) pa_nil))) pa_nil) hs) (by decide) (by decide) hs, fun N F P S b σ H env k x Q R hq hx hk => by
    refine he.sm N F P S b σ H env _ x _ R hq hx fun S1 H1 env1 v y R1 e1 r1 h1 => ?_
    obtain ⟨d, hd, h2⟩ := h1
    refine ⟨show 2 ≤ sizeLine by decide, fun tp htp => ?_⟩
    have R2 := R1.alloc (o := .tup [.ty T, .ty U]) htp
    have k1 := kit_at (K := X.K) hT d
    have k2 := kit_at (K := X.K) hU d
    refine ⟨v, tp, _, _, _, isTy T d || isTy U d, rfl, upd_same, .cons (.ty T) (.cons (.ty U) .nil), tyX_at (R2.read r1 hd), kitAny_cons k1 (fun h => ?_) (fun h => by rw [h]; rfl), hk S1 _ env1 _ (.d _) R2 e1 (Rep.bl _) h2⟩
    rw [h, Bool.false_or]
    exact kitAny_cons k2 (fun h => by rw [h]; rfl) fun h => h⟩
/-! ### repr -/
mutual
/-- a datum as it lies in the heap; no dict of it is the table of modules -/
inductive RdN (h : Heap) : Value → PyData → Prop
  | none : RdN h .none .none
  | bool (b : Bool) : RdN h (.bool b) (.bool b)
  | int (i : Int) (t : Tok) : RdN h (.int i t) (.int i)
  | str (x : Str) (t : Tok) : RdN h (.str x t) (.str x)
  | list {a : Addr} {o : Obj} {vs : Array Value} {n : Nat} {xs : List PyData} : h.get? a = some o → o.cls = .type "list" → o.data = .seq vs n → RdNs h vs.toList xs → RdN h (.ref a) (.list xs)
  | tuple {a : Addr} {o : Obj} {vs : Array Value} {n : Nat} {xs : List PyData} : h.get? a = some o → o.cls = .type "tuple" → o.data = .seq vs n → RdNs h vs.toList xs → RdN h (.ref a) (.tuple xs)
  | dict {a : Addr} {o : Obj} {es : Array DictEntry} {n : Nat} {kvs : List (PyData × PyData)} : h.get? a = some o → o.cls = .type "dict" → o.data = .dict es n → (a == sysModules) = false →
      RdNs h (es.toList.map (·.key)) (kvs.map (·.1)) → RdNs h (es.toList.map (·.val)) (kvs.map (·.2)) → RdN h (.ref a) (.dict kvs)
inductive RdNs (h : Heap) : List Value → List PyData → Prop
  | nil : RdNs h [] []
  | cons {v : Value} {vs : List Value} {d : PyData} {ds : List PyData} : RdN h v d → RdNs h vs ds → RdNs h (v :: vs) (d :: ds)
end
section
variable {h₀ : Heap} {prog : Program} {w : World}
mutual
theorem RdN.reads : ∀ {v : Value} {d : PyData}, RdN h₀ v d → ∃ as, Reads h₀ v d as
  | _, _, .none => ⟨_, .none⟩
  | _, _, .bool b => ⟨_, .bool b⟩
  | _, _, .int i t => ⟨_, .int i t⟩
  | _, _, .str x t => ⟨_, .str x t⟩
  | _, _, .list h1 h2 h3 h4 => let ⟨_, r⟩ := RdNs.reads h4; ⟨_, .list h1 h2 h3 r⟩
  | _, _, .tuple h1 h2 h3 h4 => let ⟨_, r⟩ := RdNs.reads h4; ⟨_, .tuple h1 h2 h3 r⟩
  | _, _, .dict h1 h2 h3 _ h4 h5 => let ⟨_, r⟩ := RdNs.reads h4; let ⟨_, r2⟩ := RdNs.reads h5; ⟨_, .dict h1 h2 h3 r r2⟩
theorem RdNs.reads : ∀ {vs : List Value} {ds : List PyData}, RdNs h₀ vs ds → ∃ as, ReadsAll h₀ vs ds as
  | _, _, .nil => ⟨_, .nil⟩
  | _, _, .cons r rs => let ⟨_, r⟩ := RdN.reads r; let ⟨_, r2⟩ := RdNs.reads rs; ⟨_, .cons r r2⟩
end
mutual
theorem RdN.shows : ∀ {v : Value} {d : PyData}, RdN h₀ v d → d.showable = true → d.shown.length ≤ sizeLine → ∃ bs, ReadAtMost h₀ d.depth bs ∧ ReprK prog w bs h₀ d.depth v d.shown
  | _, _, .none, _, _ => ⟨[], (fun _ h => nomatch h), by simp only [PyData.shown]; exact .of_is ReprIs.none _ _ _⟩
  | _, _, .bool b, _, _ => ⟨[], (fun _ h => nomatch h), by simp only [PyData.shown]; exact .of_is (ReprIs.bool b) _ _ _⟩
  | _, _, .int i t, hs, _ => ⟨[], (fun _ h => nomatch h), by simp only [PyData.shown]; exact .of_is (ReprIs.int t (by simpa [PyData.showable] using hs)) _ _ _⟩
  | _, _, .str x t, _, hz => ⟨[], (fun _ h => nomatch h), by simp only [PyData.shown]; exact .of_is (ReprIs.str x t (by simpa only [PyData.shown] using hz)) _ _ _⟩
  | _, _, .list (a := a) (vs := vs) (xs := xs) h1 h2 h3 h4, hs, hz => by
    have hz' : (listText (PyData.shownAll xs)).length ≤ sizeLine := by simpa only [PyData.shown] using hz
    obtain ⟨bs, hb, hk⟩ := RdNs.shows h4 (by simpa [PyData.showable] using hs) (fun t ht => Nat.le_trans (listText_mem_le ht) hz')
    obtain ⟨_, r⟩ := RdN.reads (.list h1 h2 h3 h4)
    have hna : a ∉ bs := not_mem_of_deeper r (by simp only [PyData.depth]; omega) hb
    refine ⟨a :: bs, ReadAtMost.cons r (by simp only [PyData.depth]; omega) hb, ?_⟩
    simp only [PyData.depth, PyData.shown]
    obtain ⟨l⟩ := vs
    cases l with
    | nil =>
      have h4' : RdNs h₀ [] xs := h4
      cases h4'
      simp only [PyData.shownAll, listText_nil]
      exact ReprK.listEmpty h1 h2 h3
    | cons x l => exact ReprK.list h1 h2 h3 hna (by simpa using hk.length_eq) (fun i y e => hk.item i y (by simpa using e))
  | _, _, .tuple (a := a) (xs := xs) h1 h2 h3 h4, hs, hz => by
    have hz' : (tupleText (PyData.shownAll xs)).length ≤ sizeLine := by simpa only [PyData.shown] using hz
    obtain ⟨bs, hb, hk⟩ := RdNs.shows h4 (by simpa [PyData.showable] using hs) (fun t ht => Nat.le_trans (tupleText_mem_le ht) hz')
    obtain ⟨_, r⟩ := RdN.reads (.tuple h1 h2 h3 h4)
    have hna : a ∉ bs := not_mem_of_deeper r (by simp only [PyData.depth]; omega) hb
    refine ⟨a :: bs, ReadAtMost.cons r (by simp only [PyData.depth]; omega) hb, ?_⟩
    simp only [PyData.depth, PyData.shown]
    exact ReprK.tuple h1 h2 h3 hna hk
  | _, _, .dict (a := a) (es := es) (kvs := kvs) h1 h2 h3 hsys h4 h5, hs, hz => by
    have hz' : (dictText (PyData.shownKv kvs)).length ≤ sizeLine := by simpa only [PyData.shown] using hz
    obtain ⟨hs1, hs2⟩ := PyData.showableKv_split kvs (by simpa [PyData.showable] using hs)
    obtain ⟨b1, hb1, k1⟩ := RdNs.shows h4 hs1 (fun t ht => let ⟨p, hp, hl⟩ := PyData.shownKv_key_le kvs t ht; Nat.le_trans hl (Nat.le_trans (dictText_mem_le hp) hz'))
    obtain ⟨b2, hb2, k2⟩ := RdNs.shows h5 hs2 (fun t ht => let ⟨p, hp, hl⟩ := PyData.shownKv_val_le kvs t ht; Nat.le_trans hl (Nat.le_trans (dictText_mem_le hp) hz'))
    obtain ⟨_, r⟩ := RdN.reads (.dict h1 h2 h3 hsys h4 h5)
    have hb : ReadAtMost h₀ (PyData.depthKv kvs) (b1 ++ b2) := (hb1.mono (PyData.depthAll_keys_le kvs)).append (hb2.mono (PyData.depthAll_vals_le kvs))
    have hna : a ∉ b1 ++ b2 := not_mem_of_deeper r (by simp only [PyData.depth]; omega) hb
    refine ⟨a :: (b1 ++ b2), ReadAtMost.cons r (by simp only [PyData.depth]; omega) hb, ?_⟩
    simp only [PyData.depth, PyData.shown, PyData.shownKv_eq]
    exact ReprK.dict h1 h2 h3 hsys hna (ReprEntriesK.of_two es.toList _ _
      (k1.more_le (fun b hb => List.mem_append_left _ hb) (PyData.depthAll_keys_le kvs)) (k2.more_le (fun b hb => List.mem_append_right _ hb) (PyData.depthAll_vals_le kvs)))
theorem RdNs.shows : ∀ {vs : List Value} {ds : List PyData}, RdNs h₀ vs ds → PyData.showableAll ds = true → (∀ t ∈ PyData.shownAll ds, t.length ≤ sizeLine) →
    ∃ bs, ReadAtMost h₀ (PyData.depthAll ds) bs ∧ ReprAllK prog w bs h₀ (PyData.depthAll ds) vs (PyData.shownAll ds)
  | _, _, .nil, _, _ => ⟨[], (fun _ h => nomatch h), by simp only [PyData.shownAll]; exact .nil⟩
  | _, _, .cons (d := d) (ds := ds) r rs, hs, hz => by
    have hs' : d.showable = true ∧ PyData.showableAll ds = true := by simpa [PyData.showableAll] using hs
    obtain ⟨b1, hb1, k1⟩ := RdN.shows r hs'.1 (hz _ (by simp only [PyData.shownAll]; exact List.mem_cons_self ..))
    obtain ⟨b2, hb2, k2⟩ := RdNs.shows rs hs'.2 (fun t ht => hz t (by simp only [PyData.shownAll]; exact List.mem_cons_of_mem _ ht))
    refine ⟨b1 ++ b2, ?_, ?_⟩
    · intro b hm
      simp only [PyData.depthAll]
      rcases List.mem_append.mp hm with hm | hm
      · obtain ⟨d', as', r', hd'⟩ := hb1 b hm
        exact ⟨d', as', r', Nat.le_trans hd' (Nat.le_max_left _ _)⟩
      · obtain ⟨d', as', r', hd'⟩ := hb2 b hm
        exact ⟨d', as', r', Nat.le_trans hd' (Nat.le_max_right _ _)⟩
    · simp only [PyData.depthAll, PyData.shownAll]
      exact .cons ((k1.more fun b hb => List.mem_append_left _ hb).level_le (Nat.le_max_left _ _)) (k2.more_le (fun b hb => List.mem_append_right _ hb) (Nat.le_max_right _ _))
end
theorem repr_rdN {a : Addr} {d : PyData} {A : Around} {E : Value → Shared → Prop} {s : Shared} {Q : Value → Shared → Prop} (r : RdN s.heap (.ref a) d) (hs : d.showable = true) (hg : A.guards = some []) (hu : A.units + (d.depth + 1) < cLine)
    (hQ : ∀ h' u tk, (∀ b o, s.heap.get? b = some o → h'.get? b = some o) → Q (.str d.shown u) { s with heap := h', toks := tk }) (hsz : d.shown.length ≤ sizeLine) : wpAny (model prog w) A (call (.builtin "repr") [.ref a]) Q E s := by
  have hg1 : A.in1.guards = some [] := hg
  obtain ⟨as, rr⟩ := r.reads
  cases r with
  | list h1 h2 h3 h4 =>
    rename_i o vs n xs
    have hz' : (listText (PyData.shownAll xs)).length ≤ sizeLine := by simpa only [PyData.shown] using hsz
    obtain ⟨bs, hb, hk⟩ := RdNs.shows (prog := prog) (w := w) h4 (by simpa [PyData.showable] using hs) (fun t ht => Nat.le_trans (listText_mem_le ht) hz')
    have hna : a ∉ bs := not_mem_of_deeper rr (by simp only [PyData.depth]; omega) hb
    refine call_repr_slot (T := "list") (by omega) ⟨o, h1, h2⟩ F.slot_list_repr.toG ?_
    simp only [PyData.depth] at hu
    simp only [PyData.shown] at hQ
    obtain ⟨l⟩ := vs
    cases l with
    | nil =>
      have h4' : RdNs s.heap [] xs := h4
      cases h4'
      simp only [PyData.shownAll, listText_nil] at hQ
      exact call_list_repr_empty ⟨o, h1, h2⟩ h1 h3 ⟨_, _, rfl, hQ s.heap _ _ fun _ _ e => e⟩
    | cons x l =>
      exact call_list_reprK h1 h2 h3 hna (by simpa using hk.length_eq) (fun i y e => hk.item i y (by simpa using e)) hg1 (fun b _ => Clear.nil b) (by show A.units + 1 + _ < cLine; omega) (fun _ _ e => e) (fun h' u tk hk => ⟨_, _, rfl, hQ h' u tk hk⟩) hz'
  | tuple h1 h2 h3 h4 =>
    rename_i o vs n xs
    have hz' : (tupleText (PyData.shownAll xs)).length ≤ sizeLine := by simpa only [PyData.shown] using hsz
    obtain ⟨bs, hb, hk⟩ := RdNs.shows (prog := prog) (w := w) h4 (by simpa [PyData.showable] using hs) (fun t ht => Nat.le_trans (tupleText_mem_le ht) hz')
    have hna : a ∉ bs := not_mem_of_deeper rr (by simp only [PyData.depth]; omega) hb
    refine call_repr_slot (T := "tuple") (by omega) ⟨o, h1, h2⟩ F.slot_tuple_repr ?_
    simp only [PyData.depth] at hu
    simp only [PyData.shown] at hQ
    exact call_tuple_reprK h1 h2 h3 hna hk hg1 (fun b _ => Clear.nil b) (by show A.units + 1 + _ < cLine; omega) (fun _ _ e => e) (fun h' u tk hk => ⟨_, _, rfl, hQ h' u tk hk⟩) hz'
  | dict h1 h2 h3 hsys h4 h5 =>
    rename_i o es n kvs
    have hz' : (dictText (PyData.shownKv kvs)).length ≤ sizeLine := by simpa only [PyData.shown] using hsz
    obtain ⟨hs1, hs2⟩ := PyData.showableKv_split kvs (by simpa [PyData.showable] using hs)
    obtain ⟨b1, hb1, k1⟩ := RdNs.shows (prog := prog) (w := w) h4 hs1 (fun t ht => let ⟨p, hp, hl⟩ := PyData.shownKv_key_le kvs t ht; Nat.le_trans hl (Nat.le_trans (dictText_mem_le hp) hz'))
    obtain ⟨b2, hb2, k2⟩ := RdNs.shows (prog := prog) (w := w) h5 hs2 (fun t ht => let ⟨p, hp, hl⟩ := PyData.shownKv_val_le kvs t ht; Nat.le_trans hl (Nat.le_trans (dictText_mem_le hp) hz'))
    have hb : ReadAtMost s.heap (PyData.depthKv kvs) (b1 ++ b2) := (hb1.mono (PyData.depthAll_keys_le kvs)).append (hb2.mono (PyData.depthAll_vals_le kvs))
    have hna : a ∉ b1 ++ b2 := not_mem_of_deeper rr (by simp only [PyData.depth]; omega) hb
    refine call_repr_slot (T := "dict") (by omega) ⟨o, h1, h2⟩ F.slot_dict_repr ?_
    simp only [PyData.depth] at hu
    simp only [PyData.shown, PyData.shownKv_eq] at hQ
    exact call_dict_reprK h1 h2 h3 hsys hna (ReprEntriesK.of_two es.toList _ _
      (k1.more_le (fun b hb => List.mem_append_left _ hb) (PyData.depthAll_keys_le kvs)) (k2.more_le (fun b hb => List.mem_append_right _ hb) (PyData.depthAll_vals_le kvs))) hg1 (fun b _ => Clear.nil b) (by show A.units + 1 + _ < cLine; omega) (fun _ _ e => e) (fun h' u tk hk => ⟨_, _, rfl, hQ h' u tk hk⟩) (by rw [← PyData.shownKv_eq]; exact hz')
end
mutual
def plainD : D → Bool
  | .lst xs => plainDs xs
  | .tup xs => plainDs xs
  | .dct kvs => plainKs kvs
  | _ => true
def plainDs : List D → Bool
  | [] => true
  | x :: xs => plainD x && plainDs xs
def plainKs : List (Key × D) → Bool
  | [] => true
  | (_, x) :: xs => plainD x && plainKs xs
end
mutual
/-- a datum over the tracked objects -/
inductive Dn (K : Fg) (H : Hp) : V → PyData → Prop
  | non : Dn K H .non .none
  | bl (b : Bool) : Dn K H (.bl b) (.bool b)
  | int (i : Int) : Dn K H (.int i) (.int i)
  | str (x : Str) : Dn K H (.str x) (.str x)
  | lst {a : Addr} {xs : List V} {ds : List PyData} : SqL K H a xs → Dns K H xs ds → Dn K H (.ref a) (.list ds)
  | tup {a : Addr} {xs : List V} {ds : List PyData} : SqT K H a xs → Dns K H xs ds → Dn K H (.ref a) (.tuple ds)
  | dct {a : Addr} {kvs : List (Key × V)} {ds : List (PyData × PyData)} : Rd H a (.dK kvs) → Dnk K H kvs ds → Dn K H (.ref a) (.dict ds)
inductive Dns (K : Fg) (H : Hp) : List V → List PyData → Prop
  | nil : Dns K H [] []
  | cons {v : V} {vs : List V} {d : PyData} {ds : List PyData} : Dn K H v d → Dns K H vs ds → Dns K H (v :: vs) (d :: ds)
inductive Dnk (K : Fg) (H : Hp) : List (Key × V) → List (PyData × PyData) → Prop
  | nil : Dnk K H [] []
  | cons {k : Key} {v : V} {vs : List (Key × V)} {d : PyData} {ds : List (PyData × PyData)} : Dn K H v d → Dnk K H vs ds → Dnk K H ((k, v) :: vs) (((match k with | .inl i => .int i | .inr s => .str s), d) :: ds)
end
theorem dns_ints {K : Fg} {H : Hp} : ∀ (ns : List Int), Dns K H (ns.map V.int) (ns.map PyData.int)
  | [] => .nil
  | n :: ns => .cons (.int n) (dns_ints ns)
mutual
theorem dq_rep {K : Fg} {S H : Hp} (e : Same S H) : ∀ {v : V} {d : D}, Rep K S v d → plainD d = true → Dn K H v (toP d)
  | _, _, .non, _ => by unfold toP; exact .non
  | _, _, .bl b, _ => by unfold toP; exact .bl b
  | _, _, .int i, _ => by unfold toP; exact .int i
  | _, _, .str x, _ => by unfold toP; exact .str x
  | _, _, .lst h r, hc => by
    unfold toP; unfold plainD at hc
    exact .lst (SqL.of (e _ _ h)) (dq_reps e r hc)
  | _, _, .scr h, _ => by unfold toP; exact .lst (e.seq h) (dns_ints _)
  | _, _, .tup h r, hc => by
    unfold toP; unfold plainD at hc
    exact .tup (Same.sqt e h) (dq_reps e r hc)
  | _, _, .dct h r, hc => by
    unfold toP; unfold plainD at hc
    exact .dct (Same.rd e h) (dq_repk e r hc)
theorem dq_reps {K : Fg} {S H : Hp} (e : Same S H) : ∀ {vs : List V} {ds : List D}, Reps K S vs ds → plainDs ds = true → Dns K H vs (toPs ds)
  | _, _, .nil, _ => by unfold toPs; exact .nil
  | _, _, .cons h r, hc => by
    unfold toPs; unfold plainDs at hc
    rw [Bool.and_eq_true] at hc
    exact .cons (dq_rep e h hc.1) (dq_reps e r hc.2)
theorem dq_repk {K : Fg} {S H : Hp} (e : Same S H) : ∀ {vs : List (Key × V)} {ds : List (Key × D)}, RepK K S vs ds → plainKs ds = true → Dnk K H vs (toPk ds)
  | _, _, .nil, _ => by unfold toPk; exact .nil
  | _, _, .cons h r, hc => by
    unfold toPk; unfold plainKs at hc
    rw [Bool.and_eq_true] at hc
    exact .cons (dq_rep e h hc.1) (dq_repk e r hc.2)
end
theorem dq_at {K : Fg} {S H : Hp} (e : Same S H) {v : V} {d : D} (h : At K S H v d) (hc : plainD d = true) : Dn K H v (toP d) := by
  cases h with
  | non => unfold toP; exact .non
  | bl b => unfold toP; exact .bl b
  | int i => unfold toP; exact .int i
  | str x => unfold toP; exact .str x
  | lst h r => unfold toP; unfold plainD at hc; exact .lst (SqL.of h) (dq_reps e r hc)
  | scr h => unfold toP; exact .lst h (dns_ints _)
  | tup h r => unfold toP; unfold plainD at hc; exact .tup h (dq_reps e r hc)
  | dct h r => unfold toP; unfold plainD at hc; exact .dct h (dq_repk e r hc)
section
variable {pins : List (Addr × Obj)} {σ : L2.St} {H : Hp} {s : Shared}
mutual
theorem Dn.rdn (I : Inv X pins σ H s) : ∀ {v : V} {d : PyData} {u : Value}, Dn X.K H v d → RelV v u → RdN s.heap u d
  | _, _, _, .non, r => by cases r; exact .none
  | _, _, _, .bl b, r => by cases r; exact .bool b
  | _, _, _, .int i, r => by obtain ⟨t, rfl⟩ := r; exact .int i t
  | _, _, _, .str x, r => by obtain ⟨t, rfl⟩ := r; exact .str x t
  | _, _, _, .lst h h2, r => by
    cases r
    obtain ⟨its, rv, pl, hz⟩ := I.list h
    obtain ⟨o, ho, hc, n, hd⟩ := pl.isList
    exact .list ho hc hd (Dns.rdn I h2 (by simpa using rv))
  | _, _, _, .tup h h2, r => by
    cases r
    obtain ⟨its, rv, pl, hz⟩ := I.tuple h
    obtain ⟨o, ho, hc, n, hd⟩ := pl
    exact .tuple ho hc hd (Dns.rdn I h2 (by simpa using rv))
  | _, _, _, .dct h h2, r => by
    cases r
    obtain ⟨_, hs0, vs, kv, o, es, ep, ho, hx, hdt, _, hp, _⟩ := h.ok I.hok
    obtain ⟨q1, q2⟩ := Dnk.rdn I h2 kv hp
    exact .dict ho hx.1 hdt hs0 q1 q2
theorem Dns.rdn (I : Inv X pins σ H s) : ∀ {vs : List V} {ds : List PyData} {us : List Value}, Dns X.K H vs ds → Vals vs us → RdNs s.heap us ds
  | _, _, _, .nil, r => by cases r; exact .nil
  | _, _, _, .cons h h2, r => by
    cases r with
    | cons r1 r2 => exact .cons (Dn.rdn I h r1) (Dns.rdn I h2 r2)
theorem Dnk.rdn (I : Inv X pins σ H s) : ∀ {kvs : List (Key × V)} {ds : List (PyData × PyData)} {vs : List (Key × Value)} {es : List DictEntry}, Dnk X.K H kvs ds → KV kvs vs → Pairs (mixKind X.prog X.w) es vs → RdNs s.heap (es.map (·.key)) (ds.map (·.1)) ∧ RdNs s.heap (es.map (·.val)) (ds.map (·.2))
  | _, _, _, _, .nil, kv, hp => by
    cases kv
    cases hp
    exact ⟨.nil, .nil⟩
  | _, _, _, _, .cons (k := k) h h2, kv, hp => by
    cases kv with
    | @cons _ p _ _ r1 kv =>
      cases hp with
      | @cons e _ _ _ e1 e2 hp =>
        obtain ⟨q1, q2⟩ := Dnk.rdn I h2 kv hp
        have r1 : k = p.1 ∧ RelV _ p.2 := r1
        have e1 : keyIs p.1 e.key = true := e1
        refine ⟨.cons ?_ q1, .cons ?_ q2⟩
        · rw [← r1.1] at e1
          rcases keyIs_shape e1 with ⟨i, t, rfl, z⟩ | ⟨x, t, rfl, z⟩
          · show RdN s.heap e.key (.int i)
            rw [z]; exact .int i t
          · show RdN s.heap e.key (.str x)
            rw [z]; exact .str x t
        · show RdN s.heap e.val _
          rw [e2]
          exact Dn.rdn I h r1.2
end
end
/-- what repr may be asked of -/
structure ShowOk (d : D) : Prop where
  plain : plainD d = true
  able : (toP d).showable = true
  deep : (toP d).depth ≤ 60
  small : (toP d).shown.length ≤ 10000000
def fRepr : List D → (D → Prop) → Prop
  | [d], k => ShowOk d ∧ k (.str (toP d).shown)
  | _, _ => False
def rRepr (K : Fg) : List V → Hp → VK → Prop := fun xs H Q => ∃ v d, xs = [v] ∧ Dn K H v d ∧ d.showable = true ∧ d.depth ≤ 60 ∧ d.shown.length ≤ sizeLine ∧ Q (.str d.shown) H
theorem call_repr (hgd : X.A.guards = some []) (hu : X.A.units + 64 < cLine) : CallR X (.builtin "repr") (rRepr X.K) := by
  intro pins s σ H xs us Q I rv h
  obtain ⟨v, d, rfl, hd, hs, h60, hz, q⟩ := h
  obtain ⟨u, rfl, ru⟩ := vals1 rv
  have r := Dn.rdn I hd ru
  cases r with
  | none => exact PySem.P.repr_of_none ⟨.str _, H, I.tok _, ⟨s.toks, by rw [PyData.shown_none]⟩, q⟩
  | bool b => exact PySem.P.repr_of_bool ⟨.str _, H, I.tok _, ⟨s.toks, by rw [PyData.shown_bool]⟩, q⟩
  | int i t =>
    refine PySem.P.repr_of_int ?_ ⟨.str _, H, I.tok _, ⟨s.toks, by rw [PyData.shown_int]⟩, q⟩
    simpa [PyData.showable] using hs
  | str x t => exact PySem.P.repr_of_str ⟨.str _, H, I.tok _, ⟨s.toks, by rw [PyData.shown_str]⟩, q⟩ (by rw [PyData.shown_str] at hz; exact hz)
  | list h1 h2 h3 h4 => exact repr_rdN (.list h1 h2 h3 h4) hs hgd (by omega) (fun h' u tk hk => ⟨.str _, H, I.kept hk, ⟨u, rfl⟩, q⟩) hz
  | tuple h1 h2 h3 h4 => exact repr_rdN (.tuple h1 h2 h3 h4) hs hgd (by omega) (fun h' u tk hk => ⟨.str _, H, I.kept hk, ⟨u, rfl⟩, q⟩) hz
  | dict h1 h2 h3 h4 h5 h6 => exact repr_rdN (.dict h1 h2 h3 h4 h5 h6) hs hgd (by omega) (fun h' u tk hk => ⟨.str _, H, I.kept hk, ⟨u, rfl⟩, q⟩) hz
theorem c_repr {K : Fg} : Cl K (rRepr K) fRepr := by
  intro S H vs ds k Q s a hf hk
  unfold fRepr at hf
  split at hf
  · obtain ⟨v, rfl, a1⟩ := ats1 a
    obtain ⟨o, hk2⟩ := hf
    exact ⟨v, _, rfl, dq_at s a1 o.plain, o.able, o.deep, size_of o.small, hk _ _ (.str _) hk2⟩
  · exact hf.elim
/-! ### len(set(ints)) -/
def dd (ns : List Int) : List Int := PyProof.Rows.firstMet (fun i => ns.getD i 0) ns.length
def tLenSetQ (K : Fg) (ta : TE) : TE := fun σ H Q => ta σ H fun x H1 => ∃ (l : Addr) (ns : List Int), x = .ref l ∧ SqL K H1 l (ns.map V.int) ∧ ns.length ≤ 4000 ∧ Q (.int ((dd ns).length : Nat)) H1
theorem pe_lenSetQ {q : Pos} (hg : Gl X "len") (hm : X.mg "len" = none) (hg2 : Gl X "set") (hm2 : X.mg "set" = none) (ha : PE X a ta) (hc : X.calm = true) (na : starEach [a] X.env = (false, eval a X.env) :: starEach [] X.env) :
    PE X (.Call (.Name "len" p) [.Call (.Name "set" p2) [a] [] q] [] pos) (tLenSetQ X.K ta) := by
  constructor
  intro pins s σ H Q I h
  refine Call_ (ld_blt I hg hm boot_len (PyProof.Rows.callWith_builtin1 (PyProof.Rows.args_cons (Call_ (ld_blt I hg2 hm2 boot_set ?_)) rfl) rfl rfl))
  refine PyProof.Rows.callWith_type1 (PyProof.Rows.args_cons (thn (ha.run pins s σ H _ I h) fun v s1 ⟨x, H1, I1, r1, q1⟩ => PyProof.Rows.args_nil ?_) na) na rfl
  obtain ⟨l, ns, rfl, hq, hl, q1⟩ := q1
  obtain rfl : v = .ref l := r1
  obtain ⟨its, r, pl, hz⟩ := I1.list hq
  have hlen : its.toArray.size = ns.length := by rw [List.size_toArray, ← r.length, List.length_map]
  refine call_set_list (I1.ok.hd hc) pl.isList (by rw [show its.toArray.toList = its by simp]; exact RZ.intsAre_vals r) (by rw [hlen]; unfold scanBound; omega) fun h' tk hS hk => PyProof.Rows.args_nil ?_
  rw [hlen] at hS
  obtain ⟨o, es, ep, t, ho, hex, hd, _, _, _, hf, hn⟩ := hS
  have I2 : Inv X pins σ H1 { s1 with heap := h', toks := tk } := I1.kept fun b o e => hk b o (Heap.lt_size e) e
  have hle : (dd ns).length ≤ ns.length := PyProof.Rows.firstMet_length_le _ _
  exact call_len_set ho hex hd hf (by
    rw [hn]
    have z : ((dd ns).length : Int) < 2 ^ 63 := by omega
    exact z) ⟨.int (dd ns).length, H1, I2.tok _, ⟨_, by rw [hn]; rfl⟩, q1⟩
def qLenSet (qa : TEq) : TEq := fun env k x => qa env (fun y env1 => ∃ ns : List Int, res env1 y = some (.lst (ns.map .int)) ∧ ns.length ≤ 4000 ∧ k (.d (.int ((dd ns).length : Nat))) env1) x
theorem q_lenSet {q : Pos} (hg : Gl X "len") (hm : X.mg "len" = none) (hg2 : Gl X "set") (hm2 : X.mg "set" = none) (ha : QE X g W a ta qa) (hc : X.calm = true := by rfl) (na : starEach [a] X.env = (false, eval a X.env) :: starEach [] X.env := by rfl) :
    QE X g W (.Call (.Name "len" p) [.Call (.Name "set" p2) [a] [] q] [] pos) (tLenSetQ X.K ta) (qLenSet qa) :=
  ⟨pe_lenSetQ hg hm hg2 hm2 ha.pe hc na, fun N F P S b σ H env k x Q R hq hx hk => by
    refine ha.sm N F P S b σ H env _ x _ R hq hx fun S1 H1 env1 v y R1 e1 r1 h1 => ?_
    obtain ⟨ns, hd, hl, h2⟩ := h1
    have z := R1.read r1 hd
    cases z with
    | lst h r => exact ⟨_, ns, rfl, by rw [← r.ints]; exact SqL.of h, hl, hk S1 H1 env1 _ (.d _) R1 e1 (Rep.int _) h2⟩⟩
/-! ### an own object is written by a method -/
def OwnM (K : Fg) (r : V → List V → Hp → VK → Prop) (f : D → List D → (D → D → Prop) → Prop) : Prop := ∀ (S H : Hp) (p : Addr) (d : D) (vs : List V) (ds : List D) (k : D → D → Prop) (Q : VK), Same S H → OwnAt K S H p d → S p = none → Reps K S vs ds → f d ds k →
  (∀ w z o d', Rep K S w z → OwnAt K S (upd H p o) p d' → k z d' → Q w (upd H p o)) → r (.ref p) vs H Q
def isL : D → Bool
  | .lst _ => true
  | _ => false
def qMeth (f : D → List D → (D → D → Prop) → Prop) (i : Nat) (ql : TAq) : TEq := fun env k x => (∃ d0, env[i]? = some (.own d0) ∧ isL d0 = true) ∧ ql env (fun ys env1 => ∃ ds env2 d, shs ys env1 = some (ds, env2) ∧ env2[i]? = some (.own d) ∧ f d ds fun z d' => k (.d z) (env2.set i (.own d'))) x
theorem sm_meth {i : Nat} {r : V → List V → Hp → VK → Prop} {f : D → List D → (D → D → Prop) → Prop} (h : OwnM c.K r f) (ha : SmA c W tl ql) : Sm c W (tBM c.K "list" r (tVar i) tl) (qMeth f i ql) := by
  intro F P S b σ H env k x Q R hq hx hk
  obtain ⟨⟨d0, h0, hL⟩, hq⟩ := hq
  obtain ⟨v, hv, hs⟩ := R.slot h0
  cases v with
  | none => exact hs.elim
  | some v =>
    obtain ⟨p, rfl, hp, hS, hb, ho⟩ := hs
    refine ⟨.ref p, hv, ?_, ?_⟩
    · cases ho with
      | lst h r => exact .inl ⟨rfl, _, SqL.of h⟩
      | dct h r => cases hL
    · refine ha F P S b σ H env _ x _ R hq hx fun S1 H1 env1 vs ys R1 e1 r1 h1 => ?_
      obtain ⟨ds, env2, d, hd, hi, hf⟩ := h1
      obtain ⟨S2, R2, e2, r2⟩ := shs_ok R1 r1 hd
      obtain ⟨a1, a2, a3, a4⟩ := R2.ownAt hv hi
      exact h S2 H1 p d vs ds _ Q R2.sh a4 a2 r2 hf fun w z o d' hz hn kz => hk S2 (upd H1 p o) _ w (.d z) (R2.write hv hi hn) (e1.trans e2) hz kz
theorem q_meth {m x : Str} {id : String} {i : Nat} {r : V → List V → Hp → VK → Prop} {f : D → List D → (D → D → Prop) → Prop} {apos cpos : Pos} (slot : Slot "list" m id) (hty : typeOf (.builtin id) = pure (.type "method_descriptor")) (hm : MtR X id r) (h : OwnM X.K r f) (hN : X.N[i]? = some x) (hv : Vis X.env.scope x) (ha : QA X g W (e :: es) tl ql)
    (hd : (x == ("__debug__" : Str)) = false := by decide) (hcd : (x == ("__classdict__" : Str)) = false := by decide)
    (hbase : attributeBase (.Name x p) m X.env (eval (.Name x p) X.env) = eval (.Name x p) X.env := by rfl)
    (hfew : ((backTo cpos (starEach (e :: es) X.env)).all (fun x => !x.1) && (backToKw cpos (keywordEach [] X.env)).all (fun x => x.1.isSome) && decide ((e :: es).length + ([] : List Keyword).length + (if ([] : List Keyword).isEmpty then 0 else 1) < 30)) = true := by rfl)
    (hline : (apos.endLine == cpos.line) = true := by rfl) (hs : starEach (e :: es) X.env = (false, eval e X.env) :: starEach es X.env := by rfl) (hplain : (backTo cpos (starEach es X.env)).any (·.1) = false := by rfl) :
    QE X g W (.Call (.Attribute (.Name x p) m apos) (e :: es) [] cpos) (tBM X.K "list" r (tVar i) tl) (qMeth f i ql) :=
  ⟨pe_bm PySem.F.plainAttrs_list slot hty hm (pe_var hN hv hd hcd) ha.pa hbase hfew hline hs hplain, fun N => sm_meth (c := cg X g N) h (ha.sm N)⟩
def qMeth0 (f : D → List D → (D → D → Prop) → Prop) (i : Nat) : TEq := fun env k x => ∃ d, env[i]? = some (.own d) ∧ isL d = true ∧ f d [] fun z d' => k (.d z) (env.set i (.own d'))
theorem q_meth0 {m x : Str} {id : String} {i : Nat} {r : V → List V → Hp → VK → Prop} {f : D → List D → (D → D → Prop) → Prop} {apos cpos : Pos} (slot : Slot "list" m id) (hty : typeOf (.builtin id) = pure (.type "method_descriptor")) (hm : MtR X id r) (h : OwnM X.K r f) (hN : X.N[i]? = some x) (hv : Vis X.env.scope x)
    (hd : (x == ("__debug__" : Str)) = false := by decide) (hcd : (x == ("__classdict__" : Str)) = false := by decide) (hbase : attributeBase (.Name x p) m X.env (eval (.Name x p) X.env) = eval (.Name x p) X.env := by rfl) (hline : (apos.endLine == cpos.line) = true := by rfl) :
    QE X g W (.Call (.Attribute (.Name x p) m apos) [] [] cpos) (tBM0 X.K "list" r (tVar i)) (qMeth0 f i) :=
  ⟨pe_bm0 PySem.F.plainAttrs_list slot hty hm (pe_var hN hv hd hcd) hbase hline, fun N F P S b σ H env k x Q R hq hx hk => by
    obtain ⟨d, hi, hL, hf⟩ := hq
    obtain ⟨v, hv, hs⟩ := R.slot hi
    cases v with
    | none => exact hs.elim
    | some v =>
      obtain ⟨p, rfl, hp, hS, hb, ho⟩ := hs
      refine ⟨.ref p, hv, ?_, ?_⟩
      · cases ho with
        | lst h r => exact .inl ⟨rfl, _, SqL.of h⟩
        | dct h r => cases hL
      · exact h S H p d [] [] _ Q R.sh ho hS .nil hf fun w z o d' hz hn kz => hk S (upd H p o) _ w (.d z) (R.write hv hi hn) Ext.refl hz kz⟩
end
section
variable {K : Fg}
def fAppend : D → List D → (D → D → Prop) → Prop
  | .lst ds, [e], k => ds.length < 10000000 ∧ k .non (.lst (ds ++ [e]))
  | _, _, _ => False
theorem reps1 {S : Hp} {vs : List V} {d : D} (h : Reps K S vs [d]) : ∃ v, vs = [v] ∧ Rep K S v d := by
  cases h with
  | cons h r => cases r; exact ⟨_, rfl, h⟩
theorem m_append : OwnM K rAppend fAppend := by
  intro S H p d vs ds k Q s o hp r hf hk
  unfold fAppend at hf
  split at hf
  · obtain ⟨v, rfl, r1⟩ := reps1 r
    cases o with
    | lst h r0 => exact ⟨p, _, v, rfl, rfl, h, by rw [r0.length]; exact size_lt hf.1, hk _ _ _ _ .non (.lst upd_same (r0.append (.cons r1 .nil))) hf.2⟩
  · exact hf.elim
def fPop : D → List D → (D → D → Prop) → Prop
  | .lst ds, [], k => ∃ e, ds[ds.length - 1]? = some e ∧ k e (.lst ds.dropLast)
  | _, _, _ => False
theorem Reps.dropLast {S : Hp} : ∀ {vs : List V} {ds : List D}, Reps K S vs ds → Reps K S vs.dropLast ds.dropLast := fun {vs ds} r => by
  rw [List.dropLast_eq_take, List.dropLast_eq_take, r.length]
  exact r.take _
theorem m_pop : OwnM K rPop fPop := by
  intro S H p d vs ds k Q s o hp r hf hk
  unfold fPop at hf
  split at hf
  · cases r
    obtain ⟨e, he, hf⟩ := hf
    cases o with
    | lst h r0 =>
      obtain ⟨y, hy, ry⟩ := r0.get he
      exact ⟨p, _, y, rfl, rfl, h, by rw [r0.length]; exact hy, hk _ _ _ _ ry (.lst upd_same r0.dropLast) hf⟩
  · exact hf.elim
def fPopAt : D → List D → (D → D → Prop) → Prop
  | .lst ds, [.int i], k => ds.length ≤ 10000000 ∧ ∃ j e, ixN ds.length i = some j ∧ ds[j]? = some e ∧ k e (.lst (ds.eraseIdx j))
  | _, _, _ => False
theorem m_popAt : OwnM K rPopAt fPopAt := by
  intro S H p d vs ds k Q s o hp r hf hk
  unfold fPopAt at hf
  split at hf
  · obtain ⟨v, rfl, r1⟩ := reps1 r
    cases r1
    obtain ⟨hl, j, e, hj, he, hf⟩ := hf
    cases o with
    | lst h r0 =>
      obtain ⟨y, hy, ry⟩ := r0.get he
      obtain ⟨z1, z2, z3, z4⟩ := ixN_seq hj
      exact ⟨p, _, _, j, y, rfl, rfl, h, by omega, by omega, by rw [r0.length]; exact z1, hy, hk _ _ _ _ ry (.lst upd_same (r0.eraseIdx j)) hf⟩
  · exact hf.elim
def fExtend : D → List D → (D → D → Prop) → Prop
  | .lst ds, [.lst es], k => ds.length + es.length < 10000000 ∧ k .non (.lst (ds ++ es))
  | _, _, _ => False
theorem m_extend : OwnM K rExtend fExtend := by
  intro S H p d vs ds k Q s o hp r hf hk
  unfold fExtend at hf
  split at hf
  · obtain ⟨v, rfl, r1⟩ := reps1 r
    cases r1 with
    | lst h1 r1 =>
      cases o with
      | lst h r0 => exact ⟨p, _, _, _, rfl, rfl, h, s _ _ h1, by rw [r0.length, r1.length]; exact size_of (Nat.le_of_lt hf.1), hk _ _ _ _ .non (.lst upd_same (r0.append r1)) hf.2⟩
  · exact hf.elim
def rInsert : V → List V → Hp → VK → Prop := fun x vs H Q => ∃ (l : Addr) (xs : List V) (i : Int) (y : V), x = .ref l ∧ vs = [.int i, y] ∧ H l = some (.lst xs) ∧ xs.length < sizeLine ∧ 0 ≤ i ∧ i < 2 ^ 63 ∧ Q .non (upd H l (.lst (xs.take i.toNat ++ [y] ++ xs.drop i.toNat)))
def fInsert : D → List D → (D → D → Prop) → Prop
  | .lst ds, [.int i, e], k => ds.length < 10000000 ∧ 0 ≤ i ∧ i < 1000000000 ∧ k .non (.lst (ds.take i.toNat ++ [e] ++ ds.drop i.toNat))
  | _, _, _ => False
theorem m_insert : OwnM K rInsert fInsert := by
  intro S H p d vs ds k Q s o hp r hf hk
  unfold fInsert at hf
  split at hf
  · cases r with
    | cons ri rr =>
      obtain ⟨v, rfl, r1⟩ := reps1 rr
      cases ri
      cases o with
      | lst h r0 => exact ⟨p, _, _, v, rfl, rfl, h, by rw [r0.length]; exact size_lt hf.1, hf.2.1, by omega, hk _ _ _ _ .non (.lst upd_same (((r0.take _).append (.cons r1 .nil)).append (r0.drop _))) hf.2.2.2⟩
  · exact hf.elim
end
end Q


set_option Elab.async false
set_option linter.all false
set_option maxRecDepth 100000
set_option maxHeartbeats 2000000
set_option autoImplicit false
/-! Q9: dicts, stores by place, raise, the law's own def. -/
namespace Q
open PySem PySem.Spec PyProof.Rows L2

/-! ### dicts -/
def keyD : D → Option Key
  | .int i => some (.inl i)
  | .str x => some (.inr x)
  | _ => none
def vD (kvs : List (Key × D)) (k : Key) : Option D := (kvs.find? fun kv => decide (kv.1 = k)).map (·.2)
def pD (kvs : List (Key × D)) (k : Key) (v : D) : List (Key × D) :=
  if (kvs.any fun kv => decide (kv.1 = k)) = true then kvs.map (fun kv => if kv.1 = k then (kv.1, v) else kv) else kvs ++ [(k, v)]
theorem vD_nil (k : Key) : vD [] k = none := rfl
theorem vD_cons (p : Key × D) (r : List (Key × D)) (k : Key) : vD (p :: r) k = if p.1 = k then some p.2 else vD r k := by
  unfold vD
  by_cases e : p.1 = k <;> simp [List.find?_cons, e]
theorem vD_any (k : Key) : ∀ kvs : List (Key × D), (kvs.any fun kv => decide (kv.1 = k)) = (vD kvs k).isSome
  | [] => rfl
  | p :: r => by
    rw [List.any_cons, vD_cons, vD_any k r]
    by_cases e : p.1 = k <;> simp [e]
theorem vD_put (kvs : List (Key × D)) (k j : Key) (v : D) : vD (pD kvs k v) j = if j = k then some v else vD kvs j := by
  have hm : ∀ l : List (Key × D), vD (l.map fun kv => if kv.1 = k then (kv.1, v) else kv) j = (vD l j).map fun x => if j = k then v else x := fun l => by
    induction l with
    | nil => rfl
    | cons p r ih =>
      rw [List.map_cons, vD_cons, vD_cons, ih]
      by_cases e : p.1 = k
      · by_cases e2 : p.1 = j
        · simp [e, ← e2]
        · have e3 : ¬ k = j := fun z => e2 (e.trans z)
          simp [e, e2, e3]
      · by_cases e2 : p.1 = j
        · have e3 : ¬ j = k := fun z => e (e2.trans z)
          simp [e, e2, e3]
        · simp [e, e2]
  have ha : ∀ l : List (Key × D), vD (l ++ [(k, v)]) j = match vD l j with | some x => some x | none => if k = j then some v else none := fun l => by
    induction l with
    | nil => rw [List.nil_append, vD_cons]; rfl
    | cons p r ih =>
      rw [List.cons_append, vD_cons, vD_cons, ih]
      by_cases e : p.1 = j <;> simp [e]
  unfold pD
  rw [vD_any]
  cases h : vD kvs k with
  | some y =>
    simp only [Option.isSome_some, if_true]
    rw [hm]
    by_cases e : j = k
    · subst e; rw [h]; simp
    · simp [e]
  | none =>
    simp only [Option.isSome_none]
    rw [if_neg Bool.false_ne_true, ha]
    by_cases e : j = k
    · subst e; simp [h]
    · have e2 : ¬ k = j := fun z => e z.symm
      simp [e, e2]
      cases vD kvs j <;> rfl
theorem pD_length (kvs : List (Key × D)) (k : Key) (v : D) : (pD kvs k v).length ≤ kvs.length + 1 := by
  unfold pD
  split
  · rw [List.length_map]; omega
  · simp
theorem keyV {K : Fg} {S H : Hp} {v : V} {d : D} {k : Key} (a : At K S H v d) (h : keyD d = some k) : v = kV k := by
  cases a <;> simp [keyD] at h <;> subst h <;> rfl
section
variable {K : Fg} {S : Hp}
theorem RepK.val (k : Key) : ∀ {kvs : List (Key × V)} {ds : List (Key × D)}, RepK K S kvs ds → (valV kvs k = none ∧ vD ds k = none) ∨ ∃ v d, valV kvs k = some v ∧ vD ds k = some d ∧ Rep K S v d
  | _, _, .nil => .inl ⟨rfl, rfl⟩
  | _, _, .cons (k := j) (v := v) (vs := vs) (d := d) (ds := ds) h r => by
    by_cases e : j = k
    · subst e
      exact .inr ⟨v, d, by rw [valV_pos rfl], by rw [vD_cons, if_pos rfl], h⟩
    · rw [valV_neg e, vD_cons, if_neg e]
      exact RepK.val k r
theorem RepK.append : ∀ {kvs kvs' : List (Key × V)} {ds ds' : List (Key × D)}, RepK K S kvs ds → RepK K S kvs' ds' → RepK K S (kvs ++ kvs') (ds ++ ds')
  | _, _, _, _, .nil, r => r
  | _, _, _, _, .cons h t, r => .cons h (t.append r)
theorem RepK.put {k : Key} {v : V} {d : D} (hv : Rep K S v d) {kvs : List (Key × V)} {ds : List (Key × D)} (r : RepK K S kvs ds) : RepK K S (putK kvs k v) (pD ds k d) := by
  have hm : ∀ {kvs : List (Key × V)} {ds : List (Key × D)}, RepK K S kvs ds → RepK K S (kvs.map fun kv => if kv.1 = k then (kv.1, v) else kv) (ds.map fun kv => if kv.1 = k then (kv.1, d) else kv) := by
    intro kvs
    induction kvs with
    | nil => intro ds r; cases r; exact .nil
    | cons p kvs ih =>
      intro ds r
      cases r with
      | @cons j v' _ d' ds' h t =>
        rw [List.map_cons, List.map_cons]
        by_cases e : j = k
        · rw [if_pos e, if_pos e]; exact .cons hv (ih t)
        · rw [if_neg e, if_neg e]; exact .cons h (ih t)
  unfold putK pD
  have e : (kvs.any fun kv => decide (kv.1 = k)) = (ds.any fun kv => decide (kv.1 = k)) := by
    rw [valV_any, vD_any]
    rcases r.val k with ⟨h1, h2⟩ | ⟨_, _, h1, h2, _⟩ <;> rw [h1, h2] <;> rfl
  rw [e]
  split
  · exact hm r
  · exact r.append (.cons hv .nil)
end
section
variable {X : Cx} {g : Gd} {W : WX} {e a b f : Expr} {es : List Expr} {te ta tb tc : TE} {tl : TA} {qe qa qb qc : TEq} {ql : TAq} {pos p : Pos} {c : Cg} {tn : TE} {qn : TNq}
def qDNew : TNq := fun env k _ => k (.own (.dct [])) env
theorem qn_dict : QN X g W (.Dict [] [] pos) tDNewK qDNew := ⟨pe_dnewK, fun N F P S b σ H env k x Q R hq _ hk => by
  intro p hp
  have n := R.new hp
  refine hk S _ env (.ref p) (.own (.dct [])) (R.alloc hp) Ext.refl ⟨p, rfl, n.1, n.2.1, n.2.2, .dct upd_same .nil⟩ (fun _ _ i e q hq => ?_) hq
  cases hq
  exact R.notOwn hp i e⟩
/-- d[k] -/
def qDGet (qd qk : TEq) : TEq := fun env k x => qd env (fun y env1 => qk env1 (fun z env2 => ∃ kvs key e, res env2 y = some (.dct kvs) ∧ (res env2 z).bind keyD = some key ∧ vD kvs key = some e ∧ k (.d e) env2) x) x
theorem res_bind {env : En} {z : Va} {key : Key} (h : (res env z).bind keyD = some key) : ∃ d, res env z = some d ∧ keyD d = some key := by
  cases e : res env z with
  | none => rw [e] at h; cases h
  | some d => rw [e] at h; exact ⟨d, rfl, h⟩
theorem sm_dget (ha : Sm c W ta qa) (hb : Sm c W tb qb) : Sm c W (tDGet ta tb) (qDGet qa qb) := by
  intro F P S b σ H env k x Q R hq hx hk
  refine ha F P S b σ H env _ x _ R hq hx fun S1 H1 env1 v y R1 e1 r1 h1 => ?_
  refine hb F P S1 b σ H1 env1 _ x _ R1 h1 (hx.mono e1) fun S2 H2 env2 u z R2 e2 r2 h2 => ?_
  obtain ⟨kvs, key, e, hd, hk2, hv, h3⟩ := h2
  obtain ⟨d, hz, hkd⟩ := res_bind hk2
  have a1 := R2.read (r1.mono e2.1) hd
  have a2 := R2.read r2 hz
  cases a1 with
  | dct h r =>
    rcases r.val key with ⟨_, z2⟩ | ⟨v, d', z1, z2, rv⟩
    · rw [z2] at hv; cases hv
    · rw [z2] at hv; cases hv
      exact ⟨_, v, rfl, .inl ⟨_, key, h, keyV a2 hkd, z1.symm⟩, hk S2 H2 env2 v (.d _) R2 (e1.trans e2) rv h3⟩
theorem q_dget (hu : X.A.units + 1 < cLine) (ha : QE X g W a ta qa) (hb : QE X g W b tb qb) (hs : NoSl b := by exact fun _ _ => rfl) : QE X g W (.Subscript a b pos) (tDGet ta tb) (qDGet qa qb) := ⟨pe_dget hu ha.pe hb.pe hs, fun N => sm_dget (ha.sm N) (hb.sm N)⟩
/-- k in d -/
def qDIn (neg : Bool) (qk qd : TEq) : TEq := fun env k x => qk env (fun z env1 => qd env1 (fun y env2 => ∃ kvs key, res env2 y = some (.dct kvs) ∧ (res env2 z).bind keyD = some key ∧ k (.d (.bl (if neg then !(vD kvs key).isSome else (vD kvs key).isSome))) env2) x) x
theorem sm_din (ha : Sm c W ta qa) (hb : Sm c W tb qb) : Sm c W (tDIn ta tb) (qDIn false qa qb) ∧ Sm c W (tDNotIn ta tb) (qDIn true qa qb) := by
  constructor
  all_goals
    intro F P S b σ H env k x Q R hq hx hk
    refine ha F P S b σ H env _ x _ R hq hx fun S1 H1 env1 v y R1 e1 r1 h1 => ?_
    refine hb F P S1 b σ H1 env1 _ x _ R1 h1 (hx.mono e1) fun S2 H2 env2 u z R2 e2 r2 h2 => ?_
    obtain ⟨kvs, key, hd, hk2, h3⟩ := h2
    obtain ⟨d, hz, hkd⟩ := res_bind hk2
    have a1 := R2.read r2 hd
    have a2 := R2.read (r1.mono e2.1) hz
    cases a1 with
    | @dct _ kvs' _ h r =>
      have e : (valV kvs' key).isSome = (vD kvs key).isSome := by rcases r.val key with ⟨z1, z2⟩ | ⟨_, _, z1, z2, _⟩ <;> rw [z1, z2] <;> rfl
      refine ⟨_, valV kvs' key, rfl, .inl ⟨_, key, h, keyV a2 hkd, rfl⟩, ?_⟩
      rw [e]
      exact hk S2 H2 env2 _ (.d (.bl _)) R2 (e1.trans e2) (Rep.bl _) h3
theorem qt_din (hu : X.A.units + 1 < cLine) (ha : QE X g W a ta qa) (hb : QE X g W b tb qb) (hm : behindInMarks .In b = false := by rfl) : QT X g W (.Compare a [.In] [b] pos) (tB (tDIn ta tb)) (qTest (qDIn false qa qb)) := ⟨pt_cmp (pc_din hu ha.pe hb.pe) hm, fun N => sm_test (sm_din (ha.sm N) (hb.sm N)).1⟩
theorem qt_dnotin (hu : X.A.units + 1 < cLine) (ha : QE X g W a ta qa) (hb : QE X g W b tb qb) (hm : behindInMarks .NotIn b = false := by rfl) : QT X g W (.Compare a [.NotIn] [b] pos) (tB (tDNotIn ta tb)) (qTest (qDIn true qa qb)) := ⟨pt_cmp (pc_dnotin hu ha.pe hb.pe) hm, fun N => sm_test (sm_din (ha.sm N) (hb.sm N)).2⟩
theorem q_din (hu : X.A.units + 1 < cLine) (ha : QE X g W a ta qa) (hb : QE X g W b tb qb) (hm : behindInMarks .In b = false := by rfl) : QE X g W (.Compare a [.In] [b] pos) (tDIn ta tb) (qDIn false qa qb) := ⟨pe_cmp (pc_din hu ha.pe hb.pe) hm, fun N => (sm_din (ha.sm N) (hb.sm N)).1⟩
/-- d.get(k, x) -/
def qDGet2 (qd qk qf : TEq) : TEq := fun env k x => (∃ d0 kv0, qd env (fun y env1 => env1 = env ∧ y = d0 ∧ res env y = some (.dct kv0)) x) ∧ qd env (fun y env1 => qk env1 (fun z env2 => qf env2 (fun w env3 => ∃ kvs key e, res env3 y = some (.dct kvs) ∧ (res env3 z).bind keyD = some key ∧ res env3 w = some e ∧
  ((vD kvs key = none ∧ k w env3) ∨ ∃ e', vD kvs key = some e' ∧ k (.d e') env3)) x) x) x
/-- d[k] = v, d an own dict in slot i -/
def qDPut (i : Nat) (qk qv : TEq) : TSq := fun DQ env => qv env (fun w env1 => (∃ d0, (env1[i]?) = some (.own d0)) ∧ qk env1 (fun z env2 => ∃ e env3 kvs key, sh1 env2 w = some (e, env3) ∧ (res env3 z).bind keyD = some key ∧ env3[i]? = some (.own (.dct kvs)) ∧ kvs.length < 10000000 ∧ DQ.nx (env3.set i (.own (.dct (pD kvs key e))))) DQ.ex) DQ.ex
theorem sm_dput {i : Nat} (hk0 : Sm c W tb qb) (hv : Sm c W ta qa) : SmS c W (sDPut (tVar i) tb ta) (qDPut i qb qa) := by
  intro F P S b σ H env DQ D R hq k
  refine hv F P S b σ H env _ _ _ R hq k.ex fun S1 H1 env1 w y R1 e1 r1 h1 => ?_
  obtain ⟨⟨d0, h0⟩, h1⟩ := h1
  obtain ⟨v, hv, hs⟩ := R1.slot h0
  cases v with
  | none => exact hs.elim
  | some v =>
    obtain ⟨p, rfl, _⟩ := hs
    refine ⟨.ref p, hv, ?_⟩
    refine hk0 F P S1 b σ H1 env1 _ _ _ R1 h1 (k.ex.mono e1) fun S2 H2 env2 u z R2 e2 r2 h2 => ?_
    obtain ⟨e, env3, kvs, key, hs1, hk2, hi, hl, h3⟩ := h2
    obtain ⟨S3, R3, e3, r3⟩ := sh1_ok R2 (r1.mono e2.1) hs1
    obtain ⟨d, hz, hkd⟩ := res_bind hk2
    have a2 := R3.read (r2.mono e3.1) hz
    obtain ⟨a3, a4, a5, a6⟩ := R3.ownAt hv hi
    cases a6 with
    | dct h r =>
      refine ⟨p, _, rfl, .inl ⟨_, key, h, keyV a2 hkd, by rw [r.length]; exact size_lt hl, rfl⟩, ?_⟩
      exact k.nx S3 σ _ _ (R3.write hv hi (.dct upd_same (r.put r3))) (e1.trans (e2.trans e3)) h3
theorem qs_dput {i : Nat} {x : Str} {pos' : Pos} (hu : X.A.units + 1 < cLine) (hN : X.N[i]? = some x) (hv : Vis X.env.scope x) (hk : QE X g W b tb qb) (ha : QE X g W a ta qa) (hd : (x == ("__debug__" : Str)) = false := by decide) (hcd : (x == ("__classdict__" : Str)) = false := by decide)
    (hs : swapsWith a (some (.Subscript (.Name x p) b pos')) pos.line X.env = pure false := by rfl) : QS X g W (.Assign [.Subscript (.Name x p) b pos'] a pos) (sDPut (tVar i) tb ta) (qDPut i qb qa) :=
  ⟨ps_dput hu (pe_var hN hv hd hcd) hk.pe ha.pe hs, fun N => sm_dput (hk.sm N) (ha.sm N)⟩
/-- xs[j] = v, xs an own list in slot i -/
def qLPut (i : Nat) (qj qv : TEq) : TSq := fun DQ env => qv env (fun w env1 => (∃ d0, (env1[i]?) = some (.own d0)) ∧ qj env1 (fun z env2 => ∃ e env3 ds m j, sh1 env2 w = some (e, env3) ∧ res env3 z = some (.int m) ∧ env3[i]? = some (.own (.lst ds)) ∧ ixN ds.length m = some j ∧ DQ.nx (env3.set i (.own (.lst (ds.set j e))))) DQ.ex) DQ.ex
theorem sm_lput {i : Nat} (hk0 : Sm c W tb qb) (hv : Sm c W ta qa) : SmS c W (tAsg ta (gSub (tVar i) tb rSetL)) (qLPut i qb qa) := by
  intro F P S b σ H env DQ D R hq k
  refine hv F P S b σ H env _ _ _ R hq k.ex fun S1 H1 env1 w y R1 e1 r1 h1 => ?_
  obtain ⟨⟨d0, h0⟩, h1⟩ := h1
  obtain ⟨v, hv, hs⟩ := R1.slot h0
  cases v with
  | none => exact hs.elim
  | some v =>
    obtain ⟨p, rfl, _⟩ := hs
    refine ⟨.ref p, hv, ?_⟩
    refine hk0 F P S1 b σ H1 env1 _ _ _ R1 h1 (k.ex.mono e1) fun S2 H2 env2 u z R2 e2 r2 h2 => ?_
    obtain ⟨e, env3, ds, m, j, hs1, hm, hi, hj, h3⟩ := h2
    obtain ⟨S3, R3, e3, r3⟩ := sh1_ok R2 (r1.mono e2.1) hs1
    have a2 := (R3.read (r2.mono e3.1) hm).scal (w := .int m) rfl
    obtain ⟨a3, a4, a5, a6⟩ := R3.ownAt hv hi
    cases a6 with
    | lst h r =>
      refine ⟨p, _, m, j, rfl, a2, h, by rw [r.length]; exact hj, ?_⟩
      exact k.nx S3 σ _ _ (R3.write hv hi (.lst upd_same (r.set j r3))) (e1.trans (e2.trans e3)) h3
theorem qs_lput {i : Nat} {x : Str} {pos' : Pos} (hN : X.N[i]? = some x) (hv : Vis X.env.scope x) (hk : QE X g W b tb qb) (ha : QE X g W a ta qa) (hd : (x == ("__debug__" : Str)) = false := by decide) (hcd : (x == ("__classdict__" : Str)) = false := by decide)
    (hs : swapsWithSole [.Subscript (.Name x p) b pos'] a pos.line X.env = pure false := by rfl) (hw : swappedStores [.Subscript (.Name x p) b pos'] a X.env = pure none := by rfl)
    (h1 : (assignEach [.Subscript (.Name x p) b pos'] X.env).map (·.2) = [assign (.Subscript (.Name x p) b pos') X.env] := by rfl)
    (h2 : ∀ v, assign (.Subscript (.Name x p) b pos') X.env v = (do
      let ov ← holding [v] (eval (.Name x p) X.env)
      let iv ← holding [v, ov] (eval b X.env)
      standAt pos'
      holding [v, ov, iv] (setItem ov iv v)
      release [v, ov, iv] []) := by intro _; rfl) : QS X g W (.Assign [.Subscript (.Name x p) b pos'] a pos) (tAsg ta (gSub (tVar i) tb rSetL)) (qLPut i qb qa) :=
  ⟨ps_asg ha.pe (pg_sub (pe_var hN hv hd hcd) hk.pe set_list h2) hs hw h1, fun N => sm_lput (hk.sm N) (ha.sm N)⟩
/-! ### raise -/
def qRaise (nm : Str) : TSq := fun DQ env => DQ.ex nm [] env
/-- what is known of an own error class without __init__ -/
structure ExC (K : Fg) (mg : Str → Option Value) (x : Str) : Prop where
  gl : mg x = some (.ref (He.ga K x))
  ex : PySem.W.excIn K (He.ga K x) He.veBase "ValueError.__new__" = true
  kp : PySem.W.keepIn K (.ref (He.ga K x)) = true
  sb : PySem.W.subIn K (.ref (He.ga K x)) (.type "BaseException") = some true
  ty : PySem.W.typeIn K (.ref (He.ga K x)) = some (.type "type")
theorem qs_raise {x : Str} {m : String} {j : Nat} {p2 p3 : Pos} (T : ExC X.K X.mg x) (tk : Takes X W) (hg : Gl X x) (hc : X.calm = true := by rfl) (hdb : (x == ("__debug__" : Str)) = false := by decide) :
    QS X g W (.Raise (some (.Call (.Name x p) [.Constant (.str m) j p2] [] p3)) none pos) (fun _ σ H => (fun (_ : L2.St) (H : Hp) (Q : XK) => Q (.ref (He.ga X.K x)) none H) σ H fun cls d H' => W cls d σ H') (qRaise x) :=
  ⟨ps_raise hc tk (pmk_own PySem.F.excBase_ValueError T.ex T.gl T.kp (raises_own T.sb T.ty) hg hdb), fun N F P S b σ H env DQ D R hq k => k.ex x [] env S σ H _ none R Ext.refl hq T.gl rfl⟩
end
/-! ### the law's own def: the source is made first -/
theorem bud_none {c : Cg} {F P S H : Hp} {σ : L2.St} {env : En} (R : Rel c F P S none σ H env) : bud env = 0 := by
  have nb : ∀ (i : Nat) (n : Nat), env[i]? ≠ some (.bag n) := fun i n h => by
    obtain ⟨v, _, hs⟩ := R.slot h
    cases v with
    | none => exact hs
    | some v => obtain ⟨p, h, _⟩ := hs; cases h
  clear R
  induction env with
  | nil => rfl
  | cons s r ih =>
    have h1 : bw s = 0 := by
      cases s with
      | bag n => exact absurd rfl (nb 0 n)
      | _ => rfl
    show bw s + bud r = 0
    rw [h1, ih fun i n h => nb (i + 1) n (by simpa using h)]
theorem Rel.toBag {K : Fg} {mg : Str → Option Value} {g : Gd} {N N' : Nat} {F P S H : Hp} {σ : L2.St} {env : En} {i n : Nat} {p : Addr} {ds : List D} (R : Rel ⟨K, mg, g, N⟩ F P S none σ H (env.set i (.own (.lst ds)))) (hb : bud (env.set i (.own (.lst ds))) = 0) (h1 : σ[i]? = some (some (.ref p)))
    (h2 : (env.set i (Sl.own (.lst ds)))[i]? = some (.own (.lst ds))) (ok : g.ok ds) (hn : g.cnt ds + n ≤ N') (hN : N' ≤ 2 ^ 60) : Rel ⟨K, mg, g, N'⟩ F P S (some p) σ H (env.set i (.bag n)) := by
  obtain ⟨hP, hS, _, hO⟩ := R.ownAt h1 h2
  have il : i < env.length := by
    have := (List.getElem?_eq_some_iff.mp h2).1
    rwa [List.length_set] at this
  have ei : (env.set i (Sl.bag n))[i]? = some (.bag n) := List.getElem?_set_self il
  have oth : ∀ (j : Nat) (s : Sl), j ≠ i → (env.set i (Sl.bag n))[j]? = some s → (env.set i (Sl.own (.lst ds)))[j]? = some s := fun j s h e => by
    rw [List.getElem?_set_ne (fun z => h z.symm)] at e ⊢; exact e
  have bud2 : bud (env.set i (.bag n)) = n := by
    have z := bud_set (env.set i (Sl.own (.lst ds))) i (.bag n) _ h2
    rw [List.set_set, hb] at z
    have z : bud (env.set i (.bag n)) + 0 = 0 + n := z
    omega
  refine ⟨by rw [List.length_set]; have := R.len; rwa [List.length_set] at this, R.fp, R.ph, R.sh, fun q e => ?_, fun j s v g1 g2 => ?_, fun j k q d d' hjk g1 g2 g3 g4 => ?_⟩
  · cases e
    cases hO with
    | lst h r => exact ⟨hP, hS, _, ds, h, r, ok, by rw [bud2]; exact hn, hN⟩
  · by_cases e : j = i
    · subst e
      rw [ei] at g1; cases g1
      rw [h1] at g2; cases g2
      exact ⟨p, rfl, rfl⟩
    · have h := R.sl j s v (oth j s e g1) g2
      cases s with
      | no => trivial
      | sh d => cases v <;> exact h
      | bor d => cases v <;> exact h
      | bag m =>
        cases v with
        | none => exact h
        | some v => obtain ⟨q, h, _⟩ := h; cases h
      | own d =>
        cases v with
        | none => exact h
        | some v =>
          obtain ⟨q, rfl, h5, h6, _, h8⟩ := h
          exact ⟨q, rfl, h5, h6, fun z => R.ap j i q d _ e g2 (oth j _ e g1) (by cases z; exact h1) h2, h8⟩
  · have nj : j ≠ i := fun e => by rw [e, ei] at g2; cases g2
    have nk : k ≠ i := fun e => by rw [e, ei] at g4; cases g4
    exact R.ap j k q d d' hjk g1 (oth j _ nj g2) g3 (oth k _ nk g4)
/-- law(script): a list of at most 63 ints comes in, True goes out -/
def spLaw (K : Fg) : Sp := fun vs H Q _ => ∃ (a : Addr) (ns : List Int), vs = [.ref a] ∧ SqL K H a (ns.map V.int) ∧ ns.length ≤ 63 ∧ ∀ H', Q (.bl true) H'
theorem law_q {P : Program} {w : World} {K : Fg} {mg : Str → Option Value} {base : Heap} {x qual : Str} {params : Arguments} {st : Stmt} {sts : List Stmt} {scope : Scope} {f : Addr} {fd : FuncData} {N ps : List Str} {k i : Nat} (g : Gd)
    (Fn : FunD K x qual params (st :: sts) scope [] [] f fd) (S : FnScope N ps scope) (hl : ps.length = 1) (hl2 : 1 ≤ N.length)
    (hbody : ∀ (cdv : Value) (A : Around) (outer : List Env) (s : Shared) (H : Hp) (E : XK), A.guards = some [] → Room k (A.deeper (envOfC qual scope s.heap.objs.size f cdv)) →
      ∃ te qn t q, PS (cxOf (L2.CX P w) P w K mg base N qual scope f cdv A outer s H E) st (tAsg te (gName i)) ∧ (∀ M, SmN ⟨K, mg, g, M⟩ W0 te qn) ∧ QSs (cxOf (L2.CX P w) P w K mg base N qual scope f cdv A outer s H E) g W0 sts t q ∧
        ∀ ns : List Int, ns.length ≤ 63 → qn (startE N [.bor (.scr ns)]) (fun r env => ∃ ds n, r = .own (.lst ds) ∧ g.ok ds ∧ g.cnt ds + n ≤ 2 ^ 60 ∧ i < env.length ∧ q { nx := fun _ => False, rt := fun r _ => r = .sh (.bl true) } (env.set i (.bag n))) fun _ _ _ => False) : FnG P w K mg base (k + 1) f fd ps (spLaw K) := by
  obtain ⟨oc, od, dV, kV, doc, pm, an, cdv, ct, osl, rfl, lk, hcd, _, _⟩ := Fn.ex
  refine fnG_of lk hcd S (fun vs H Q E h => ?_) fun A outer s H vs Q E hgd hr h => ?_
  · obtain ⟨a, ns, rfl, _⟩ := h
    exact hl.symm
  · obtain ⟨te, qn, t, q, h1, h2, h3, h4⟩ := hbody cdv A outer s H E hgd hr
    refine ⟨_, pss_cons h1 h3.pss, ?_⟩
    obtain ⟨a, ns, rfl, hS, hn, hQ⟩ := h
    have R := rel_start (c := ⟨K, mg, g, 0⟩) (N := N) (F := H) (S := fun _ => none) (H := H) (b := none) (vs := [.ref a]) (as := [.bor (.scr ns)]) (Same.refl H) (fun _ _ e => nomatch e) (fun _ e => nomatch e) (.cons (show At K _ H (.ref a) (.scr ns) from .scr hS) .nil) hl2
    refine h2 0 H H _ none _ H _ _ _ _ R (h4 ns hn) XOk.no fun S1 H1 env1 v y R1 e1 r1 hno hk => ?_
    obtain ⟨ds, n, rfl, ok, hc, hi, hq⟩ := hk
    have R2 := R1.putRv (i := i) r1 hno
    obtain ⟨p, rfl, _⟩ := r1
    have iσ : i < (L2.start N [V.ref a]).length := by rw [← R1.len]; exact hi
    have R3 := R2.toBag (N' := 2 ^ 60) (bud_none R2) (List.getElem?_set_self iσ) (List.getElem?_set_self hi) ok hc (Nat.le_refl _)
    refine h3.sm (2 ^ 60) H H S1 (some p) _ H1 _ _ _ R3 hq ⟨fun _ _ _ _ _ _ z => z.elim, fun S' σ' H' env' v r R' e' ro hk => ?_, fun _ _ _ _ _ _ z => z.elim, fun _ _ _ _ _ _ z => z.elim, XOk.no⟩
    subst hk
    have z : Rep K S' v (.bl true) := ro
    cases z
    exact hQ H'
end Q


set_option Elab.async false
set_option linter.all false
set_option maxRecDepth 100000
set_option maxHeartbeats 2000000
set_option autoImplicit false
/-! Q10: how a reading is computed: every reading hands on its answer; what is not yet known waits under a cover. -/
namespace Q
open PySem PySem.Spec PyProof.Rows L2

inductive Tk {α : Type} (k : α) : Type where
  | mk : Tk k
def hold {α : Type} (k : α) (_ : Tk k) : α := k
theorem hold1 {α β : Type} {k : α → β} {t : Tk k} (a : α) : hold k t a = k a := rfl
theorem hold2 {α β γ : Type} {k : α → β → γ} {t : Tk k} (a : α) (b : β) : hold k t a b = k a b := rfl
def cIf (c : Bool) (A B : Unit → Prop) : Prop := if c = true then A () else B ()
theorem cIf_t {A B : Unit → Prop} : cIf true A B = A () := rfl
theorem cIf_f {A B : Unit → Prop} : cIf false A B = B () := rfl
theorem cIf_n {c : Bool} {A B : Unit → Prop} : cIf (!c) A B = cIf c B A := by cases c <;> rfl
theorem cIf_i {p : Prop} [Decidable p] {A B : Unit → Prop} (h1 : p → A ()) (h2 : ¬ p → B ()) : cIf (decide p) A B := by
  unfold cIf
  by_cases h : p
  · simp [h, h1 h]
  · simp [h, h2 h]
theorem cIf_b {c : Bool} {A B : Unit → Prop} (h1 : c = true → A ()) (h2 : c = false → B ()) : cIf c A B := by
  cases c
  · exact h2 rfl
  · exact h1 rfl
theorem cIf_l {c : Bool} {A B : Unit → Prop} (h : c = true) (h1 : A ()) : cIf c A B := by subst h; exact h1
theorem cIf_r {c : Bool} {A B : Unit → Prop} (h : c = false) (h1 : B ()) : cIf c A B := by subst h; exact h1

/-! ### looking up -/
def lk (env : En) (i : Nat) (f : Sl → Prop) : Prop := match env[i]? with
  | some s => f s
  | none => False
theorem lk0 {s : Sl} {l : En} {f : Sl → Prop} : lk (s :: l) 0 f = f s := rfl
theorem lk1 {s : Sl} {l : En} {n : Nat} {f : Sl → Prop} : lk (s :: l) (n + 1) f = lk l n f := rfl
theorem lk_some {env : En} {i : Nat} {s : Sl} {f : Sl → Prop} (h : env[i]? = some s) : lk env i f = f s := by unfold lk; rw [h]
theorem lk_none {env : En} {i : Nat} {f : Sl → Prop} (h : env[i]? = none) : lk env i f = False := by unfold lk; rw [h]
def st (env : En) (i : Nat) (s : Sl) (f : En → Prop) : Prop := f (env.set i s)
theorem st0 {a s : Sl} {l : En} {f : En → Prop} : st (a :: l) 0 s f = f (s :: l) := rfl
theorem st1 {a s : Sl} {l : En} {n : Nat} {f : En → Prop} : st (a :: l) (n + 1) s f = st l n s fun l' => f (a :: l') := rfl
def wp (env : En) (vs : List Nat) (f : En → Prop) : Prop := f (wipeE env vs)
theorem wp0 {env : En} {f : En → Prop} : wp env [] f = f env := rfl
theorem wp1 {env : En} {v : Nat} {vs : List Nat} {f : En → Prop} : wp env (v :: vs) f = wp env vs fun e => st e v .no f := rfl
theorem wpm {env : En} {s : Str} {v : Nat} {own : List (Str × Nat)} {f : En → Prop} : wp env (List.map (fun x => x.2) ((s, v) :: own)) f = wp env (List.map (fun x => x.2) own) fun e => st e v .no f := rfl
theorem wpn {env : En} {f : En → Prop} : wp env (List.map (fun x : Str × Nat => x.2) []) f = f env := rfl
def sD (f : D → Prop) : Sl → Prop
  | .sh d => f d
  | .own d => f d
  | .bor d => f d
  | _ => False
theorem sD_sh {f : D → Prop} {d : D} : sD f (.sh d) = f d := rfl
theorem sD_own {f : D → Prop} {d : D} : sD f (.own d) = f d := rfl
theorem sD_bor {f : D → Prop} {d : D} : sD f (.bor d) = f d := rfl
def rd (env : En) (y : Va) (f : D → Prop) : Prop := ∃ d, res env y = some d ∧ f d
theorem rd_d {env : En} {d : D} {f : D → Prop} : rd env (.d d) f = f d := propext ⟨fun ⟨_, h, q⟩ => (by cases h; exact q), fun q => ⟨d, rfl, q⟩⟩
theorem rd_p {env : En} {i : Nat} {f : D → Prop} : rd env (.ptr i) f = lk env i (sD f) := by
  apply propext
  unfold rd res lk
  dsimp only
  cases env[i]? with
  | none => exact ⟨fun ⟨_, h, _⟩ => (by cases h), fun h => False.elim h⟩
  | some s => cases s <;> first | exact ⟨fun ⟨_, h, q⟩ => (by cases h; exact q), fun q => ⟨_, rfl, q⟩⟩ | exact ⟨fun ⟨_, h, _⟩ => (by cases h), fun h => False.elim h⟩
/-- as a truth value, a number, a dict's entries, a key -/
def dB (f : Bool → Prop) : D → Prop
  | .bl c => f c
  | _ => False
theorem dB_b {f : Bool → Prop} {c : Bool} : dB f (.bl c) = f c := rfl
def dI (f : Int → Prop) : D → Prop
  | .int c => f c
  | _ => False
theorem dI_i {f : Int → Prop} {c : Int} : dI f (.int c) = f c := rfl
def dX (f : List (Key × D) → Prop) : D → Prop
  | .dct c => f c
  | _ => False
theorem dX_x {f : List (Key × D) → Prop} {c : List (Key × D)} : dX f (.dct c) = f c := rfl
def dK (f : Key → Prop) : D → Prop
  | .int c => f (.inl c)
  | .str c => f (.inr c)
  | _ => False
theorem dK_i {f : Key → Prop} {c : Int} : dK f (.int c) = f (.inl c) := rfl
theorem dK_s {f : Key → Prop} {c : Str} : dK f (.str c) = f (.inr c) := rfl
def dL (f : List D → Prop) : D → Prop
  | .lst c => f c
  | _ => False
theorem dL_l {f : List D → Prop} {c : List D} : dL f (.lst c) = f c := rfl
def dIt (f : List D → Prop) : D → Prop
  | .lst c => f c
  | .tup c => f c
  | .scr c => f (c.map .int)
  | _ => False
theorem dIt_l {f : List D → Prop} {c : List D} : dIt f (.lst c) = f c := rfl
theorem dIt_t {f : List D → Prop} {c : List D} : dIt f (.tup c) = f c := rfl
theorem dIt_s {f : List D → Prop} {c : List Int} : dIt f (.scr c) = f (c.map .int) := rfl
theorem rd_B {env : En} {y : Va} {f : Bool → Prop} : (∃ c, res env y = some (.bl c) ∧ f c) = rd env y (dB f) := by
  apply propext
  constructor
  · rintro ⟨c, h, q⟩; exact ⟨_, h, q⟩
  · rintro ⟨d, h, q⟩
    cases d <;> first | exact False.elim q | exact ⟨_, h, q⟩
theorem rd_I {env : En} {y : Va} {f : Int → Prop} : (∃ c, res env y = some (.int c) ∧ f c) = rd env y (dI f) := by
  apply propext
  constructor
  · rintro ⟨c, h, q⟩; exact ⟨_, h, q⟩
  · rintro ⟨d, h, q⟩
    cases d <;> first | exact False.elim q | exact ⟨_, h, q⟩
theorem rd_X {env : En} {y : Va} {f : List (Key × D) → Prop} : (∃ c, res env y = some (.dct c) ∧ f c) = rd env y (dX f) := by
  apply propext
  constructor
  · rintro ⟨c, h, q⟩; exact ⟨_, h, q⟩
  · rintro ⟨d, h, q⟩
    cases d <;> first | exact False.elim q | exact ⟨_, h, q⟩
theorem rd_K {env : En} {y : Va} {f : Key → Prop} : (∃ c, (res env y).bind keyD = some c ∧ f c) = rd env y (dK f) := by
  apply propext
  constructor
  · rintro ⟨c, h, q⟩
    obtain ⟨d, h1, h2⟩ := res_bind h
    refine ⟨d, h1, ?_⟩
    cases d <;> first | (cases h2; done) | (cases h2; exact q)
  · rintro ⟨d, h, q⟩
    cases d <;> first | exact False.elim q | exact ⟨_, by rw [h]; rfl, q⟩
theorem ex2 {α β : Type} {A : α → Prop} {B : β → Prop} {C : α → β → Prop} : (∃ d e, A d ∧ B e ∧ C d e) = ∃ d, A d ∧ ∃ e, B e ∧ C d e :=
  propext ⟨fun ⟨d, e, a, b, c⟩ => ⟨d, a, e, b, c⟩, fun ⟨d, a, e, b, c⟩ => ⟨d, e, a, b, c⟩⟩
/-- what is frozen -/
def isSc (d : D) : Prop := (scalar d).isSome = true
theorem isSc_n : isSc .non = True := eq_true rfl
theorem isSc_b {b : Bool} : isSc (.bl b) = True := eq_true rfl
theorem isSc_i {b : Int} : isSc (.int b) = True := eq_true rfl
theorem isSc_s {b : Str} : isSc (.str b) = True := eq_true rfl
def shS (env : En) (i : Nat) (f : D → En → Prop) : Sl → Prop
  | .sh d => f d env
  | .own d => st env i (.sh d) (f d)
  | .bor d => isSc d ∧ f d env
  | _ => False
theorem shS_sh {env : En} {i : Nat} {f : D → En → Prop} {d : D} : shS env i f (.sh d) = f d env := rfl
theorem shS_own {env : En} {i : Nat} {f : D → En → Prop} {d : D} : shS env i f (.own d) = st env i (.sh d) (f d) := rfl
theorem shS_bor {env : En} {i : Nat} {f : D → En → Prop} {d : D} : shS env i f (.bor d) = (isSc d ∧ f d env) := rfl
def sh1C (env : En) (y : Va) (f : D → En → Prop) : Prop := ∃ d env2, sh1 env y = some (d, env2) ∧ f d env2
theorem sh1_d {env : En} {d : D} {f : D → En → Prop} : sh1C env (.d d) f = f d env := propext ⟨fun ⟨_, _, h, q⟩ => (by cases h; exact q), fun q => ⟨_, _, rfl, q⟩⟩
theorem sh1_p {env : En} {i : Nat} {f : D → En → Prop} : sh1C env (.ptr i) f = lk env i (shS env i f) := by
  apply propext
  unfold sh1C sh1 lk
  dsimp only
  cases env[i]? with
  | none => exact ⟨fun ⟨_, _, h, _⟩ => (by cases h), fun h => False.elim h⟩
  | some s =>
    cases s with
    | no => exact ⟨fun ⟨_, _, h, _⟩ => (by cases h), fun h => False.elim h⟩
    | bag n => exact ⟨fun ⟨_, _, h, _⟩ => (by cases h), fun h => False.elim h⟩
    | sh d => exact ⟨fun ⟨_, _, h, q⟩ => (by cases h; exact q), fun q => ⟨_, _, rfl, q⟩⟩
    | own d => exact ⟨fun ⟨_, _, h, q⟩ => (by cases h; exact q), fun q => ⟨_, _, rfl, q⟩⟩
    | bor d =>
      dsimp only
      show _ ↔ isSc d ∧ f d env
      unfold isSc
      cases (scalar d).isSome with
      | true => exact ⟨fun ⟨_, _, h, q⟩ => (by cases h; exact ⟨rfl, q⟩), fun q => ⟨_, _, rfl, q.2⟩⟩
      | false => exact ⟨fun ⟨_, _, h, q⟩ => (by cases h), fun q => (by cases q.1)⟩
def shsC (ys : List Va) (env : En) (f : List D → En → Prop) : Prop := ∃ ds env2, shs ys env = some (ds, env2) ∧ f ds env2
theorem shs0 {env : En} {f : List D → En → Prop} : shsC [] env f = f [] env := propext ⟨fun ⟨_, _, h, q⟩ => (by cases h; exact q), fun q => ⟨_, _, rfl, q⟩⟩
theorem shs1 {y : Va} {ys : List Va} {env : En} {f : List D → En → Prop} : shsC (y :: ys) env f = sh1C env y fun d env2 => shsC ys env2 fun ds env3 => f (d :: ds) env3 := by
  apply propext
  constructor
  · rintro ⟨ds, e2, h, q⟩
    change (sh1 env y).bind _ = _ at h
    cases h1 : sh1 env y with
    | none => rw [h1] at h; cases h
    | some p =>
      obtain ⟨d, e1⟩ := p
      rw [h1] at h
      change (shs ys e1).map _ = _ at h
      cases h2 : shs ys e1 with
      | none => rw [h2] at h; cases h
      | some r =>
        obtain ⟨r1, r2⟩ := r
        rw [h2] at h
        cases h
        exact ⟨_, _, h1, _, _, h2, q⟩
  · rintro ⟨d, e1, h1, ds, e2, h2, q⟩
    refine ⟨d :: ds, e2, ?_, q⟩
    show (sh1 env y).bind _ = _
    rw [h1]
    show (shs ys e1).map _ = _
    rw [h2]; rfl
def ressC (env : En) (ys : List Va) (f : List D → Prop) : Prop := ∃ ds, ress env ys = some ds ∧ f ds
theorem ress0 {env : En} {f : List D → Prop} : ressC env [] f = f [] := propext ⟨fun ⟨_, h, q⟩ => (by cases h; exact q), fun q => ⟨_, rfl, q⟩⟩
theorem ress1 {env : En} {y : Va} {ys : List Va} {f : List D → Prop} : ressC env (y :: ys) f = rd env y fun d => ressC env ys fun ds => f (d :: ds) := by
  apply propext
  constructor
  · rintro ⟨ds, h, q⟩
    change (res env y).bind _ = _ at h
    cases h1 : res env y with
    | none => rw [h1] at h; cases h
    | some d =>
      rw [h1] at h
      change (ress env ys).map _ = _ at h
      cases h2 : ress env ys with
      | none => rw [h2] at h; cases h
      | some r => rw [h2] at h; cases h; exact ⟨d, h1, r, h2, q⟩
  · rintro ⟨d, h1, ds, h2, q⟩
    refine ⟨d :: ds, ?_, q⟩
    show (res env y).bind _ = _
    rw [h1]
    show (ress env ys).map _ = _
    rw [h2]; rfl
/-! arguments -/
def bagS (env : En) (i m : Nat) (f : Ar → En → Prop) : Sl → Prop
  | .bag n => m ≤ n ∧ st env i (.bag (n - m)) (f (.bag m))
  | _ => False
theorem bagS_b {env : En} {i m n : Nat} {f : Ar → En → Prop} : bagS env i m f (.bag n) = (m ≤ n ∧ st env i (.bag (n - m)) (f (.bag m))) := rfl
def arg1C (env : En) (m : Md) (y : Va) (f : Ar → En → Prop) : Prop := ∃ a env2, arg1 env m y = some (a, env2) ∧ f a env2
theorem arg_bor {env : En} {y : Va} {f : Ar → En → Prop} : arg1C env .bor y f = rd env y fun d => f (.bor d) env := by
  apply propext
  constructor
  · rintro ⟨a, e2, h, q⟩
    change (res env y).map _ = _ at h
    cases h1 : res env y with
    | none => rw [h1] at h; cases h
    | some d => rw [h1] at h; cases h; exact ⟨d, h1, q⟩
  · rintro ⟨d, h1, q⟩
    exact ⟨_, _, by show (res env y).map _ = _; rw [h1]; rfl, q⟩
theorem arg_sh {env : En} {y : Va} {f : Ar → En → Prop} : arg1C env .sh y f = sh1C env y fun d e => f (.sh d) e := by
  apply propext
  constructor
  · rintro ⟨a, e2, h, q⟩
    change (sh1 env y).map _ = _ at h
    cases h1 : sh1 env y with
    | none => rw [h1] at h; cases h
    | some d => rw [h1] at h; cases h; exact ⟨d.1, d.2, h1, q⟩
  · rintro ⟨d, e, h1, q⟩
    exact ⟨_, _, by show (sh1 env y).map _ = _; rw [h1]; rfl, q⟩
theorem arg_bag {env : En} {m i : Nat} {f : Ar → En → Prop} : arg1C env (.bag m) (.bag i) f = lk env i (bagS env i m f) := by
  apply propext
  unfold arg1C arg1 lk
  dsimp only
  cases env[i]? with
  | none => exact ⟨fun ⟨_, _, h, _⟩ => (by cases h), fun h => False.elim h⟩
  | some s =>
    cases s with
    | bag n =>
      show (∃ a env2, (if m ≤ n then some (Ar.bag m, env.set i (.bag (n - m))) else none) = some (a, env2) ∧ f a env2) ↔ m ≤ n ∧ f (.bag m) (env.set i (.bag (n - m)))
      by_cases h : m ≤ n
      · rw [if_pos h]
        exact ⟨fun ⟨_, _, e, q⟩ => (by cases e; exact ⟨h, q⟩), fun q => ⟨_, _, rfl, q.2⟩⟩
      · rw [if_neg h]
        exact ⟨fun ⟨_, _, e, q⟩ => (by cases e), fun q => (h q.1).elim⟩
    | _ => exact ⟨fun ⟨_, _, h, _⟩ => (by cases h), fun h => False.elim h⟩
def argsC (ms : List Md) (ys : List Va) (env : En) (f : List Ar → En → Prop) : Prop := ∃ as env2, args ms ys env = some (as, env2) ∧ f as env2
theorem args0 {env : En} {f : List Ar → En → Prop} : argsC [] [] env f = f [] env := propext ⟨fun ⟨_, _, h, q⟩ => (by cases h; exact q), fun q => ⟨_, _, rfl, q⟩⟩
theorem args1 {m : Md} {ms : List Md} {y : Va} {ys : List Va} {env : En} {f : List Ar → En → Prop} : argsC (m :: ms) (y :: ys) env f = arg1C env m y fun d env2 => argsC ms ys env2 fun ds env3 => f (d :: ds) env3 := by
  apply propext
  constructor
  · rintro ⟨ds, e2, h, q⟩
    change (arg1 env m y).bind _ = _ at h
    cases h1 : arg1 env m y with
    | none => rw [h1] at h; cases h
    | some p =>
      obtain ⟨d, e1⟩ := p
      rw [h1] at h
      change (args ms ys e1).map _ = _ at h
      cases h2 : args ms ys e1 with
      | none => rw [h2] at h; cases h
      | some r =>
        obtain ⟨r1, r2⟩ := r
        rw [h2] at h
        cases h
        exact ⟨_, _, h1, _, _, h2, q⟩
  · rintro ⟨d, e1, h1, ds, e2, h2, q⟩
    refine ⟨d :: ds, e2, ?_, q⟩
    show (arg1 env m y).bind _ = _
    rw [h1]
    show (args ms ys e1).map _ = _
    rw [h2]; rfl
def apC (as : List Ar) (ds : List D) (f : List Ar → Prop) : Prop := f (as ++ ds.map .bor)
theorem ap0 {f : List Ar → Prop} : apC [] [] f = f [] := rfl
theorem ap0' {d : D} {ds : List D} {f : List Ar → Prop} : apC [] (d :: ds) f = apC [] ds fun r => f (.bor d :: r) := rfl
theorem ap1 {a : Ar} {as : List Ar} {ds : List D} {f : List Ar → Prop} : apC (a :: as) ds f = apC as ds fun r => f (a :: r) := rfl
/-! results -/
def reS (f : Rv → Prop) : Sl → Prop
  | .sh d => f (.sh d)
  | .own d => f (.own d)
  | .bor d => isSc d ∧ f (.sh d)
  | _ => False
theorem reS_sh {f : Rv → Prop} {d : D} : reS f (.sh d) = f (.sh d) := rfl
theorem reS_own {f : Rv → Prop} {d : D} : reS f (.own d) = f (.own d) := rfl
theorem reS_bor {f : Rv → Prop} {d : D} : reS f (.bor d) = (isSc d ∧ f (.sh d)) := rfl
def retC (env : En) (y : Va) (f : Rv → Prop) : Prop := ∃ r, retV env y = some r ∧ f r
theorem ret_d {env : En} {d : D} {f : Rv → Prop} : retC env (.d d) f = f (.sh d) := propext ⟨fun ⟨_, h, q⟩ => (by cases h; exact q), fun q => ⟨_, rfl, q⟩⟩
theorem ret_p {env : En} {i : Nat} {f : Rv → Prop} : retC env (.ptr i) f = lk env i (reS f) := by
  apply propext
  unfold retC retV lk
  dsimp only
  cases env[i]? with
  | none => exact ⟨fun ⟨_, h, _⟩ => (by cases h), fun h => False.elim h⟩
  | some s =>
    cases s with
    | no => exact ⟨fun ⟨_, h, _⟩ => (by cases h), fun h => False.elim h⟩
    | bag n => exact ⟨fun ⟨_, h, _⟩ => (by cases h), fun h => False.elim h⟩
    | sh d => exact ⟨fun ⟨_, h, q⟩ => (by cases h; exact q), fun q => ⟨_, rfl, q⟩⟩
    | own d => exact ⟨fun ⟨_, h, q⟩ => (by cases h; exact q), fun q => ⟨_, rfl, q⟩⟩
    | bor d =>
      dsimp only
      show _ ↔ isSc d ∧ f (.sh d)
      unfold isSc
      cases (scalar d).isSome with
      | true => exact ⟨fun ⟨_, h, q⟩ => (by cases h; exact ⟨rfl, q⟩), fun q => ⟨_, rfl, q.2⟩⟩
      | false => exact ⟨fun ⟨_, h, q⟩ => (by cases h), fun q => (by cases q.1)⟩
def asS (env : En) (i : Nat) (f : Sl → En → Prop) : Sl → Prop
  | .sh d => f (.sh d) env
  | .own d => st env i (.sh d) (f (.sh d))
  | .bor d => f (.bor d) env
  | _ => False
theorem asS_sh {env : En} {i : Nat} {f : Sl → En → Prop} {d : D} : asS env i f (.sh d) = f (.sh d) env := rfl
theorem asS_own {env : En} {i : Nat} {f : Sl → En → Prop} {d : D} : asS env i f (.own d) = st env i (.sh d) (f (.sh d)) := rfl
theorem asS_bor {env : En} {i : Nat} {f : Sl → En → Prop} {d : D} : asS env i f (.bor d) = f (.bor d) env := rfl
def asC (env : En) (y : Va) (f : Sl → En → Prop) : Prop := ∃ s env2, asV env y = some (s, env2) ∧ f s env2
theorem as_d {env : En} {d : D} {f : Sl → En → Prop} : asC env (.d d) f = f (.sh d) env := propext ⟨fun ⟨_, _, h, q⟩ => (by cases h; exact q), fun q => ⟨_, _, rfl, q⟩⟩
theorem as_p {env : En} {i : Nat} {f : Sl → En → Prop} : asC env (.ptr i) f = lk env i (asS env i f) := by
  apply propext
  unfold asC asV lk
  dsimp only
  cases env[i]? with
  | none => exact ⟨fun ⟨_, _, h, _⟩ => (by cases h), fun h => False.elim h⟩
  | some s => cases s <;> first | exact ⟨fun ⟨_, _, h, _⟩ => (by cases h), fun h => False.elim h⟩ | exact ⟨fun ⟨_, _, h, q⟩ => (by cases h; exact q), fun q => ⟨_, _, rfl, q⟩⟩
def rvC (r : Rv) (f : Sl → Prop) : Prop := f (rvSl r)
theorem rv_sh {d : D} {f : Sl → Prop} : rvC (.sh d) f = f (.sh d) := rfl
theorem rv_own {d : D} {f : Sl → Prop} : rvC (.own d) f = f (.own d) := rfl
def daC (r : Rv) (f : D → Prop) : Prop := f r.dat
theorem da_sh {d : D} {f : D → Prop} : daC (.sh d) f = f d := rfl
theorem da_own {d : D} {f : D → Prop} : daC (.own d) f = f d := rfl
def itS (env : En) (i : Nat) (f : List D → En → Prop) : Sl → Prop
  | .sh d => dIt (fun ds => f ds env) d
  | .own d => dIt (fun ds => st env i (.sh d) (f ds)) d
  | .bor d => dIt (fun ds => f ds env) d
  | _ => False
theorem itS_sh {env : En} {i : Nat} {f : List D → En → Prop} {d : D} : itS env i f (.sh d) = dIt (fun ds => f ds env) d := rfl
theorem itS_own {env : En} {i : Nat} {f : List D → En → Prop} {d : D} : itS env i f (.own d) = dIt (fun ds => st env i (.sh d) (f ds)) d := rfl
theorem itS_bor {env : En} {i : Nat} {f : List D → En → Prop} {d : D} : itS env i f (.bor d) = dIt (fun ds => f ds env) d := rfl
def itC (env : En) (y : Va) (f : List D → En → Prop) : Prop := ∃ items env2, itemsV env y = some (items, env2) ∧ f items env2
theorem it_aux {d : D} {e : En} {f : List D → En → Prop} : (∃ items env2, (dItems d).map (fun ds => (ds, e)) = some (items, env2) ∧ f items env2) ↔ dIt (fun ds => f ds e) d := by
  cases d <;> first | exact ⟨fun ⟨_, _, h, q⟩ => (by cases h; exact q), fun q => ⟨_, _, rfl, q⟩⟩ | exact ⟨fun ⟨_, _, h, _⟩ => (by cases h), fun h => False.elim h⟩
theorem it_d {env : En} {d : D} {f : List D → En → Prop} : itC env (.d d) f = dIt (fun ds => f ds env) d := propext it_aux
theorem it_p {env : En} {i : Nat} {f : List D → En → Prop} : itC env (.ptr i) f = lk env i (itS env i f) := by
  apply propext
  unfold itC itemsV lk
  dsimp only
  cases env[i]? with
  | none => exact ⟨fun ⟨_, _, h, _⟩ => (by cases h), fun h => False.elim h⟩
  | some s => cases s <;> first | exact ⟨fun ⟨_, _, h, _⟩ => (by cases h), fun h => False.elim h⟩ | exact it_aux
end Q


set_option Elab.async false
set_option linter.all false
set_option maxRecDepth 100000
set_option maxHeartbeats 2000000
set_option autoImplicit false
/-! Q11: the equations by which readings are computed; rules for turns. -/
namespace Q
open PySem PySem.Spec PyProof.Rows L2
section
variable {env : En} {k : Va → En → Prop} {kn : Rv → En → Prop} {kt : Bool → En → Prop} {ka : List Va → En → Prop} {x : XQ} {q qa qb qc : TEq} {qn : TNq} {qt qu : TTq} {ql : TAq} {i : Nat} {DQ : Ens} {s r : TSq}
theorem e_var : qVar i env k x = lk env i (qSlot i env k) := rfl
theorem e_sh {d : D} : qSlot i env k (.sh d) = k (.d d) env := rfl
theorem e_own {d : D} : qSlot i env k (.own d) = k (.ptr i) env := rfl
theorem e_bor {d : D} : qSlot i env k (.bor d) = k (.ptr i) env := rfl
theorem e_bag {n : Nat} : qSlot i env k (.bag n) = k (.bag i) env := rfl
theorem e_c {d : D} : qC d env k x = k (.d d) env := rfl
theorem e_op {f : D → D → (D → Prop) → Prop} : qOp f qa qb env k x = qa env (fun y env1 => qb env1 (fun z env2 => rd env2 y fun d => rd env2 z fun e => f d e (hold (fun w => k (.d w) env2) .mk)) x) x := by
  unfold qOp rd; simp only [ex2]; rfl
theorem e_opN {f : D → D → (D → Prop) → Prop} : qOpN f qa qb env kn x = qa env (fun y env1 => qb env1 (fun z env2 => rd env2 y fun d => rd env2 z fun e => f d e (hold (fun w => kn (.own w) env2) .mk)) x) x := by
  unfold qOpN rd; simp only [ex2]; rfl
theorem e_opR {f : D → D → (Rv → Prop) → Prop} : qOpR f qa qb env kn x = qa env (fun y env1 => qb env1 (fun z env2 => rd env2 y fun d => rd env2 z fun e => f d e (hold (fun w => kn w env2) .mk)) x) x := by
  unfold qOpR rd; simp only [ex2]; rfl
theorem e_test : qTest q env kt x = q env (fun y env1 => rd env1 y (dB (hold (fun c => kt c env1) .mk))) x := by
  unfold qTest; simp only [rd_B]; rfl
theorem e_and : qAnd qt qu env kt x = qt env (fun c env1 => cIf c (hold (fun _ => qu env1 kt x) .mk) (hold (fun _ => kt false env1) .mk)) x := rfl
theorem e_or : qOr qt qu env kt x = qt env (fun c env1 => cIf c (hold (fun _ => kt true env1) .mk) (hold (fun _ => qu env1 kt x) .mk)) x := rfl
theorem e_not : qNot qt env kt x = qt env (fun c env1 => kt (!c) env1) x := rfl
theorem e_andV : qAndV qa qb env k x = qa env (fun y env1 => rd env1 y (dB fun c => cIf c (hold (fun _ => qb env1 k x) .mk) (hold (fun _ => k (.d (.bl false)) env1) .mk))) x := by
  unfold qAndV; simp only [rd_B]; rfl
theorem e_orV : qOrV qa qb env k x = qa env (fun y env1 => rd env1 y (dB fun c => cIf c (hold (fun _ => k (.d (.bl true)) env1) .mk) (hold (fun _ => qb env1 k x) .mk))) x := by
  unfold qOrV; simp only [rd_B]; rfl
theorem e_notV : qNotV qa env k x = qa env (fun y env1 => rd env1 y (dB fun c => k (.d (.bl (!c))) env1)) x := by
  unfold qNotV; simp only [rd_B]
theorem e_ifE : qIfE qt qa qb env k x = qt env (fun c env1 => cIf c (hold (fun _ => qa env1 k x) .mk) (hold (fun _ => qb env1 k x) .mk)) x := rfl
theorem e_un {f : D → (D → Prop) → Prop} : qUn f qa env k x = qa env (fun y env1 => rd env1 y fun d => f d (hold (fun w => k (.d w) env1) .mk)) x := rfl
theorem e_nil : qNil env ka x = ka [] env := rfl
theorem e_cons : qCons qa ql env ka x = qa env (fun y env1 => ql env1 (fun ys env2 => ka (y :: ys) env2) x) x := rfl
theorem e_cb {f : List D → (D → Prop) → Prop} : qCB f ql env k x = ql env (fun ys env1 => ressC env1 ys fun ds => f ds (hold (fun w => k (.d w) env1) .mk)) x := rfl
theorem e_cbN {f : List D → (D → Prop) → Prop} : qCBN f ql env kn x = ql env (fun ys env1 => ressC env1 ys fun ds => f ds (hold (fun w => kn (.own w) env1) .mk)) x := rfl
theorem e_cbR {f : List D → (Rv → Prop) → Prop} : qCBR f ql env kn x = ql env (fun ys env1 => ressC env1 ys fun ds => f ds (hold (fun w => kn w env1) .mk)) x := rfl
theorem e_ofN : qOfN qn env k x = qn env (fun r env1 => daC r fun d => k (.d d) env1) x := rfl
theorem e_lst : qLst ql env kn x = ql env (fun ys env1 => shsC ys env1 fun ds env2 => ds.length < 10000000 ∧ kn (.own (.lst ds)) env2) x := rfl
theorem e_tup : qTup ql env k x = ql env (fun ys env1 => shsC ys env1 fun ds env2 => ds.length < 10000000 ∧ k (.d (.tup ds)) env2) x := rfl
theorem e_call {ms : List Md} {dds : List D} {sp : Spq} : qCall ms dds sp ql env kn x = ql env (fun ys env1 => argsC ms ys env1 fun as env2 => apC as dds fun as' => sp as' (hold (fun r => kn r env2) .mk) fun _ _ => False) x := rfl
theorem e_callS {ms : List Md} {sp : Spq} : qCallS ms sp ql env kn x = ql env (fun ys env1 => argsC ms ys env1 fun as env2 => sp as (hold (fun r => kn r env2) .mk) (hold (fun nm pay => x nm pay env2) .mk)) x := rfl
theorem e_next : qNext DQ env = DQ.nx env := rfl
theorem e_seq : qSeq s r DQ env = s { DQ with nx := r DQ } env := rfl
theorem e_brk : qBreak DQ env = DQ.bk env := rfl
theorem e_ct : qCont DQ env = DQ.ct env := rfl
theorem e_drop : qDrop q DQ env = q env (fun _ env1 => DQ.nx env1) DQ.ex := rfl
theorem e_ret : qRet q DQ env = q env (fun y env1 => retC env1 y fun r => DQ.rt r env1) DQ.ex := rfl
theorem e_retN : qRetN qn DQ env = qn env DQ.rt DQ.ex := rfl
theorem e_ret0 : qRet0 DQ env = DQ.rt (.sh .non) env := rfl
theorem e_if : qIf qt s r DQ env = qt env (fun c env1 => cIf c (hold (fun _ => s DQ env1) .mk) (hold (fun _ => r DQ env1) .mk)) DQ.ex := rfl
theorem e_set : qSet i q DQ env = q env (fun y env1 => asC env1 y fun s env2 => st env2 i s DQ.nx) DQ.ex := rfl
theorem e_setN : qSetN i qn DQ env = qn env (fun r env1 => rvC r fun s => st env1 i s DQ.nx) DQ.ex := rfl
theorem e_aug {f : Int → Int → Int} : qAug f i q DQ env = rd env (.ptr i) (dI fun m => q env (fun y env1 => rd env1 y (dI fun n => st env1 i (.sh (.int (f m n))) DQ.nx)) DQ.ex) := by
  unfold qAug
  simp only [rd_I]
  rw [← rd_I]
  rfl
theorem e_raise {nm : Str} : qRaise nm DQ env = DQ.ex nm [] env := rfl
/-! targets, turns -/
theorem e_name {d : D} {f : En → Prop} : qName i d env f = st env i (.sh d) f := rfl
theorem e_gnil {f : En → Prop} : qgNil [] env f = f env := propext ⟨fun h => h.2, fun h => ⟨rfl, h⟩⟩
theorem e_gcons {t : TGq} {u : TGsq} {d : D} {ds : List D} {f : En → Prop} : qgCons t u (d :: ds) env f = t d env fun env1 => u ds env1 f := propext ⟨fun ⟨_, _, h, q⟩ => by cases h; exact q, fun q => ⟨_, _, rfl, q⟩⟩
theorem e_gtup {n : Nat} {t : TGsq} {ds : List D} {f : En → Prop} : qgTup n t (.tup ds) env f = (ds.length = n ∧ t ds env f) := propext ⟨fun ⟨_, h, q⟩ => by cases h; exact q, fun q => ⟨_, rfl, q⟩⟩
theorem e_for {qi : TIq} {g : TGq} : qFor qi g s DQ env = qi env (fun items env1 => loopQ g s DQ items env1) DQ.ex := rfl
theorem e_seqI {ki : List D → En → Prop} : qSeqI q env ki x = q env (fun y env1 => itC env1 y ki) x := rfl
theorem e_enum {ki : List D → En → Prop} : qEnum q env ki x = q env (fun y env1 => itC env1 y fun items env2 => ki (numbered 0 items) env2) x := rfl
def rg1 (f : Int → Prop) : List D → Prop
  | [.int j] => f j
  | _ => False
theorem rg1_i {f : Int → Prop} {j : Int} : rg1 f [.int j] = f j := rfl
def rg2 (f : Int → Int → Prop) : List D → Prop
  | [.int i, .int j] => f i j
  | _ => False
theorem rg2_i {f : Int → Int → Prop} {i j : Int} : rg2 f [.int i, .int j] = f i j := rfl
theorem e_rng1 {ki : List D → En → Prop} : qRng1 ql env ki x = ql env (fun ys env1 => ressC env1 ys (rg1 fun j => -4000000000000000000 ≤ j ∧ j < 4000000000000000000 ∧ ki (ranged 0 j.toNat) env1)) x := by
  unfold qRng1 ressC
  congr
  funext ys env1
  apply propext
  constructor
  · rintro ⟨j, h, q⟩; exact ⟨_, h, q⟩
  · rintro ⟨ds, h, q⟩
    unfold rg1 at q
    split at q
    · exact ⟨_, h, q⟩
    · exact q.elim
theorem e_rng2 {ki : List D → En → Prop} : qRng2 ql env ki x = ql env (fun ys env1 => ressC env1 ys (rg2 fun i j => (-4000000000000000000 ≤ i ∧ i < 4000000000000000000 ∧ -4000000000000000000 ≤ j ∧ j < 4000000000000000000) ∧ ki (ranged i (j - i).toNat) env1)) x := by
  unfold qRng2 ressC
  congr
  funext ys env1
  apply propext
  constructor
  · rintro ⟨i, j, h, q⟩; exact ⟨_, h, q⟩
  · rintro ⟨ds, h, q⟩
    unfold rg2 at q
    split at q
    · exact ⟨_, _, h, q⟩
    · exact q.elim
theorem e_lc {qi : TIq} {g : TGq} {vs : List Nat} : qLc qi g qt q vs env kn x = qi env (fun items env1 => wp env1 vs fun env2 => compQ g qt q vs items [] env2 (hold (fun acc env3 => kn (.own (.lst acc)) env3) .mk)) x := rfl
theorem e_yes : qYes env kt x = kt true env := rfl
theorem e_onone {ko : Option Int → En → Prop} : qoNone env ko x = ko none env := rfl
theorem e_osome {ko : Option Int → En → Prop} : qoSome q env ko x = q env (fun y env1 => rd env1 y (dI fun i => ko (some i) env1)) x := by
  unfold qoSome; simp only [rd_I]
theorem e_sl {f : D → Option Int → Option Int → (Rv → Prop) → Prop} {qlo qhi : TOq} : qSl f q qlo qhi env kn x = q env (fun y env1 => qlo env1 (fun lo env2 => qhi env2 (fun hi env3 => rd env3 y fun d => f d lo hi (hold (fun r => kn r env3) .mk)) x) x) x := rfl
theorem e_isi {T : String} : qIsi T q env k x = q env (fun y env1 => rd env1 y fun d => k (.d (.bl (isTy T d))) env1) x := rfl
theorem e_isi2 {T U : String} : qIsi2 T U q env k x = q env (fun y env1 => rd env1 y fun d => k (.d (.bl (isTy T d || isTy U d))) env1) x := rfl
def ownL : Sl → Prop
  | .own (.lst _) => True
  | _ => False
theorem ownL_l {ds : List D} : ownL (.own (.lst ds)) = True := rfl
def ownA : Sl → Prop
  | .own _ => True
  | _ => False
theorem ownA_l {d : D} : ownA (.own d) = True := rfl
def sO (f : D → Prop) : Sl → Prop
  | .own d => f d
  | _ => False
theorem sO_o {f : D → Prop} {d : D} : sO f (.own d) = f d := rfl
theorem lk_O {env : En} {i : Nat} {f : D → Prop} : (∃ d, env[i]? = some (.own d) ∧ f d) = lk env i (sO f) := by
  apply propext
  unfold lk
  cases env[i]? with
  | none => exact ⟨fun ⟨_, h, _⟩ => (by cases h), fun h => False.elim h⟩
  | some s => cases s <;> first | exact ⟨fun ⟨_, h, q⟩ => (by cases h; exact q), fun q => ⟨_, rfl, q⟩⟩ | exact ⟨fun ⟨_, h, _⟩ => (by cases h), fun h => False.elim h⟩
theorem lk_L {env : En} {i : Nat} : (∃ d, env[i]? = some (.own d) ∧ isL d = true) = lk env i ownL := by
  apply propext
  unfold lk
  cases env[i]? with
  | none => exact ⟨fun ⟨_, h, _⟩ => (by cases h), fun h => False.elim h⟩
  | some s =>
    cases s with
    | own d => cases d <;> first | exact ⟨fun ⟨_, h, q⟩ => (by cases h; cases q; done), fun q => False.elim q⟩ | exact ⟨fun _ => trivial, fun _ => ⟨_, rfl, rfl⟩⟩
    | _ => exact ⟨fun ⟨_, h, _⟩ => (by cases h), fun h => False.elim h⟩
theorem lk_A {env : En} {i : Nat} : (∃ d, env[i]? = some (.own d)) = lk env i ownA := by
  apply propext
  unfold lk
  cases env[i]? with
  | none => exact ⟨fun ⟨_, h⟩ => (by cases h), fun h => False.elim h⟩
  | some s => cases s <;> first | exact ⟨fun ⟨_, h⟩ => (by cases h; done), fun h => False.elim h⟩ | exact ⟨fun _ => trivial, fun _ => ⟨_, rfl⟩⟩
theorem e_meth {f : D → List D → (D → D → Prop) → Prop} : qMeth f i ql env k x = (lk env i ownL ∧ ql env (fun ys env1 => shsC ys env1 fun ds env2 => lk env2 i (sO fun d => f d ds (hold (fun z d' => st env2 i (.own d') (k (.d z))) .mk))) x) := by
  unfold qMeth shsC
  simp only [lk_L, ← lk_O]
  apply propext
  apply and_congr_right
  intro _
  apply iff_of_eq
  congr
  funext ys env1
  apply propext
  constructor
  · rintro ⟨ds, e2, d, h1, h2, q⟩; exact ⟨ds, e2, h1, d, h2, q⟩
  · rintro ⟨ds, e2, h1, d, h2, q⟩; exact ⟨ds, e2, d, h1, h2, q⟩
theorem e_meth0 {f : D → List D → (D → D → Prop) → Prop} : qMeth0 f i env k x = (lk env i ownL ∧ lk env i (sO fun d => f d [] (hold (fun z d' => st env i (.own d') (k (.d z))) .mk))) := by
  unfold qMeth0
  rw [← lk_L, ← lk_O]
  apply propext
  constructor
  · rintro ⟨d, h1, h2, q⟩; exact ⟨⟨d, h1, h2⟩, d, h1, q⟩
  · rintro ⟨⟨d, h1, h2⟩, d', h3, q⟩
    rw [h1] at h3; cases h3
    exact ⟨d, h1, h2, q⟩
theorem e_dnew : qDNew env kn x = kn (.own (.dct [])) env := rfl
theorem e_dget : qDGet q qa env k x = q env (fun y env1 => qa env1 (fun z env2 => rd env2 y (dX fun kvs => rd env2 z (dK fun key => ∃ e, vD kvs key = some e ∧ hold (fun e => k (.d e) env2) .mk e))) x) x := by
  unfold qDGet
  congr
  funext y env1
  congr
  funext z env2
  rw [← rd_X]
  apply propext
  constructor
  · rintro ⟨kvs, key, e, h1, h2, h3, q⟩
    refine ⟨kvs, h1, ?_⟩
    rw [← rd_K]
    exact ⟨key, h2, e, h3, q⟩
  · rintro ⟨kvs, h1, h⟩
    rw [← rd_K] at h
    obtain ⟨key, h2, e, h3, q⟩ := h
    exact ⟨kvs, key, e, h1, h2, h3, q⟩
theorem e_din {neg : Bool} : qDIn neg qa q env k x = qa env (fun z env1 => q env1 (fun y env2 => rd env2 y (dX fun kvs => rd env2 z (dK fun key => hold (fun b => k (.d (.bl b)) env2) .mk (if neg then !(vD kvs key).isSome else (vD kvs key).isSome)))) x) x := by
  unfold qDIn
  congr
  funext z env1
  congr
  funext y env2
  rw [← rd_X]
  apply propext
  constructor
  · rintro ⟨kvs, key, h1, h2, q⟩
    refine ⟨kvs, h1, ?_⟩
    rw [← rd_K]
    exact ⟨key, h2, q⟩
  · rintro ⟨kvs, h1, h⟩
    rw [← rd_K] at h
    obtain ⟨key, h2, q⟩ := h
    exact ⟨kvs, key, h1, h2, q⟩
theorem e_dput : qDPut i qa q DQ env = q env (fun w env1 => lk env1 i ownA ∧ qa env1 (fun z env2 => sh1C env2 w fun e env3 => rd env3 z (dK fun key => lk env3 i (sO (dX fun kvs => kvs.length < 10000000 ∧ st env3 i (.own (.dct (pD kvs key e))) DQ.nx)))) DQ.ex) DQ.ex := by
  unfold qDPut sh1C
  congr
  funext w env1
  rw [lk_A]
  congr
  funext z env2
  apply propext
  constructor
  · rintro ⟨e, env3, kvs, key, h1, h2, h3, q⟩
    refine ⟨e, env3, h1, ?_⟩
    dsimp only
    rw [← rd_K]
    refine ⟨key, h2, ?_⟩
    rw [← lk_O]
    exact ⟨_, h3, q⟩
  · rintro ⟨e, env3, h1, h⟩
    rw [← rd_K] at h
    obtain ⟨key, h2, h⟩ := h
    rw [← lk_O] at h
    obtain ⟨d, h3, q⟩ := h
    cases d <;> first | exact False.elim q | exact ⟨e, env3, _, key, h1, h2, h3, q⟩
theorem e_lput : qLPut i qa q DQ env = q env (fun w env1 => lk env1 i ownA ∧ qa env1 (fun z env2 => sh1C env2 w fun e env3 => rd env3 z (dI fun m => lk env3 i (sO (dL fun ds => ∃ j, ixN ds.length m = some j ∧ st env3 i (.own (.lst (ds.set j e))) DQ.nx)))) DQ.ex) DQ.ex := by
  unfold qLPut sh1C
  congr
  funext w env1
  rw [lk_A]
  congr
  funext z env2
  apply propext
  constructor
  · rintro ⟨e, env3, ds, m, j, h1, h2, h3, h4, q⟩
    refine ⟨e, env3, h1, ?_⟩
    dsimp only
    rw [← rd_I]
    refine ⟨m, h2, ?_⟩
    rw [← lk_O]
    exact ⟨_, h3, j, h4, q⟩
  · rintro ⟨e, env3, h1, h⟩
    rw [← rd_I] at h
    obtain ⟨m, h2, h⟩ := h
    rw [← lk_O] at h
    obtain ⟨d, h3, q⟩ := h
    cases d <;> first | exact False.elim q | (obtain ⟨j, h4, q⟩ := q; exact ⟨e, env3, _, m, j, h1, h2, h3, h4, q⟩)
end
end Q


set_option Elab.async false
set_option linter.all false
set_option maxRecDepth 100000
set_option maxHeartbeats 2000000
set_option autoImplicit false
/-! Q12: operators on known data; rules for turns; the missing statements. -/
namespace Q
open PySem PySem.Spec PyProof.Rows L2
section
variable {k : D → Prop} {kn : Rv → Prop} {i j : Int} {a b : List D}
theorem f_sub : fSub (.int i) (.int j) k = k (.int (i - j)) := propext ⟨fun h => h.2, fun h => ⟨trivial, h⟩⟩
theorem f_mod : fMod (.int i) (.int j) k = (0 < j ∧ k (.int (i % j))) := rfl
theorem f_div : fDiv (.int i) (.int j) k = ((0 < j ∧ j < 1073741824) ∧ k (.int (i / j))) := rfl
theorem f_divW : fDivW (.int i) (.int j) k = ((0 < j ∧ j.natAbs.log2 < 9000) ∧ k (.int (i / j))) := rfl
theorem f_pow : fPow (.int i) (.int j) k = (CPow i j ∧ k (.int (i ^ j.toNat))) := rfl
theorem f_lt : fLt (.int i) (.int j) k = k (.bl (decide (i < j))) := propext ⟨fun h => h.2, fun h => ⟨trivial, h⟩⟩
theorem f_le : fLe (.int i) (.int j) k = k (.bl (decide (i ≤ j))) := propext ⟨fun h => h.2, fun h => ⟨trivial, h⟩⟩
theorem f_gt : fGt (.int i) (.int j) k = k (.bl (decide (j < i))) := propext ⟨fun h => h.2, fun h => ⟨trivial, h⟩⟩
theorem f_ge : fGe (.int i) (.int j) k = k (.bl (decide (j ≤ i))) := propext ⟨fun h => h.2, fun h => ⟨trivial, h⟩⟩
theorem f_addI : fAdd (.int i) (.int j) kn = kn (.sh (.int (i + j))) := rfl
theorem f_addS {x y : Str} : fAdd (.str x) (.str y) kn = (x.length + y.length ≤ 10000000 ∧ kn (.sh (.str (x ++ y)))) := rfl
theorem f_addL : fAdd (.lst a) (.lst b) kn = (a.length + b.length < 10000000 ∧ kn (.own (.lst (a ++ b)))) := rfl
theorem f_mulI : fMul (.int i) (.int j) kn = ((CMul i j ∨ CMulW i j) ∧ kn (.sh (.int (i * j)))) := rfl
theorem f_mulL : fMul (.lst a) (.int j) kn = (-1000000000 ≤ j ∧ j ≤ 1000000000 ∧ a.length * j.toNat ≤ 10000000 ∧ kn (.own (.lst (List.replicate j.toNat a).flatten))) := rfl
theorem f_ixL : fIx (.lst a) (.int i) k = ∃ d, atI a i = some d ∧ k d := rfl
theorem f_ixT : fIx (.tup a) (.int i) k = ∃ d, atI a i = some d ∧ k d := rfl
theorem f_ixS {ns : List Int} : fIx (.scr ns) (.int i) k = ∃ n, atI ns i = some n ∧ k (.int n) := rfl
theorem f_eqI : fEq (.int i) (.int j) k = k (.bl (decide (i = j))) := rfl
theorem f_neI : fNe (.int i) (.int j) k = k (.bl (!decide (i = j))) := rfl
theorem f_eqS {x y : Str} : fEq (.str x) (.str y) k = k (.bl (decide (x = y))) := rfl
theorem f_neS {x y : Str} : fNe (.str x) (.str y) k = k (.bl (!decide (x = y))) := rfl
theorem f_eqB {x y : Bool} : fEq (.bl x) (.bl y) k = k (.bl (decide (x = y))) := rfl
theorem f_neB {x y : Bool} : fNe (.bl x) (.bl y) k = k (.bl (!decide (x = y))) := rfl
theorem f_isN {d : D} : fIs d .non k = k (.bl (isNon d)) := propext ⟨fun h => h.2, fun h => ⟨rfl, h⟩⟩
theorem f_isNotN {d : D} : fIsNot d .non k = k (.bl (!isNon d)) := propext ⟨fun h => h.2, fun h => ⟨rfl, h⟩⟩
theorem n_n : isNon .non = true := rfl
theorem n_b {b : Bool} : isNon (.bl b) = false := rfl
theorem n_i : isNon (.int i) = false := rfl
theorem n_s {x : Str} : isNon (.str x) = false := rfl
theorem n_l : isNon (.lst a) = false := rfl
theorem n_t : isNon (.tup a) = false := rfl
theorem ex_some {α : Type} {n : α} {P : α → Prop} : (∃ m, some n = some m ∧ P m) = P n := propext ⟨fun ⟨_, h, q⟩ => (by cases h; exact q), fun q => ⟨_, rfl, q⟩⟩
theorem f_lenL : fLen [.lst a] k = k (.int (a.length : Nat)) := ex_some
theorem f_lenT : fLen [.tup a] k = k (.int (a.length : Nat)) := ex_some
theorem f_lenR {ns : List Int} : fLen [.scr ns] k = k (.int (ns.length : Nat)) := ex_some
theorem f_lenS {x : Str} : fLen [.str x] k = (x.length ≤ 10000000 ∧ k (.int (x.length : Nat))) := by
  apply propext
  show (∃ n, (if x.length ≤ 10000000 then some x.length else none) = some n ∧ k (.int (n : Nat))) ↔ _
  by_cases h : x.length ≤ 10000000
  · rw [if_pos h]
    exact ⟨fun ⟨_, e, q⟩ => (by cases e; exact ⟨h, q⟩), fun q => ⟨_, rfl, q.2⟩⟩
  · rw [if_neg h]
    exact ⟨fun ⟨_, e, _⟩ => (by cases e), fun q => (h q.1).elim⟩
theorem f_min : fMin [.int i, .int j] k = k (.int (if j < i then j else i)) := rfl
theorem f_max : fMax [.int i, .int j] k = k (.int (if j > i then j else i)) := rfl
theorem f_abs : fAbs [.int i] k = k (.int (if i < 0 then -i else i)) := rfl
theorem f_intI : fInt [.int i] k = k (.int i) := rfl
theorem f_intB {b : Bool} : fInt [.bl b] k = k (.int (if b then 1 else 0)) := rfl
theorem f_strI : fStr [.int i] k = (i.natAbs.log2 < 1920 ∧ k (.str (toString i))) := rfl
theorem f_listL : fList [.lst a] kn = kn (.own (.lst a)) := rfl
theorem f_listT : fList [.tup a] kn = kn (.own (.lst a)) := rfl
theorem f_listS {ns : List Int} : fList [.scr ns] kn = kn (.own (.lst (ns.map .int))) := rfl
theorem f_tupL : fTuple [.lst a] kn = kn (.sh (.tup a)) := rfl
theorem f_repr {d : D} : fRepr [d] k = (ShowOk d ∧ k (.str (toP d).shown)) := rfl
theorem f_slL {lo hi : Option Int} : fSl (.lst a) lo hi kn = kn (.own (.lst (cut a lo hi))) := rfl
theorem f_slR {ns : List Int} {lo hi : Option Int} : fSl (.scr ns) lo hi kn = kn (.own (.lst ((cut ns lo hi).map .int))) := rfl
theorem f_slT {lo hi : Option Int} : fSl (.tup a) lo hi kn = (¬ (HT.sIx a.length 0 lo = 0 ∧ HT.sIx a.length a.length hi = a.length) ∧ kn (.sh (.tup (cut a lo hi)))) := rfl
variable {km : D → D → Prop}
theorem f_app {e : D} : fAppend (.lst a) [e] km = (a.length < 10000000 ∧ km .non (.lst (a ++ [e]))) := rfl
theorem f_pop : fPop (.lst a) [] km = ∃ e, a[a.length - 1]? = some e ∧ km e (.lst a.dropLast) := rfl
theorem f_popAt : fPopAt (.lst a) [.int i] km = (a.length ≤ 10000000 ∧ ∃ j e, ixN a.length i = some j ∧ a[j]? = some e ∧ km e (.lst (a.eraseIdx j))) := rfl
theorem f_ext : fExtend (.lst a) [.lst b] km = (a.length + b.length < 10000000 ∧ km .non (.lst (a ++ b))) := rfl
theorem f_ins {e : D} : fInsert (.lst a) [.int i, e] km = (a.length < 10000000 ∧ 0 ≤ i ∧ i < 1000000000 ∧ km .non (.lst (a.take i.toNat ++ [e] ++ a.drop i.toNat))) := rfl
theorem y_n : tyN .non = "NoneType" := rfl
theorem y_b {b : Bool} : tyN (.bl b) = "bool" := rfl
theorem y_i : tyN (.int i) = "int" := rfl
theorem y_s {x : Str} : tyN (.str x) = "str" := rfl
theorem y_l : tyN (.lst a) = "list" := rfl
theorem y_t : tyN (.tup a) = "tuple" := rfl
theorem y_r {ns : List Int} : tyN (.scr ns) = "list" := rfl
theorem y_d {kvs : List (Key × D)} : tyN (.dct kvs) = "dict" := rfl
end
section
variable {b : Bool} {i : Int} {x : Str} {a : List D} {ns : List Int} {kvs : List (Key × D)}
theorem ty_int_n : isTy "int" .non = false := by unfold isTy; simp only [y_n, y_b, y_i, y_s, y_l, y_t, y_r, y_d]; decide
theorem ty_int_b : isTy "int" (.bl b) = true := by unfold isTy; simp only [y_n, y_b, y_i, y_s, y_l, y_t, y_r, y_d]; decide
theorem ty_int_i : isTy "int" (.int i) = true := by unfold isTy; simp only [y_n, y_b, y_i, y_s, y_l, y_t, y_r, y_d]; decide
theorem ty_int_s : isTy "int" (.str x) = false := by unfold isTy; simp only [y_n, y_b, y_i, y_s, y_l, y_t, y_r, y_d]; decide
theorem ty_int_l : isTy "int" (.lst a) = false := by unfold isTy; simp only [y_n, y_b, y_i, y_s, y_l, y_t, y_r, y_d]; decide
theorem ty_int_t : isTy "int" (.tup a) = false := by unfold isTy; simp only [y_n, y_b, y_i, y_s, y_l, y_t, y_r, y_d]; decide
theorem ty_int_r : isTy "int" (.scr ns) = false := by unfold isTy; simp only [y_n, y_b, y_i, y_s, y_l, y_t, y_r, y_d]; decide
theorem ty_int_d : isTy "int" (.dct kvs) = false := by unfold isTy; simp only [y_n, y_b, y_i, y_s, y_l, y_t, y_r, y_d]; decide
theorem ty_bool_n : isTy "bool" .non = false := by unfold isTy; simp only [y_n, y_b, y_i, y_s, y_l, y_t, y_r, y_d]; decide
theorem ty_bool_b : isTy "bool" (.bl b) = true := by unfold isTy; simp only [y_n, y_b, y_i, y_s, y_l, y_t, y_r, y_d]; decide
theorem ty_bool_i : isTy "bool" (.int i) = false := by unfold isTy; simp only [y_n, y_b, y_i, y_s, y_l, y_t, y_r, y_d]; decide
theorem ty_bool_s : isTy "bool" (.str x) = false := by unfold isTy; simp only [y_n, y_b, y_i, y_s, y_l, y_t, y_r, y_d]; decide
theorem ty_bool_l : isTy "bool" (.lst a) = false := by unfold isTy; simp only [y_n, y_b, y_i, y_s, y_l, y_t, y_r, y_d]; decide
theorem ty_bool_t : isTy "bool" (.tup a) = false := by unfold isTy; simp only [y_n, y_b, y_i, y_s, y_l, y_t, y_r, y_d]; decide
theorem ty_bool_r : isTy "bool" (.scr ns) = false := by unfold isTy; simp only [y_n, y_b, y_i, y_s, y_l, y_t, y_r, y_d]; decide
theorem ty_bool_d : isTy "bool" (.dct kvs) = false := by unfold isTy; simp only [y_n, y_b, y_i, y_s, y_l, y_t, y_r, y_d]; decide
theorem ty_str_n : isTy "str" .non = false := by unfold isTy; simp only [y_n, y_b, y_i, y_s, y_l, y_t, y_r, y_d]; decide
theorem ty_str_b : isTy "str" (.bl b) = false := by unfold isTy; simp only [y_n, y_b, y_i, y_s, y_l, y_t, y_r, y_d]; decide
theorem ty_str_i : isTy "str" (.int i) = false := by unfold isTy; simp only [y_n, y_b, y_i, y_s, y_l, y_t, y_r, y_d]; decide
theorem ty_str_s : isTy "str" (.str x) = true := by unfold isTy; simp only [y_n, y_b, y_i, y_s, y_l, y_t, y_r, y_d]; decide
theorem ty_str_l : isTy "str" (.lst a) = false := by unfold isTy; simp only [y_n, y_b, y_i, y_s, y_l, y_t, y_r, y_d]; decide
theorem ty_str_t : isTy "str" (.tup a) = false := by unfold isTy; simp only [y_n, y_b, y_i, y_s, y_l, y_t, y_r, y_d]; decide
theorem ty_str_r : isTy "str" (.scr ns) = false := by unfold isTy; simp only [y_n, y_b, y_i, y_s, y_l, y_t, y_r, y_d]; decide
theorem ty_str_d : isTy "str" (.dct kvs) = false := by unfold isTy; simp only [y_n, y_b, y_i, y_s, y_l, y_t, y_r, y_d]; decide
theorem ty_list_n : isTy "list" .non = false := by unfold isTy; simp only [y_n, y_b, y_i, y_s, y_l, y_t, y_r, y_d]; decide
theorem ty_list_b : isTy "list" (.bl b) = false := by unfold isTy; simp only [y_n, y_b, y_i, y_s, y_l, y_t, y_r, y_d]; decide
theorem ty_list_i : isTy "list" (.int i) = false := by unfold isTy; simp only [y_n, y_b, y_i, y_s, y_l, y_t, y_r, y_d]; decide
theorem ty_list_s : isTy "list" (.str x) = false := by unfold isTy; simp only [y_n, y_b, y_i, y_s, y_l, y_t, y_r, y_d]; decide
theorem ty_list_l : isTy "list" (.lst a) = true := by unfold isTy; simp only [y_n, y_b, y_i, y_s, y_l, y_t, y_r, y_d]; decide
theorem ty_list_t : isTy "list" (.tup a) = false := by unfold isTy; simp only [y_n, y_b, y_i, y_s, y_l, y_t, y_r, y_d]; decide
theorem ty_list_r : isTy "list" (.scr ns) = true := by unfold isTy; simp only [y_n, y_b, y_i, y_s, y_l, y_t, y_r, y_d]; decide
theorem ty_list_d : isTy "list" (.dct kvs) = false := by unfold isTy; simp only [y_n, y_b, y_i, y_s, y_l, y_t, y_r, y_d]; decide
theorem ty_tuple_n : isTy "tuple" .non = false := by unfold isTy; simp only [y_n, y_b, y_i, y_s, y_l, y_t, y_r, y_d]; decide
theorem ty_tuple_b : isTy "tuple" (.bl b) = false := by unfold isTy; simp only [y_n, y_b, y_i, y_s, y_l, y_t, y_r, y_d]; decide
theorem ty_tuple_i : isTy "tuple" (.int i) = false := by unfold isTy; simp only [y_n, y_b, y_i, y_s, y_l, y_t, y_r, y_d]; decide
theorem ty_tuple_s : isTy "tuple" (.str x) = false := by unfold isTy; simp only [y_n, y_b, y_i, y_s, y_l, y_t, y_r, y_d]; decide
theorem ty_tuple_l : isTy "tuple" (.lst a) = false := by unfold isTy; simp only [y_n, y_b, y_i, y_s, y_l, y_t, y_r, y_d]; decide
theorem ty_tuple_t : isTy "tuple" (.tup a) = true := by unfold isTy; simp only [y_n, y_b, y_i, y_s, y_l, y_t, y_r, y_d]; decide
theorem ty_tuple_r : isTy "tuple" (.scr ns) = false := by unfold isTy; simp only [y_n, y_b, y_i, y_s, y_l, y_t, y_r, y_d]; decide
theorem ty_tuple_d : isTy "tuple" (.dct kvs) = false := by unfold isTy; simp only [y_n, y_b, y_i, y_s, y_l, y_t, y_r, y_d]; decide
theorem ty_dict_n : isTy "dict" .non = false := by unfold isTy; simp only [y_n, y_b, y_i, y_s, y_l, y_t, y_r, y_d]; decide
theorem ty_dict_b : isTy "dict" (.bl b) = false := by unfold isTy; simp only [y_n, y_b, y_i, y_s, y_l, y_t, y_r, y_d]; decide
theorem ty_dict_i : isTy "dict" (.int i) = false := by unfold isTy; simp only [y_n, y_b, y_i, y_s, y_l, y_t, y_r, y_d]; decide
theorem ty_dict_s : isTy "dict" (.str x) = false := by unfold isTy; simp only [y_n, y_b, y_i, y_s, y_l, y_t, y_r, y_d]; decide
theorem ty_dict_l : isTy "dict" (.lst a) = false := by unfold isTy; simp only [y_n, y_b, y_i, y_s, y_l, y_t, y_r, y_d]; decide
theorem ty_dict_t : isTy "dict" (.tup a) = false := by unfold isTy; simp only [y_n, y_b, y_i, y_s, y_l, y_t, y_r, y_d]; decide
theorem ty_dict_r : isTy "dict" (.scr ns) = false := by unfold isTy; simp only [y_n, y_b, y_i, y_s, y_l, y_t, y_r, y_d]; decide
theorem ty_dict_d : isTy "dict" (.dct kvs) = true := by unfold isTy; simp only [y_n, y_b, y_i, y_s, y_l, y_t, y_r, y_d]; decide
end
/-! start of a def -/
theorem se_c {x : Str} {N : List Str} {a : Ar} {as : List Ar} : startE (x :: N) (a :: as) = arSl a :: startE N as := by
  unfold startE
  simp
theorem se_n {x : Str} {N : List Str} : startE (x :: N) [] = .no :: startE N [] := by
  unfold startE
  simp [List.replicate_succ]
theorem se_0 : startE [] [] = [] := rfl
theorem ar_b {d : D} : arSl (.bor d) = .bor d := rfl
theorem ar_s {d : D} : arSl (.sh d) = .sh d := rfl
theorem ar_g {n : Nat} : arSl (.bag n) = .bag n := rfl

/-! ### turns -/
theorem loop_rule {α : Type} {g : TGq} {body : TSq} {DQ : Ens} {items : List D} (E : α → En) (I : Nat → α → Prop) (a0 : α) (h0 : I 0 a0)
    (hs : ∀ n d a (X : En → Prop), items[n]? = some d → I n a → (∀ a', I (n + 1) a' → X (E a')) → g d (E a) fun env1 => body { DQ with nx := X, ct := X, bk := DQ.nx } env1)
    (he : ∀ a, I items.length a → DQ.nx (E a)) : loopQ g body DQ items (E a0) := by
  have key : ∀ (ds : List D) (n : Nat) (a : α), items.drop n = ds → n ≤ items.length → I n a → loopQ g body DQ ds (E a) := by
    intro ds
    induction ds with
    | nil =>
      intro n a hd hn hI
      have hl : items.length - n = 0 := by rw [← List.length_drop, hd]; rfl
      have : n = items.length := by omega
      subst this
      exact he a hI
    | cons d ds ih =>
      intro n a hd hn hI
      have h1 : items[n]? = some d := by
        have : (items.drop n)[0]? = some d := by rw [hd]; rfl
        rw [List.getElem?_drop] at this
        simpa using this
      have h2 : items.drop (n + 1) = ds := by rw [← List.drop_drop, hd]; rfl
      have h3 : n < items.length := by
        rcases Nat.lt_or_ge n items.length with h | h
        · exact h
        · rw [List.getElem?_eq_none h] at h1; cases h1
      exact hs n d a _ h1 hI fun a' hI' => ih (n + 1) a' h2 h3 hI'
  exact key items 0 a0 rfl (Nat.zero_le _) h0
def compStep (g : TGq) (tt : TTq) (te : TEq) (vs : List Nat) (acc : List D) (X : List D → En → Prop) (d : D) (env : En) : Prop :=
  g d env fun env1 => tt env1 (fun y env2 => cIf y (hold (fun _ => te env2 (fun y env3 => sh1C env3 y fun e env4 => acc.length < 10000000 ∧ wp env4 vs (X (acc ++ [e]))) (fun _ _ _ => False)) .mk) (hold (fun _ => wp env2 vs (X acc)) .mk)) fun _ _ _ => False
theorem comp_rule {α : Type} {g : TGq} {tt : TTq} {te : TEq} {vs : List Nat} {items : List D} {k : List D → En → Prop} (E : α → En) (I : Nat → α → List D → Prop) (a0 : α) (h0 : I 0 a0 [])
    (hs : ∀ n d a acc (X : List D → En → Prop), items[n]? = some d → I n a acc → (∀ a' acc', I (n + 1) a' acc' → X acc' (E a')) → compStep g tt te vs acc X d (E a))
    (he : ∀ a acc, I items.length a acc → k acc (E a)) : compQ g tt te vs items [] (E a0) k := by
  have key : ∀ (ds : List D) (n : Nat) (a : α) (acc : List D), items.drop n = ds → n ≤ items.length → I n a acc → compQ g tt te vs ds acc (E a) k := by
    intro ds
    induction ds with
    | nil =>
      intro n a acc hd hn hI
      have hl : items.length - n = 0 := by rw [← List.length_drop, hd]; rfl
      have : n = items.length := by omega
      subst this
      exact he a acc hI
    | cons d ds ih =>
      intro n a acc hd hn hI
      have h1 : items[n]? = some d := by
        have : (items.drop n)[0]? = some d := by rw [hd]; rfl
        rw [List.getElem?_drop] at this
        simpa using this
      have h2 : items.drop (n + 1) = ds := by rw [← List.drop_drop, hd]; rfl
      have h3 : n < items.length := by
        rcases Nat.lt_or_ge n items.length with h | h
        · exact h
        · rw [List.getElem?_eq_none h] at h1; cases h1
      have q := hs n d a acc (fun acc' env' => compQ g tt te vs ds acc' env' k) h1 hI fun a' acc' hI' => ih (n + 1) a' acc' h2 h3 hI'
      have e : ∀ env2, compStep g tt te vs acc (fun acc' env' => compQ g tt te vs ds acc' env' k) d env2 = compQ g tt te vs (d :: ds) acc env2 k := fun env2 => rfl
      rw [e] at q
      exact q
  exact key items 0 a0 [] rfl (Nat.zero_le _) h0
theorem while_rule {α : Type} {cd : TTq} {body : TSq} {DQ : Ens} (E : α → En) (I : Nat → α → Prop) (n0 : Nat) (a0 : α) (h0 : I n0 a0) (hz : ∀ a, ¬ I 0 a)
    (hs : ∀ n a (X : En → Prop), I (n + 1) a → (∀ a', I n a' → X (E a')) → cd (E a) (fun y env1 => cIf y (hold (fun _ => body { DQ with nx := X, ct := X, bk := DQ.nx } env1) .mk) (hold (fun _ => DQ.nx env1) .mk)) DQ.ex) : qWhile cd body DQ (E a0) := by
  refine ⟨n0, ?_⟩
  induction n0 generalizing a0 with
  | zero => exact (hz a0 h0).elim
  | succ n ih => exact hs n a0 _ h0 fun a' h => ih a' h
/-! what the items are -/
theorem ranged_get {lo : Int} {m n : Nat} {d : D} (h : (ranged lo m)[n]? = some d) : n < m ∧ d = .int (lo + (n : Nat)) := by
  unfold ranged at h
  rw [List.getElem?_map] at h
  rcases Nat.lt_or_ge n m with hl | hl
  · rw [List.getElem?_range hl] at h
    cases h
    exact ⟨hl, rfl⟩
  · rw [List.getElem?_eq_none (by simpa using hl)] at h
    cases h
theorem ints_get {ns : List Int} {n : Nat} {d : D} (h : (ns.map D.int)[n]? = some d) : ∃ i, ns[n]? = some i ∧ d = .int i := by
  rw [List.getElem?_map] at h
  cases e : ns[n]? with
  | none => rw [e] at h; cases h
  | some i => rw [e] at h; cases h; exact ⟨i, rfl, rfl⟩
theorem isz {n : Nat} (h : n < 10000000) : n < 10000000 := h
/-! ### lists of numbers -/
theorem int_app {ns : List Int} {i : Int} : ns.map D.int ++ [.int i] = (ns ++ [i]).map D.int := by simp
theorem int_appL {ns ms : List Int} : ns.map D.int ++ ms.map D.int = (ns ++ ms).map D.int := by simp
theorem toPs_ints (ns : List Int) : toPs (ns.map D.int) = ns.map PyData.int := by
  induction ns with
  | nil => rfl
  | cons n ns ih =>
    show toP (.int n) :: toPs (ns.map D.int) = _
    rw [ih]; rfl
end Q


set_option Elab.async false
set_option linter.all false
set_option maxRecDepth 100000
set_option maxHeartbeats 2000000
set_option autoImplicit false
/-! Q13: comprehensions whose parts are told block by block; what is missing. -/
namespace Q
open PySem PySem.Spec PyProof.Rows L2
abbrev Bk (α : Type) := Shared → Hp → Addr → List (Str × Addr) → List Addr → α
section
variable {X : Cx} {g : Gd} {W : WX} {tg iter elt : Expr} {ifs : List Expr} {scope : Scope} {own : List (Str × Nat)} {ti : TI} {qi : TIq} {t : Bk TG} {q : TGq} {tt : Bk TT} {qt : TTq} {te : Bk TE} {qe : TEq} {pos : Pos}
theorem qn_lcB (own : List (Str × Nat)) (hc : X.calm = true) (hN : X.N.Nodup) (hi : QI X g W tg iter ti qi) (ok : BlkOk X.N X.env.scope scope own)
    (hg : ∀ (s : Shared) (H : Hp) (C : Addr) (cl : List (Str × Addr)) (fp : List Addr), QG (X.blk s H scope (compEnvC scope cl C X.env) fp) g (own.map (·.2)) tg (t s H C cl fp) q) (ht : ∀ (s : Shared) (H : Hp) (C : Addr) (cl : List (Str × Addr)) (fp : List Addr), QTs (X.blk s H scope (compEnvC scope cl C X.env) fp) g ifs (tt s H C cl fp) qt)
    (he : ∀ (s : Shared) (H : Hp) (C : Addr) (cl : List (Str × Addr)) (fp : List Addr), QE (X.blk s H scope (compEnvC scope cl C X.env) fp) g W0 elt (te s H C cl fp) qe) (hs : ∀ x, foldedSetIterable iter X.env x = pure x := by intro _; rfl)
    (e1 : ∀ s H C cl fp, t s H C cl fp = t X.s_0 X.H_0 0 [] [] := by intros; rfl) (e2 : ∀ s H C cl fp, tt s H C cl fp = tt X.s_0 X.H_0 0 [] [] := by intros; rfl) (e3 : ∀ s H C cl fp, te s H C cl fp = te X.s_0 X.H_0 0 [] [] := by intros; rfl) :
    QN X g W (.ListComp elt [⟨tg, iter, ifs, 0⟩] scope pos) (tLc ti (t X.s_0 X.H_0 0 [] []) (tt X.s_0 X.H_0 0 [] []) (te X.s_0 X.H_0 0 [] []) (own.map (·.2))) (qLc qi q qt qe (own.map (·.2))) :=
  qn_lc own hc hN hi ok (fun s H C cl fp => e1 s H C cl fp ▸ hg s H C cl fp) (fun s H C cl fp => e2 s H C cl fp ▸ ht s H C cl fp) (fun s H C cl fp => e3 s H C cl fp ▸ he s H C cl fp) hs
theorem qs_setLcB {i : Nat} {y : Str} {py spos : Pos} (own : List (Str × Nat)) (hc : X.calm = true) (hN : X.N.Nodup) (hy : X.N[i]? = some y) (hyl : X.env.scope.names.lookup y = some .local)
    (hsw : swapsWith (.ListComp elt [⟨tg, iter, ifs, 0⟩] scope pos) (some (.Name y py)) spos.line X.env = pure true) (hi : QI X g W tg iter ti qi) (ok : BlkOk X.N X.env.scope scope own)
    (hg : ∀ (s : Shared) (H : Hp) (C : Addr) (cl : List (Str × Addr)) (fp : List Addr), QG (X.blk s H scope (compEnvC scope cl C X.env) fp) g (own.map (·.2)) tg (t s H C cl fp) q) (ht : ∀ (s : Shared) (H : Hp) (C : Addr) (cl : List (Str × Addr)) (fp : List Addr), QTs (X.blk s H scope (compEnvC scope cl C X.env) fp) g ifs (tt s H C cl fp) qt)
    (he : ∀ (s : Shared) (H : Hp) (C : Addr) (cl : List (Str × Addr)) (fp : List Addr), QE (X.blk s H scope (compEnvC scope cl C X.env) fp) g W0 elt (te s H C cl fp) qe) (hs : ∀ x, foldedSetIterable iter X.env x = pure x := by intro _; rfl)
    (e1 : ∀ s H C cl fp, t s H C cl fp = t X.s_0 X.H_0 0 [] [] := by intros; rfl) (e2 : ∀ s H C cl fp, tt s H C cl fp = tt X.s_0 X.H_0 0 [] [] := by intros; rfl) (e3 : ∀ s H C cl fp, te s H C cl fp = te X.s_0 X.H_0 0 [] [] := by intros; rfl) :
    QS X g W (.Assign [.Name y py] (.ListComp elt [⟨tg, iter, ifs, 0⟩] scope pos) spos) (tAsg (tLc ti (t X.s_0 X.H_0 0 [] []) (tt X.s_0 X.H_0 0 [] []) (te X.s_0 X.H_0 0 [] []) (own.map (·.2))) (gName i)) (qSetN i (qLc qi q qt qe (own.map (·.2)))) :=
  qs_setLc own hc hN hy hyl hsw hi ok (fun s H C cl fp => e1 s H C cl fp ▸ hg s H C cl fp) (fun s H C cl fp => e2 s H C cl fp ▸ ht s H C cl fp) (fun s H C cl fp => e3 s H C cl fp ▸ he s H C cl fp) hs
end
theorem comp_pure {g : TGq} {tt : TTq} {te : TEq} {vs : List Nat} {items : List D} {env : En} {k : List D → En → Prop} (p : D → Bool) (f : D → D)
    (hs : ∀ n d acc (X : List D → En → Prop), items[n]? = some d → acc.length ≤ n → X (if p d = true then acc ++ [f d] else acc) env → compStep g tt te vs acc X d env)
    (he : k ((items.filter p).map f) env) : compQ g tt te vs items [] env k := by
  refine comp_rule (fun _ : Unit => env) (fun n _ acc => acc = ((items.take n).filter p).map f) () (by simp) (fun n d a acc X hd hI hX => ?_) fun a acc h => ?_
  · refine hs n d acc X hd ?_ (hX () _ ?_)
    · rw [hI, List.length_map]
      exact Nat.le_trans (List.length_filter_le ..) (List.length_take_le ..)
    · have : items.take (n + 1) = items.take n ++ [d] := by
        rw [List.take_add_one, hd]; rfl
      rw [this, List.filter_append, List.map_append, ← hI]
      by_cases hp : p d = true
      · rw [if_pos hp, List.filter_cons_of_pos hp]; rfl
      · rw [if_neg hp, List.filter_cons_of_neg hp]; simp
  · rw [List.take_length] at h
    rw [h]; exact he
theorem f_allM {α : Type} {l : List α} {b : α → Bool} {k : D → Prop} : fAll [.lst (l.map fun d => .bl (b d))] k = k (.bl (l.all b)) := by
  apply propext
  constructor
  · rintro ⟨bs, h, q⟩
    have : bs = l.map b := by
      have e : bs.map D.bl = (l.map b).map D.bl := by rw [← h, List.map_map]; rfl
      exact (List.map_inj_right (fun a b h => by cases h; rfl)).mp e
    subst this
    rw [List.all_map] at q
    exact q
  · intro q
    refine ⟨l.map b, by rw [List.map_map]; rfl, ?_⟩
    rw [List.all_map]; exact q
theorem f_anyM {α : Type} {l : List α} {b : α → Bool} {k : D → Prop} : fAny [.lst (l.map fun d => .bl (b d))] k = k (.bl (l.any b)) := by
  apply propext
  constructor
  · rintro ⟨bs, h, q⟩
    have : bs = l.map b := by
      have e : bs.map D.bl = (l.map b).map D.bl := by rw [← h, List.map_map]; rfl
      exact (List.map_inj_right (fun a b h => by cases h; rfl)).mp e
    subst this
    rw [List.any_map] at q
    exact q
  · intro q
    refine ⟨l.map b, by rw [List.map_map]; rfl, ?_⟩
    rw [List.any_map]; exact q
theorem f_sumM {ns : List Int} {k : D → Prop} : fSum [.lst (ns.map .int)] k = k (.int ns.sum) := by
  apply propext
  constructor
  · rintro ⟨bs, h, q⟩
    have : ns = bs := (List.map_inj_right (fun a b h => by cases h; rfl)).mp h
    subst this
    exact q
  · intro q
    exact ⟨ns, rfl, q⟩
theorem e_lenSet {q : TEq} {env : En} {k : Va → En → Prop} {x : XQ} : qLenSet q env k x = q env (fun y env1 => rd env1 y (dL fun l => ∃ ns : List Int, l = ns.map .int ∧ ns.length ≤ 4000 ∧ hold (fun n : Int => k (.d (.int n)) env1) .mk ((dd ns).length : Nat))) x := by
  unfold qLenSet
  congr
  funext y env1
  apply propext
  constructor
  · rintro ⟨ns, h, q⟩
    exact ⟨_, h, ns, rfl, q⟩
  · rintro ⟨d, h, q⟩
    cases d <;> first | exact False.elim q | (obtain ⟨ns, e, q⟩ := q; subst e; exact ⟨ns, h, q⟩)
theorem filter_tt {α : Type} {l : List α} : l.filter (fun _ => true) = l := by simp
/-- of the pairs of an enumeration -/
def prB (b : Int → D → Bool) : D → Bool
  | .tup [.int p, e] => b p e
  | _ => false
def prI (b : Int → D → Int) : D → Int
  | .tup [.int p, e] => b p e
  | _ => 0
theorem prB_e {b : Int → D → Bool} {p : Int} {e : D} : prB b (.tup [.int p, e]) = b p e := rfl
theorem prI_e {b : Int → D → Int} {p : Int} {e : D} : prI b (.tup [.int p, e]) = b p e := rfl
theorem numbered_at {ds : List D} {n : Nat} {e : D} (h : ds[n]? = some e) : ∀ m, (numbered m ds)[n]? = some (.tup [.int ((m + n : Nat) : Int), e]) := by
  induction ds generalizing n with
  | nil => simp at h
  | cons d ds ih =>
    intro m
    cases n with
    | zero =>
      simp at h; subst h; rfl
    | succ n =>
      have := ih (n := n) (by simpa using h) (m + 1)
      show (numbered (m + 1) ds)[n]? = _
      rw [this]
      have z : m + 1 + n = m + (n + 1) := by omega
      rw [z]
theorem numbered_all {b : Int → D → Bool} {ds : List D} : (numbered 0 ds).all (prB b) = true ↔ ∀ (n : Nat) (e : D), ds[n]? = some e → b (n : Int) e = true := by
  rw [List.all_eq_true]
  constructor
  · intro h n e he
    have := numbered_at he 0
    have := h _ (List.mem_of_getElem? this)
    rw [prB_e] at this
    simpa using this
  · intro h x hx
    obtain ⟨n, hn⟩ := List.getElem?_of_mem hx
    obtain ⟨e, he, rfl⟩ := numbered_get 0 ds n x hn
    rw [prB_e]
    have := h n e he
    simpa using this
theorem num_get {ds : List D} {n : Nat} {x : D} (h : (numbered 0 ds)[n]? = some x) : ∃ e, ds[n]? = some e ∧ x = .tup [.int (n : Int), e] := by
  obtain ⟨e, h1, h2⟩ := numbered_get 0 ds n x h
  rw [Nat.zero_add] at h2
  exact ⟨e, h1, h2⟩
theorem num_at {ds : List D} {n : Nat} {e : D} (h : ds[n]? = some e) : (numbered 0 ds)[n]? = some (.tup [.int (n : Int), e]) := by
  have := numbered_at h 0
  rw [Nat.zero_add] at this
  exact this
theorem num_none {ds : List D} {n : Nat} (h : ds[n]? = none) : (numbered 0 ds)[n]? = none := by
  rw [List.getElem?_eq_none_iff, numbered_length]
  exact List.getElem?_eq_none_iff.mp h
end Q


set_option Elab.async false
set_option linter.all false
set_option maxRecDepth 100000
set_option maxHeartbeats 2000000
set_option autoImplicit false
/-! Q14: lists of numbers compared, shown, picked from. -/
namespace Q
open PySem PySem.Spec PyProof.Rows L2
theorem ev_ints : ∀ ns ms : List Int, PyData.eqvAll (ns.map PyData.int) (ms.map PyData.int) = decide (ns = ms)
  | [], [] => by simp [PyData.eqvAll]
  | [], _ :: _ => by simp [PyData.eqvAll]
  | _ :: _, [] => by simp [PyData.eqvAll]
  | a :: r, b :: t => by
    simp only [List.map_cons, PyData.eqvAll, PyData.eqv, ev_ints r t]
    by_cases h : a = b <;> by_cases h' : r = t <;> simp [h, h']
theorem cl_ints : ∀ ns : List Int, PyData.canLayAll0 (ns.map PyData.int) = true
  | [] => rfl
  | _ :: r => by simp [PyData.canLayAll0, PyData.canLay0, cl_ints r]
theorem dp_ints0 : ∀ ns : List Int, PyData.depthAll (ns.map PyData.int) = 0
  | [] => rfl
  | _ :: r => by simp [PyData.depthAll, PyData.depth, dp_ints0 r]
theorem shp_l (ns : List Int) : SeqAt.shaped (toP (.lst (ns.map .int))) = true := by
  unfold toP
  rw [toPs_ints]
  simp [SeqAt.shaped, PyData.canLay0, PyData.depth, cl_ints, dp_ints0]
theorem shp_t (ns : List Int) : SeqAt.shaped (toP (.tup (ns.map .int))) = true := by
  unfold toP
  rw [toPs_ints]
  simp [SeqAt.shaped, PyData.canLay0, PyData.depth, cl_ints, dp_ints0]
theorem ev_l (a b : List Int) : PyData.eqv (toP (.lst (a.map .int))) (toP (.lst (b.map .int))) = decide (a = b) := by
  unfold toP
  rw [toPs_ints, toPs_ints, PyData.eqv]
  exact ev_ints a b
theorem ev_t (a b : List Int) : PyData.eqv (toP (.tup (a.map .int))) (toP (.tup (b.map .int))) = decide (a = b) := by
  unfold toP
  rw [toPs_ints, toPs_ints, PyData.eqv]
  exact ev_ints a b
section
variable {a b : List Int} {k : D → Prop}
theorem f_eqIL : fEq (.lst (a.map .int)) (.lst (b.map .int)) k = k (.bl (decide (a = b))) := by
  show (SeqAt.shaped _ = true ∧ SeqAt.shaped _ = true ∧ k (.bl (PyData.eqv _ _))) = _
  rw [ev_l]
  exact propext ⟨fun h => h.2.2, fun h => ⟨shp_l a, shp_l b, h⟩⟩
theorem f_neIL : fNe (.lst (a.map .int)) (.lst (b.map .int)) k = k (.bl (!decide (a = b))) := by
  show (SeqAt.shaped _ = true ∧ SeqAt.shaped _ = true ∧ k (.bl (!PyData.eqv _ _))) = _
  rw [ev_l]
  exact propext ⟨fun h => h.2.2, fun h => ⟨shp_l a, shp_l b, h⟩⟩
theorem f_eqIT : fEq (.tup (a.map .int)) (.tup (b.map .int)) k = k (.bl (decide (a = b))) := by
  show (SeqAt.shaped _ = true ∧ SeqAt.shaped _ = true ∧ k (.bl (PyData.eqv _ _))) = _
  rw [ev_t]
  exact propext ⟨fun h => h.2.2, fun h => ⟨shp_t a, shp_t b, h⟩⟩
theorem f_neIT : fNe (.tup (a.map .int)) (.tup (b.map .int)) k = k (.bl (!decide (a = b))) := by
  show (SeqAt.shaped _ = true ∧ SeqAt.shaped _ = true ∧ k (.bl (!PyData.eqv _ _))) = _
  rw [ev_t]
  exact propext ⟨fun h => h.2.2, fun h => ⟨shp_t a, shp_t b, h⟩⟩
theorem f_eqNil : fEq (.lst (a.map .int)) (.lst []) k = k (.bl (decide (a = []))) := f_eqIL (b := [])
theorem f_neNil : fNe (.lst (a.map .int)) (.lst []) k = k (.bl (!decide (a = []))) := f_neIL (b := [])
end
/-! shown -/
theorem toP_l (ns : List Int) : toP (.lst (ns.map .int)) = .list (ns.map .int) := by
  show PyData.list (toPs _) = _
  rw [toPs_ints]
theorem toP_t (ns : List Int) : toP (.tup (ns.map .int)) = .tuple (ns.map .int) := by
  show PyData.tuple (toPs _) = _
  rw [toPs_ints]
theorem plain_ints : ∀ ns : List Int, plainDs (ns.map .int) = true
  | [] => rfl
  | n :: r => by
    show (plainD (.int n) && plainDs (r.map .int)) = true
    rw [plain_ints r]; rfl
theorem able_ints : ∀ ns : List Int, (∀ n ∈ ns, n.natAbs < 10 ^ 12) → PyData.showableAll (ns.map .int) = true
  | [], _ => rfl
  | n :: r, h => by
    show (PyData.showable (.int n) && PyData.showableAll (r.map .int)) = true
    rw [able_ints r fun m hm => h m (List.mem_cons_of_mem _ hm), Bool.and_true]
    have h1 := h n (List.mem_cons_self ..)
    show decide (n.natAbs.log2 < 1920) = true
    apply decide_eq_true
    by_cases h0 : n.natAbs = 0
    · rw [h0]; decide
    · have : n.natAbs.log2 < 40 := (Nat.log2_lt h0).mpr (Nat.lt_of_lt_of_le h1 (by decide))
      omega
theorem shown_sum : ∀ ns : List Int, (∀ n ∈ ns, n.natAbs < 10 ^ 12) → ((PyData.shownAll (ns.map .int)).map (·.length)).sum ≤ 13 * ns.length ∧ (PyData.shownAll (ns.map .int)).length = ns.length
  | [], _ => ⟨Nat.le_refl _, rfl⟩
  | n :: r, h => by
    obtain ⟨h1, h2⟩ := shown_sum r fun m hm => h m (List.mem_cons_of_mem _ hm)
    have h3 := PyData.shown_int_le (h n (List.mem_cons_self ..))
    show ((PyData.shown (.int n)).length + ((PyData.shownAll (r.map .int)).map (·.length)).sum ≤ 13 * (r.length + 1)) ∧ (PyData.shownAll (r.map .int)).length + 1 = r.length + 1
    exact ⟨by omega, by rw [h2]⟩
theorem showL {ns : List Int} (h : ∀ n ∈ ns, n.natAbs < 10 ^ 12) (hl : ns.length ≤ 100000) : ShowOk (.lst (ns.map .int)) := by
  refine ⟨plain_ints ns, ?_, ?_, ?_⟩
  · rw [toP_l]; exact able_ints ns h
  · rw [toP_l]
    show PyData.depthAll _ + 1 ≤ 60
    rw [dp_ints0]; decide
  · rw [toP_l]
    obtain ⟨h1, h2⟩ := shown_sum ns h
    have := listText_len_le (PyData.shownAll (ns.map .int))
    show (listText (PyData.shownAll (ns.map .int))).length ≤ _
    omega
theorem showT {ns : List Int} (h : ∀ n ∈ ns, n.natAbs < 10 ^ 12) (hl : ns.length ≤ 100000) : ShowOk (.tup (ns.map .int)) := by
  refine ⟨plain_ints ns, ?_, ?_, ?_⟩
  · rw [toP_t]; exact able_ints ns h
  · rw [toP_t]
    show PyData.depthAll _ + 1 ≤ 60
    rw [dp_ints0]; decide
  · rw [toP_t]
    obtain ⟨h1, h2⟩ := shown_sum ns h
    have := tupleText_len_le (PyData.shownAll (ns.map .int))
    show (tupleText (PyData.shownAll (ns.map .int))).length ≤ _
    omega
/-! picked -/
theorem atI_pos {α : Type} {xs : List α} {i : Int} (h0 : 0 ≤ i) : atI xs i = xs[i.toNat]? := by
  unfold atI ixN
  rw [if_pos h0]
  by_cases h : i < xs.length
  · rw [if_pos h]; rfl
  · rw [if_neg h, List.getElem?_eq_none (by omega)]; rfl
theorem atI_neg {α : Type} {xs : List α} {i : Int} (h0 : i < 0) (h1 : -(xs.length : Int) ≤ i) : atI xs i = xs[(i + xs.length).toNat]? := by
  unfold atI ixN
  rw [if_neg (by omega), if_pos h1]; rfl
theorem ix_pick {xs : List D} {i : Int} {k : D → Prop} (h0 : 0 ≤ i) (h1 : i < xs.length) (h : ∀ d ∈ xs, k d) : fIx (.lst xs) (.int i) k := by
  have hl : i.toNat < xs.length := by omega
  refine ⟨xs[i.toNat], ?_, h _ (List.getElem_mem ..)⟩
  rw [atI_pos h0, List.getElem?_eq_getElem hl]
theorem ix_pickI {xs : List D} {i : Int} {k : D → Prop} (P : Int → Prop) (h0 : 0 ≤ i) (h1 : i < xs.length) (hP : ∀ d ∈ xs, ∃ v, d = .int v ∧ P v) (h : ∀ v, P v → k (.int v)) : fIx (.lst xs) (.int i) k :=
  ix_pick h0 h1 fun d hd => by
    obtain ⟨v, rfl, hv⟩ := hP d hd
    exact h v hv
theorem ix_ints {ns : List Int} {i : Int} {k : D → Prop} (h0 : 0 ≤ i) (h1 : i < ns.length) (h : ∀ (n : Int), ns[i.toNat]? = some n → k (.int n)) : fIx (.lst (ns.map .int)) (.int i) k := by
  have hl : i.toNat < ns.length := by omega
  refine ⟨.int ns[i.toNat], ?_, h _ (List.getElem?_eq_getElem hl)⟩
  rw [atI_pos h0, List.getElem?_map, List.getElem?_eq_getElem hl]; rfl
theorem ix_intsN {ns : List Int} {i : Int} {k : D → Prop} (h0 : i < 0) (h1 : -(ns.length : Int) ≤ i) (h : ∀ (n : Int), ns[(i + ns.length).toNat]? = some n → k (.int n)) : fIx (.lst (ns.map .int)) (.int i) k := by
  have hl : (i + ns.length).toNat < ns.length := by omega
  refine ⟨.int ns[(i + ns.length).toNat], ?_, h _ (List.getElem?_eq_getElem hl)⟩
  rw [atI_neg h0 (by rw [List.length_map]; exact h1), List.length_map, List.getElem?_map, List.getElem?_eq_getElem hl]; rfl
end Q


set_option Elab.async false
set_option linter.all false
set_option maxRecDepth 100000
set_option maxHeartbeats 2000000
set_option autoImplicit false
/-! Q15: the sign, chains of comparisons, pairs stored. -/
namespace Q
open PySem PySem.Spec PyProof.Rows L2
def fNeg : D → (D → Prop) → Prop
  | .int i, k => k (.int (-i))
  | _, _ => False
theorem f_neg {i : Int} {k : D → Prop} : fNeg (.int i) k = k (.int (-i)) := rfl
theorem o_neg {K : Fg} : Op1 K (rU fun i => .int (-i)) fNeg := by
  intro S H v d k Q s a hf hk
  cases d <;> first | exact False.elim hf | skip
  cases a
  exact ⟨_, rfl, hk _ _ (.int _) hf⟩
section
variable {X : Cx} {g : Gd} {W : WX} {e a b ec : Expr} {es : List Expr} {ta tb tc te : TE} {tl : TA} {qa qb qc qe : TEq} {ql : TAq} {pos : Pos} {c : Cg}
theorem sm_chain {r r' : R2} {f f' : D → D → (D → Prop) → Prop} (h : Op2 c.K r f) (h' : Op2 c.K r' f') (ha : Sm c W ta qa) (hb : Sm c W tb qb) (hc : Sm c W tc qc) : Sm c W (tChain r r' ta tb tc) (qChain f f' qa qb qc) := by
  intro F P S b σ H env k x Q R hq hx hk
  refine ha F P S b σ H env _ x _ R hq hx fun S1 H1 env1 v y R1 e1 r1 h1 => ?_
  refine hb F P S1 b σ H1 env1 _ x _ R1 h1 (hx.mono e1) fun S2 H2 env2 u z R2 e2 r2 h2 => ?_
  obtain ⟨d, e, hd, he, hf⟩ := h2
  refine h S2 H2 v u d e _ _ R2.sh (R2.read (r1.mono e2.1) hd) (R2.read r2 he) hf fun w zz hz hw => ?_
  obtain ⟨bb, rfl, h3⟩ := hw
  cases hz
  refine ⟨bb, rfl, ?_⟩
  cases bb with
  | false =>
    rw [if_neg Bool.false_ne_true] at h3 ⊢
    exact hk S2 H2 env2 _ (.d (.bl false)) R2 (e1.trans e2) (.bl false) h3
  | true =>
    rw [if_pos rfl] at h3 ⊢
    refine hc F P S2 b σ H2 env2 _ x _ R2 h3 (hx.mono (e1.trans e2)) fun S3 H3 env3 v3 y3 R3 e3 r3 h4 => ?_
    obtain ⟨e', d', he', hd', hf'⟩ := h4
    exact h' S3 H3 u v3 e' d' _ Q R3.sh (R3.read (r2.mono e3.1) he') (R3.read r3 hd') hf' fun w z hz kz => hk S3 H3 env3 w (.d z) R3 (e1.trans (e2.trans e3)) hz kz
theorem q_chain {op op' : CmpOp} {r r' : R2} {f f' : D → D → (D → Prop) → Prop} (ho : OpR X (compareOp op) r) (h : Op2 X.K r f) (ho' : OpR X (compareOp op') r') (h' : Op2 X.K r' f') (ha : QE X g W a ta qa) (hb : QE X g W b tb qb) (hc : QE X g W ec tc qc)
    (hm : lastMarks [op, op'] [b, ec] = false := by with_unfolding_all rfl) : QE X g W (.Compare a [op, op'] [b, ec] pos) (tChain r r' ta tb tc) (qChain f f' qa qb qc) :=
  ⟨pe_chain ho ho' ha.pe hb.pe hc.pe hm, fun N => sm_chain h h' (ha.sm N) (hb.sm N) (hc.sm N)⟩
theorem qt_chain {op op' : CmpOp} {r r' : R2} {f f' : D → D → (D → Prop) → Prop} (ho : OpR X (compareOp op) r) (h : Op2 X.K r f) (ho' : OpR X (compareOp op') r') (h' : Op2 X.K r' f') (ha : QE X g W a ta qa) (hb : QE X g W b tb qb) (hc : QE X g W ec tc qc)
    (hm : lastMarks [op, op'] [b, ec] = false := by with_unfolding_all rfl) : QT X g W (.Compare a [op, op'] [b, ec] pos) (tTest (tChain r r' ta tb tc)) (qTest (qChain f f' qa qb qc)) :=
  ⟨pt_chain ho ho' ha.pe hb.pe hc.pe hm, fun N => sm_test (sm_chain h h' (ha.sm N) (hb.sm N) (hc.sm N))⟩
theorem e_chain {f f' : D → D → (D → Prop) → Prop} {env : En} {k : Va → En → Prop} {x : XQ} : qChain f f' qa qb qc env k x = qa env (fun y env1 => qb env1 (fun z env2 => rd env2 y fun d => rd env2 z fun e => f d e (hold (fun w => dB (fun b => cIf b (hold (fun _ => qc env2 (fun z' env3 => rd env3 z fun e => rd env3 z' fun d' => f' e d' (hold (fun w => k (.d w) env3) .mk)) x) .mk) (hold (fun _ => k (.d (.bl false)) env2) .mk)) w) .mk)) x) x := by
  have z : ∀ (w : D) (f : Bool → Prop), (∃ b, w = .bl b ∧ f b) = dB f w := fun w f => by
    apply propext
    cases w <;> first | exact ⟨fun ⟨_, h, q⟩ => (by cases h; exact q), fun q => ⟨_, rfl, q⟩⟩ | exact ⟨fun ⟨_, h, _⟩ => (by cases h), fun q => False.elim q⟩
  unfold qChain rd
  simp only [ex2, z]
  rfl
/-- a, b = x, y -/
def qPar (i j : Nat) (ql : TAq) : TSq := fun DQ env => ql env (fun ys env1 => ∃ ds env2, shs ys env1 = some (ds, env2) ∧ ∃ d e, ds = [d, e] ∧ DQ.nx ((env2.set i (.sh d)).set j (.sh e))) DQ.ex
theorem qs_par {i j : Nat} {x y : Str} {px py pt : Pos} {kt k2 pt2} (hc : X.calm = true) (hN : X.N.Nodup) (hi : X.N[i]? = some x) (hj : X.N[j]? = some y) (hij : i ≠ j)
    (hx : X.env.scope.names.lookup x = some .local) (hy : X.env.scope.names.lookup y = some .local) (ha : QA X g W [a, b] tl ql)
    (hw : swappedStores [.Tuple [.Name x px, .Name y py] kt pt] (.Tuple [a, b] k2 pt2) X.env = pure (some [x, y]))
    (hs : swapsWithSole [.Tuple [.Name x px, .Name y py] kt pt] (.Tuple [a, b] k2 pt2) pos.line X.env = pure false := by rfl) :
    QS X g W (.Assign [.Tuple [.Name x px, .Name y py] kt pt] (.Tuple [a, b] k2 pt2) pos) (tPar i j tl) (qPar i j ql) :=
  ⟨ps_par hc hN hi hj hij hx hy ha.pa hw hs, fun N F P S bb σ H env DQ D R hq k => by
    refine ha.sm N F P S bb σ H env _ DQ.ex _ R hq k.ex fun S1 H1 env1 vs ys R1 e1 r1 h1 => ?_
    obtain ⟨ds, env2, hs, d, e, rfl, hn⟩ := h1
    obtain ⟨S2, R2, e2, r2⟩ := shs_ok R1 r1 hs
    cases r2 with
    | cons rv rr =>
    cases rr with
    | cons rw' rr =>
    cases rr
    exact ⟨_, _, rfl, k.nx S2 _ H1 _ ((R2.putSh rv).putSh rw') (e1.trans e2) hn⟩⟩
theorem e_par {i j : Nat} {DQ : Ens} {env : En} : qPar i j ql DQ env = ql env (fun ys env1 => shsC ys env1 fun ds env2 => match ds with | [d, e] => st env2 i (.sh d) fun env3 => st env3 j (.sh e) DQ.nx | _ => False) DQ.ex := by
  unfold qPar shsC
  congr
  funext ys env1
  apply propext
  constructor
  · rintro ⟨ds, env2, h, d, e, rfl, q⟩; exact ⟨_, _, h, q⟩
  · rintro ⟨ds, env2, h, q⟩
    split at q
    · exact ⟨_, _, h, _, _, rfl, q⟩
    · exact q.elim
/-- a, b = value -/
def qAsgT (qe : TEq) (q : TGq) : TSq := fun DQ env => qe env (fun y env1 => ∃ d env2, sh1 env1 y = some (d, env2) ∧ q d env2 DQ.nx) DQ.ex
theorem qs_unpack {tg : Expr} {t : TG} {q : TGq} (ix : List Nat) (he : QE X g W e te qe) (hg : QG X g ix tg t q) (hs : swapsWithSole [tg] e pos.line X.env = pure false := by rfl) (hw : swappedStores [tg] e X.env = pure none := by rfl)
    (h1 : (assignEach [tg] X.env).map (·.2) = [assign tg X.env] := by rfl) : QS X g W (.Assign [tg] e pos) (tAsg te t) (qAsgT qe q) :=
  ⟨ps_asg he.pe hg.pg hs hw h1, fun N F P S bb σ H env DQ D R hq k => by
    refine he.sm N F P S bb σ H env _ DQ.ex _ R hq k.ex fun S1 H1 env1 v y R1 e1 r1 h1 => ?_
    obtain ⟨d, env2, hs, hn⟩ := h1
    obtain ⟨S2, R2, e2, r2⟩ := sh1_ok R1 r1 hs
    exact hg.sm N F P S2 bb σ H1 env2 v d _ _ R2 r2 hn fun σ' env' R' _ k' => k.nx S2 σ' H1 env' R' (e1.trans e2) k'⟩
theorem e_asgT {q : TGq} {DQ : Ens} {env : En} : qAsgT qe q DQ env = qe env (fun y env1 => sh1C env1 y fun d env2 => q d env2 DQ.nx) DQ.ex := rfl
end
end Q


set_option Elab.async false
set_option linter.all false
set_option maxRecDepth 100000
set_option maxHeartbeats 2000000
set_option autoImplicit false
/-! Q16: distance lists, in plain words. -/
namespace Q
open PySem PySem.Spec PyProof.Rows L2
def leO (i : Int) : D → Bool
  | .int h => decide (i ≤ h)
  | _ => true
def intIn (lo : Int) (hi : D) : D → Bool
  | .int i => decide (lo ≤ i) && leO i hi
  | _ => false
def hiOk : D → Bool
  | .non => true
  | .int _ => true
  | _ => false

/-- a list or a tuple -/
def isSeq (d : D) : Bool := isTy "list" d || isTy "tuple" d

/-- an entry as a number -/
def toI : D → Int
  | .int i => i
  | _ => 0
def okE (ds : List D) : Bool := (numbered 0 ds).all (prB fun p e => intIn 0 (.int p) e)
/-- the positions that are referred to -/
def tgs (ds : List D) : List Int := ((numbered 0 ds).filter (prB fun _ e => decide (toI e > 0))).map (prI fun p e => p - toI e)
def distB (ds : List D) : Bool := decide (ds.length ≤ 400) && okE ds && decide ((dd (tgs ds)).length = (tgs ds).length)
def isDist : D → Bool
  | .lst ds => distB ds
  | .tup ds => distB ds
  | .scr ns => distB (ns.map .int)
  | _ => false
theorem okE_get {ds : List D} (h : okE ds = true) {n : Nat} {e : D} (he : ds[n]? = some e) : ∃ i : Int, e = .int i ∧ 0 ≤ i ∧ i ≤ n := by
  have := numbered_all.mp h n e he
  cases e with
  | int i => exact ⟨i, rfl, by simpa [intIn, leO] using this⟩
  | _ => simp [intIn] at this
theorem distB_long {ds : List D} (h : ¬ ds.length ≤ 400) : distB ds = false := by simp [distB, h]
theorem distB_bad {ds : List D} (h : okE ds = false) : distB ds = false := by simp [distB, h]
theorem distB_ok {ds : List D} (h : ds.length ≤ 400) (h2 : okE ds = true) : distB ds = decide ((((dd (tgs ds)).length : Nat) : Int) = ((((numbered 0 ds).filter (prB fun _ e => decide (toI e > 0))).length : Nat) : Int)) := by
  have e : (tgs ds).length = ((numbered 0 ds).filter (prB fun _ e => decide (toI e > 0))).length := by unfold tgs; rw [List.length_map]
  rw [← e]
  unfold distB
  rw [h2, decide_eq_true h]
  simp only [Bool.and_self, Bool.true_and, Int.ofNat_inj]
theorem tgs_length (ds : List D) : (tgs ds).length ≤ ds.length := by
  unfold tgs
  rw [List.length_map, ← numbered_length 0 ds]
  exact List.length_filter_le ..

def itemsOf (d : D) : List D := (dItems d).getD []

/-- what leaves the window is written as 0 -/
def clip (w : List Int) : List Int := w.mapIdx fun o e => if e ≤ (o : Int) then e else 0
def winI (ns : List Int) (s l : Int) : List Int := clip ((ns.drop s.toNat).take l.toNat)
theorem sIx_of {n d : Nat} {i : Int} (h : 0 ≤ i) : HT.sIx n d (some i) = min i.toNat n := by
  unfold HT.sIx
  have e : ¬ i < 0 := by omega
  simp [e]
theorem cut_win {α : Type} {ns : List α} {s l : Int} (h1 : 0 ≤ s) (h2 : 0 ≤ l) : cut ns (some s) (some (s + l)) = (ns.drop s.toNat).take l.toNat := by
  unfold cut
  rw [sIx_of h1, sIx_of (by omega)]
  have e : (s + l).toNat = s.toNat + l.toNat := by omega
  rw [e]
  rcases Nat.le_total s.toNat ns.length with h | h
  · rw [Nat.min_eq_left h]
    rcases Nat.le_total (s.toNat + l.toNat) ns.length with h3 | h3
    · rw [Nat.min_eq_left h3]
      congr 1; omega
    · rw [Nat.min_eq_right h3]
      rw [List.take_of_length_le (by rw [List.length_drop]; omega), List.take_of_length_le (by rw [List.length_drop]; omega)]
  · rw [Nat.min_eq_right h, List.drop_of_length_le h, List.drop_of_length_le (Nat.le_refl _)]
    simp

/-- a distance list's numbers -/
def nums (d : D) : List Int := (itemsOf d).map toI
theorem isDist_items {d : D} (h : isDist d = true) : itemsOf d = (nums d).map .int ∧ (nums d).length ≤ 400 := by
  have key : ∀ ds : List D, distB ds = true → ds = (ds.map toI).map .int ∧ (ds.map toI).length ≤ 400 := by
    intro ds h
    unfold distB at h
    simp only [Bool.and_eq_true, decide_eq_true_eq] at h
    refine ⟨?_, by rw [List.length_map]; exact h.1.1⟩
    apply List.ext_getElem?
    intro i
    rw [List.getElem?_map, List.getElem?_map]
    cases e : ds[i]? with
    | none => rfl
    | some d =>
      obtain ⟨j, rfl, _⟩ := okE_get h.1.2 e
      rfl
  cases d with
  | lst ds => exact key ds h
  | tup ds => exact key ds h
  | scr ns => exact key (ns.map .int) h
  | _ => cases h

/-- the last of the first n that f holds of -/
def lastIn (f : Nat → Bool) : Nat → Option Nat
  | 0 => none
  | n + 1 => if f n then some n else lastIn f n
theorem lastIn_some {f : Nat → Bool} : ∀ {n j : Nat}, lastIn f n = some j ↔ j < n ∧ f j = true ∧ ∀ m, j < m → m < n → f m = false
  | 0, j => by simp [lastIn]
  | n + 1, j => by
    unfold lastIn
    by_cases h : f n = true
    · rw [if_pos h]
      constructor
      · intro e; cases e
        exact ⟨Nat.lt_succ_self n, h, fun m h1 h2 => by omega⟩
      · rintro ⟨h1, h2, h3⟩
        rcases Nat.lt_or_ge j n with h4 | h4
        · have := h3 n h4 (Nat.lt_succ_self n); rw [h] at this; cases this
        · congr 1; omega
    · rw [if_neg h, lastIn_some]
      constructor
      · rintro ⟨h1, h2, h3⟩
        refine ⟨by omega, h2, fun m m1 m2 => ?_⟩
        rcases Nat.lt_or_ge m n with h4 | h4
        · exact h3 m m1 h4
        · have : m = n := by omega
          subst this; simpa using h
      · rintro ⟨h1, h2, h3⟩
        rcases Nat.lt_or_ge j n with h4 | h4
        · exact ⟨h4, h2, fun m m1 m2 => h3 m m1 (by omega)⟩
        · have : j = n := by omega
          subst this; exact absurd h2 h
theorem lastIn_none {f : Nat → Bool} : ∀ {n : Nat}, lastIn f n = none ↔ ∀ m, m < n → f m = false
  | 0 => by simp [lastIn]
  | n + 1 => by
    unfold lastIn
    by_cases h : f n = true
    · rw [if_pos h]
      constructor
      · intro e; cases e
      · intro h2; have := h2 n (Nat.lt_succ_self n); rw [h] at this; cases this
    · rw [if_neg h, lastIn_none]
      constructor
      · intro h2 m hm
        rcases Nat.lt_or_ge m n with h4 | h4
        · exact h2 m h4
        · have : m = n := by omega
          subst this; simpa using h
      · intro h2 m hm; exact h2 m (by omega)
/-- the distance from position p to the last equal sign -/
def dAt {α : Type} [DecidableEq α] (w : List α) (p : Nat) : Int := match lastIn (fun j => decide (w[j]? = w[p]?)) p with
  | some j => (p : Int) - (j : Nat)
  | none => 0
def dist {α : Type} [DecidableEq α] (w : List α) : List Int := (List.range w.length).map (dAt w)
theorem dist_length {α : Type} [DecidableEq α] (w : List α) : (dist w).length = w.length := by simp [dist]
theorem dist_get {α : Type} [DecidableEq α] (w : List α) {p : Nat} (h : p < w.length) : (dist w)[p]? = some (dAt w p) := by
  unfold dist
  rw [List.getElem?_map, List.getElem?_range h]; rfl
theorem dAt_map {α β : Type} [DecidableEq α] [DecidableEq β] (f : α → β) (hf : ∀ a b, f a = f b → a = b) (w : List α) (p : Nat) : dAt (w.map f) p = dAt w p := by
  unfold dAt
  have : (fun j : Nat => decide ((w.map f)[j]? = (w.map f)[p]?)) = fun j : Nat => decide (w[j]? = w[p]?) := by
    funext j
    rw [List.getElem?_map, List.getElem?_map]
    apply decide_eq_decide.mpr
    cases w[j]? <;> cases w[p]? <;> simp
    exact ⟨hf _ _, fun e => by rw [e]⟩
  rw [this]
theorem dist_map {α β : Type} [DecidableEq α] [DecidableEq β] (f : α → β) (hf : ∀ a b, f a = f b → a = b) (w : List α) : dist (w.map f) = dist w := by
  unfold dist
  rw [List.length_map]
  apply List.map_congr_left
  intro p _
  exact dAt_map f hf w p

/-! ### what a distance list is -/
theorem dAt_bounds {α : Type} [DecidableEq α] (w : List α) (p : Nat) : 0 ≤ dAt w p ∧ dAt w p ≤ p := by
  unfold dAt
  split
  · rename_i j h
    have := (lastIn_some.mp h).1
    omega
  · omega
theorem dAt_pos {α : Type} [DecidableEq α] {w : List α} {p : Nat} (h : 0 < dAt w p) : ∃ j, lastIn (fun j => decide (w[j]? = w[p]?)) p = some j ∧ dAt w p = (p : Int) - (j : Nat) := by
  unfold dAt at h ⊢
  split at h
  · rename_i j hj
    exact ⟨j, hj, rfl⟩
  · omega
theorem dist_mem {α : Type} [DecidableEq α] {w : List α} {e : Int} (h : e ∈ dist w) : 0 ≤ e ∧ e < w.length := by
  unfold dist at h
  obtain ⟨p, hp, rfl⟩ := List.mem_map.mp h
  have := dAt_bounds w p
  have := List.mem_range.mp hp
  omega
theorem dd_nodup {ns : List Int} (h : ns.Nodup) : dd ns = ns := by
  unfold dd
  rw [RZ.firstMet_nodup h ns.length (Nat.le_refl _), List.take_length]
theorem dist_ok {α : Type} [DecidableEq α] {w : List α} (h : w.length ≤ 400) : distB ((dist w).map .int) = true := by
  have ok : okE ((dist w).map .int) = true := by
    refine numbered_all.mpr fun n e he => ?_
    obtain ⟨i, hi, rfl⟩ := ints_get he
    have hn : n < w.length := by have := (List.getElem?_eq_some_iff.mp hi).1; rwa [dist_length] at this
    rw [dist_get w hn] at hi
    cases hi
    have := dAt_bounds w n
    simp [intIn, leO, this]
  rw [distB_ok (by rw [List.length_map, dist_length]; exact h) ok]
  have nd : (tgs ((dist w).map .int)).Nodup := by
    unfold tgs
    rw [List.Nodup, List.pairwise_map, List.pairwise_filter, List.pairwise_iff_getElem]
    intro i j hi hj hij h1 h2
    have e : ∀ (n : Nat) (hn : n < (numbered 0 ((dist w).map D.int)).length), (numbered 0 ((dist w).map D.int))[n] = .tup [.int (n : Int), .int (dAt w n)] ∧ n < w.length := fun n hn => by
      have hl : n < w.length := by rw [numbered_length, List.length_map, dist_length] at hn; exact hn
      have := num_at (ds := (dist w).map D.int) (n := n) (e := .int (dAt w n)) (by rw [List.getElem?_map, dist_get w hl]; rfl)
      rw [List.getElem?_eq_getElem hn] at this
      exact ⟨Option.some.inj this, hl⟩
    obtain ⟨e1, l1⟩ := e i hi
    obtain ⟨e2, l2⟩ := e j hj
    rw [e1] at h1 ⊢
    rw [e2] at h2 ⊢
    simp only [prB_e, prI_e, toI, decide_eq_true_eq, gt_iff_lt] at h1 h2 ⊢
    obtain ⟨a, ha, ea⟩ := dAt_pos h1
    obtain ⟨b, hb, eb⟩ := dAt_pos h2
    rw [ea, eb]
    intro z
    have ab : a = b := by omega
    subst ab
    obtain ⟨a1, a2, a3⟩ := lastIn_some.mp ha
    obtain ⟨b1, b2, b3⟩ := lastIn_some.mp hb
    have := b3 i a1 hij
    simp only [decide_eq_true_eq, decide_eq_false_iff_not] at a2 b2 this
    exact this (a2.symm.trans b2)
  rw [dd_nodup nd]
  apply decide_eq_true
  unfold tgs
  rw [List.length_map]
theorem isDist_l {α : Type} [DecidableEq α] {w : List α} (h : w.length ≤ 400) : isDist (.lst ((dist w).map .int)) = true := dist_ok h
theorem isDist_t {α : Type} [DecidableEq α] {w : List α} (h : w.length ≤ 400) : isDist (.tup ((dist w).map .int)) = true := dist_ok h
theorem toI_int (ns : List Int) : (ns.map D.int).map toI = ns := by
  rw [List.map_map]
  have : toI ∘ D.int = id := rfl
  rw [this, List.map_id]
theorem nums_l (ns : List Int) : nums (.lst (ns.map .int)) = ns := toI_int ns
theorem nums_t (ns : List Int) : nums (.tup (ns.map .int)) = ns := toI_int ns
/-! ### windows -/
theorem dAt_win {α : Type} [DecidableEq α] (w : List α) (s l o : Nat) (h : o < l) (h2 : s + o < w.length) : dAt ((w.drop s).take l) o = if dAt w (s + o) ≤ o then dAt w (s + o) else 0 := by
  have sub : ∀ j, j < l → ((w.drop s).take l)[j]? = w[s + j]? := fun j hj => by rw [List.getElem?_take_of_lt hj, List.getElem?_drop]
  unfold dAt
  cases hc : lastIn (fun j => decide (w[j]? = w[s + o]?)) (s + o) with
  | none =>
    have : lastIn (fun j => decide (((w.drop s).take l)[j]? = ((w.drop s).take l)[o]?)) o = none := by
      rw [lastIn_none] at hc ⊢
      intro m hm
      rw [sub m (by omega), sub o h]
      exact hc (s + m) (by omega)
    rw [this]
    simp only
    split <;> rfl
  | some j =>
    obtain ⟨h3, h4, h5⟩ := lastIn_some.mp hc
    simp only
    by_cases hj : s ≤ j
    · have : lastIn (fun j => decide (((w.drop s).take l)[j]? = ((w.drop s).take l)[o]?)) o = some (j - s) := by
        rw [lastIn_some]
        refine ⟨by omega, ?_, fun m m1 m2 => ?_⟩
        · rw [sub (j - s) (by omega), sub o h]
          have e : s + (j - s) = j := by omega
          rw [e]; exact h4
        · rw [sub m (by omega), sub o h]
          exact h5 (s + m) (by omega) (by omega)
      rw [this]
      simp only
      rw [if_pos (by omega)]
      omega
    · have : lastIn (fun j => decide (((w.drop s).take l)[j]? = ((w.drop s).take l)[o]?)) o = none := by
        rw [lastIn_none]
        intro m hm
        rw [sub m (by omega), sub o h]
        exact h5 (s + m) (by omega) (by omega)
      rw [this]
      simp only
      rw [if_neg (by omega)]
theorem win_dist {α : Type} [DecidableEq α] (w : List α) (s l : Int) : winI (dist w) s l = dist ((w.drop s.toNat).take l.toNat) := by
  unfold winI clip
  apply List.ext_getElem?
  intro o
  rw [List.getElem?_mapIdx]
  by_cases h : o < l.toNat ∧ s.toNat + o < w.length
  · rw [List.getElem?_take_of_lt h.1, List.getElem?_drop, dist_get w h.2, dist_get _ (by rw [List.length_take, List.length_drop]; omega), dAt_win w _ _ _ h.1 h.2]
    rfl
  · have h1 : (((dist w).drop s.toNat).take l.toNat)[o]? = none := by
      rw [List.getElem?_eq_none_iff, List.length_take, List.length_drop, dist_length]; omega
    rw [h1, List.getElem?_eq_none_iff.mpr (by rw [dist_length, List.length_take, List.length_drop]; omega)]
    rfl
theorem sub_sub {α : Type} (w : List α) (s l a m : Nat) (h : a + m ≤ l) : ((((w.drop s).take l).drop a).take m) = (w.drop (s + a)).take m := by
  rw [List.drop_take, List.drop_drop, List.take_take]
  congr 1; omega
/-! ### one more sign -/
theorem dAt_snoc {α : Type} [DecidableEq α] (w : List α) (x : α) {p : Nat} (h : p < w.length) : dAt (w ++ [x]) p = dAt w p := by
  unfold dAt
  have e : ∀ n, n ≤ p → lastIn (fun j => decide ((w ++ [x])[j]? = (w ++ [x])[p]?)) n = lastIn (fun j => decide (w[j]? = w[p]?)) n := by
    intro n
    induction n with
    | zero => intro _; rfl
    | succ n ih =>
      intro hn
      unfold lastIn
      rw [ih (by omega), List.getElem?_append_left (by omega), List.getElem?_append_left h]
  rw [e p (Nat.le_refl _)]
theorem dist_snoc {α : Type} [DecidableEq α] (w : List α) (x : α) : dist (w ++ [x]) = dist w ++ [dAt (w ++ [x]) w.length] := by
  unfold dist
  rw [List.length_append, List.length_singleton, List.range_succ, List.map_append]
  congr 1
  apply List.map_congr_left
  intro p hp
  exact dAt_snoc w x (List.mem_range.mp hp)
theorem dAt_again {α : Type} [DecidableEq α] (w : List α) (x : α) (h : w[w.length - 1]? = some x) : dAt (w ++ [x]) w.length = 1 := by
  have hl : w.length - 1 < w.length := (List.getElem?_eq_some_iff.mp h).1
  unfold dAt
  have : lastIn (fun j => decide ((w ++ [x])[j]? = (w ++ [x])[w.length]?)) w.length = some (w.length - 1) := by
    rw [lastIn_some]
    refine ⟨hl, ?_, fun m m1 m2 => by omega⟩
    rw [List.getElem?_append_left hl, h, List.getElem?_append_right (Nat.le_refl _)]
    simp
  rw [this]
  simp only
  omega
end Q


set_option Elab.async false
set_option linter.all false
set_option maxRecDepth 100000
set_option maxHeartbeats 2000000
set_option autoImplicit false
/-! Q17: a law's first statement makes its source of chance. -/
namespace Q
open PySem PySem.Spec PyProof.Rows L2
structure QF (X : Cx) (g : Gd) (st : Stmt) (i : Nat) (te : TE) (qn : TNq) : Prop where
  ps : PS X st (tAsg te (gName i))
  sm : ∀ M, SmN (cg X g M) W0 te qn
theorem qf_set {X : Cx} {g : Gd} {i : Nat} {x : Str} {e : Expr} {te : TE} {qn : TNq} {pos pos' : Pos} (hN : X.N.Nodup) (hi : X.N[i]? = some x) (hx : Loc X.env.scope x) (he : QN X g W0 e te qn) (hs : swapsWith e (some (.Name x pos')) pos.line X.env = pure false := by rfl)
    (hf : X.fn x = true ∨ X.env.scope.names.lookup x = some .local := by first | exact .inl rfl | exact .inr rfl | assumption) : QF X g (.Assign [.Name x pos'] e pos) i te qn := ⟨ps_set hN hi hx he.pe hs hf, he.sm⟩
theorem law_q2 {P : Program} {w : World} {K : Fg} {mg : Str → Option Value} {base : Heap} {x qual : Str} {params : Arguments} {st : Stmt} {sts : List Stmt} {scope : Scope} {f : Addr} {fd : FuncData} {N ps : List Str} {k : Nat} (i : Nat) (g : Gd)
    (Fn : FunD K x qual params (st :: sts) scope [] [] f fd) (S : FnScope N ps scope) (hl : ps.length = 1) (hl2 : 1 ≤ N.length)
    (hbody : ∀ (cdv : Value) (A : Around) (outer : List Env) (s : Shared) (H : Hp) (E : XK), A.guards = some [] → Room k (A.deeper (envOfC qual scope s.heap.objs.size f cdv)) →
      ∃ te qn t q, QF (cxOf (L2.CX P w) P w K mg base N qual scope f cdv A outer s H E) g st i te qn ∧ QSs (cxOf (L2.CX P w) P w K mg base N qual scope f cdv A outer s H E) g W0 sts t q ∧
        ∀ ns : List Int, ns.length ≤ 63 → qn (startE N [.bor (.scr ns)]) (fun r env => ∃ ds n, r = .own (.lst ds) ∧ g.ok ds ∧ g.cnt ds + n ≤ 2 ^ 60 ∧ i < env.length ∧ q { nx := fun _ => False, rt := fun r _ => r = .sh (.bl true) } (env.set i (.bag n))) fun _ _ _ => False) : FnG P w K mg base (k + 1) f fd ps (spLaw K) :=
  law_q (i := i) g Fn S hl hl2 fun cdv A outer s H E h1 h2 => by
    obtain ⟨te, qn, t, q, a, b, c⟩ := hbody cdv A outer s H E h1 h2
    exact ⟨te, qn, t, q, a.ps, fun M => a.sm M, b, c⟩
theorem loopJ {g : TGq} {body : TSq} {DQ : Ens} {items : List D} {env : En} (J : Nat → En → Prop) (h0 : J 0 env)
    (hs : ∀ n d env (X : En → Prop), items[n]? = some d → J n env → (∀ env', J (n + 1) env' → X env') → g d env fun env1 => body { DQ with nx := X, ct := X, bk := DQ.nx } env1)
    (he : ∀ env, J items.length env → DQ.nx env) : loopQ g body DQ items env := loop_rule (fun e : En => e) J env h0 hs he
end Q


set_option Elab.async false
set_option linter.all false
set_option maxRecDepth 100000
set_option maxHeartbeats 2000000
set_option autoImplicit false
/-! Q18: symbol ids, in plain words. -/
namespace Q
open PySem PySem.Spec PyProof.Rows L2
/-- how many zeros -/
def zc (ns : List Int) : Int := ((ns.filter fun e => decide (e = 0)).length : Nat)
theorem zc_snoc (ns : List Int) (e : Int) : zc (ns ++ [e]) = zc ns + if e = 0 then 1 else 0 := by
  unfold zc
  rw [List.filter_append]
  by_cases h : e = 0
  · rw [List.filter_cons_of_pos (by simpa using h), if_pos h]; simp
  · rw [List.filter_cons_of_neg (by simpa using h), if_neg h]; simp
theorem zc_filter (ns : List Int) : ((((ns.map D.int).filter fun d => decide (toI d = 0)).map fun d => d).length : Int) = zc ns := by
  unfold zc
  rw [List.length_map]
  congr 1
  rw [List.filter_map, List.length_map]
  rfl
def idStep (st : List Int × Int) (e : Int) : List Int × Int := if e = 0 then (st.1 ++ [st.2], st.2 + 1) else (st.1 ++ [st.1.getD ((st.1.length : Int) - e).toNat 0], st.2)
def idsD (ns : List Int) : List Int := (ns.foldl idStep ([], 0)).1
theorem ids_inv (ns : List Int) : (ns.foldl idStep ([], 0)).1.length = ns.length ∧ (ns.foldl idStep ([], 0)).2 = zc ns := by
  suffices h : ∀ (ns : List Int) (p : List Int × Int), (ns.foldl idStep p).1.length = p.1.length + ns.length ∧ (ns.foldl idStep p).2 = p.2 + zc ns by
    have := h ns ([], 0)
    simpa using this
  intro ns
  induction ns with
  | nil => intro p; exact ⟨rfl, by simp [zc]⟩
  | cons e ns ih =>
    intro p
    rw [List.foldl_cons]
    obtain ⟨h1, h2⟩ := ih (idStep p e)
    have z : zc (e :: ns) = (if e = 0 then 1 else 0) + zc ns := by
      unfold zc
      by_cases h : e = 0
      · rw [List.filter_cons_of_pos (by simpa using h), if_pos h, List.length_cons]; omega
      · rw [List.filter_cons_of_neg (by simpa using h), if_neg h]; omega
    rw [h1, h2, z]
    unfold idStep
    by_cases h : e = 0
    · rw [if_pos h, if_pos h]; simp; omega
    · rw [if_neg h, if_neg h]; simp; omega
theorem idsD_length (ns : List Int) : (idsD ns).length = ns.length := (ids_inv ns).1
theorem idsD_snoc (ns : List Int) (e : Int) : idsD (ns ++ [e]) = idsD ns ++ [if e = 0 then zc ns else (idsD ns).getD ((ns.length : Int) - e).toNat 0] := by
  unfold idsD
  rw [List.foldl_append, List.foldl_cons, List.foldl_nil]
  obtain ⟨h1, h2⟩ := ids_inv ns
  rw [idStep]
  by_cases h : e = 0
  · rw [if_pos h, if_pos h, h2]
  · rw [if_neg h, if_neg h, h1]
theorem isDist_okE {d : D} (h : isDist d = true) : okE (itemsOf d) = true := by
  have key : ∀ ds : List D, distB ds = true → okE ds = true := fun ds h => by
    unfold distB at h
    simp only [Bool.and_eq_true] at h
    exact h.1.2
  cases d with
  | lst ds => exact key ds h
  | tup ds => exact key ds h
  | scr ns => exact key (ns.map .int) h
  | _ => cases h
/-! ### texts of one pattern -/
def Alike {α β : Type} (u : List α) (w : List β) : Prop := u.length = w.length ∧ ∀ i j, i < u.length → j < u.length → (u[i]? = u[j]? ↔ w[i]? = w[j]?)
theorem Alike.dAt {α β : Type} [DecidableEq α] [DecidableEq β] {u : List α} {w : List β} (h : Alike u w) {p : Nat} (hp : p < u.length) : dAt u p = dAt w p := by
  unfold Q.dAt
  have e : ∀ n, n ≤ p → lastIn (fun j => decide (u[j]? = u[p]?)) n = lastIn (fun j => decide (w[j]? = w[p]?)) n := by
    intro n
    induction n with
    | zero => intro _; rfl
    | succ n ih =>
      intro hn
      unfold lastIn
      rw [ih (by omega), decide_eq_decide.mpr (h.2 n p (by omega) hp)]
  rw [e p (Nat.le_refl _)]
theorem Alike.dist {α β : Type} [DecidableEq α] [DecidableEq β] {u : List α} {w : List β} (h : Alike u w) : dist u = dist w := by
  unfold Q.dist
  rw [← h.1]
  apply List.map_congr_left
  intro p hp
  exact h.dAt (List.mem_range.mp hp)
theorem Alike.refl {α : Type} (u : List α) : Alike u u := ⟨rfl, fun _ _ _ _ => Iff.rfl⟩
theorem Alike.symm {α β : Type} {u : List α} {w : List β} (h : Alike u w) : Alike w u := ⟨h.1.symm, fun i j hi hj => (h.2 i j (by rw [h.1]; exact hi) (by rw [h.1]; exact hj)).symm⟩
theorem Alike.trans {α β γ : Type} {u : List α} {w : List β} {z : List γ} (h : Alike u w) (h2 : Alike w z) : Alike u z := ⟨h.1.trans h2.1, fun i j hi hj => (h.2 i j hi hj).trans (h2.2 i j (by rw [← h.1]; exact hi) (by rw [← h.1]; exact hj))⟩
/-- a choice of positions -/
theorem Alike.pick {α β : Type} {u u2 : List α} {w w2 : List β} (h : Alike u w) (f : Nat → Nat) (hu : ∀ i, i < u2.length → f i < u.length ∧ u2[i]? = u[f i]?) (hw : ∀ i, i < w2.length → w2[i]? = w[f i]?) (hl : u2.length = w2.length) : Alike u2 w2 :=
  ⟨hl, fun i j hi hj => by
    rw [(hu i hi).2, (hu j hj).2, hw i (by omega), hw j (by omega)]
    exact h.2 _ _ (hu i hi).1 (hu j hj).1⟩
theorem erase_get {α : Type} (u : List α) (p i : Nat) (hp : p ≤ u.length) : (u.take p ++ u.drop (p + 1))[i]? = u[if i < p then i else i + 1]? := by
  by_cases h : i < p
  · rw [if_pos h, List.getElem?_append_left (by rw [List.length_take]; omega), List.getElem?_take_of_lt h]
  · rw [if_neg h, List.getElem?_append_right (by rw [List.length_take]; omega), List.length_take, List.getElem?_drop]
    congr 1; omega
theorem Alike.erase {α β : Type} {u : List α} {w : List β} (h : Alike u w) (p : Nat) (hp : p < u.length) : Alike (u.take p ++ u.drop (p + 1)) (w.take p ++ w.drop (p + 1)) := by
  have hw : p < w.length := by rw [← h.1]; exact hp
  have l1 : (u.take p ++ u.drop (p + 1)).length = u.length - 1 := by rw [List.length_append, List.length_take, List.length_drop]; omega
  have l2 : (w.take p ++ w.drop (p + 1)).length = w.length - 1 := by rw [List.length_append, List.length_take, List.length_drop]; omega
  refine h.pick (fun i => if i < p then i else i + 1) (fun i hi => ⟨?_, erase_get u p i (by omega)⟩) (fun i hi => erase_get w p i (by omega)) (by rw [l1, l2, h.1])
  rw [l1] at hi
  show (if i < p then i else i + 1) < _
  split <;> omega
/-- the ids of a distance list have its text's pattern -/
theorem ids_get (w : List Int) : ∀ p, p < w.length → (idsD (dist w))[p]? = some (if dAt w p = 0 then zc ((dist w).take p) else (idsD (dist w)).getD (p - (dAt w p).toNat) 0) := by
  have pre : ∀ n, n ≤ w.length → idsD ((dist w).take n) = (idsD (dist w)).take n := by
    intro n hn
    have key : ∀ (b a : List Int), (idsD (a ++ b)).take a.length = idsD a := by
      intro b
      induction b with
      | nil => intro a; rw [List.append_nil, ← idsD_length a, List.take_length]
      | cons e b ih =>
        intro a
        have := ih (a ++ [e])
        rw [List.append_assoc, List.singleton_append] at this
        have h2 : ((idsD (a ++ e :: b)).take (a ++ [e]).length).take a.length = (idsD (a ++ e :: b)).take a.length := by
          rw [List.take_take]; congr 1; simp
        rw [← h2, this, idsD_snoc, List.take_append_of_le_length (by rw [idsD_length]; exact Nat.le_refl _), ← idsD_length a, List.take_length]
    have := key ((dist w).drop n) ((dist w).take n)
    rw [List.take_append_drop, List.length_take, dist_length, Nat.min_eq_left hn] at this
    exact this.symm
  intro p hp
  have h1 := pre (p + 1) hp
  have hg : (dist w)[p]? = some (dAt w p) := dist_get w hp
  rw [List.take_add_one, hg] at h1
  have h1 : idsD ((dist w).take p ++ [dAt w p]) = _ := h1
  rw [idsD_snoc] at h1
  have h2 := congrArg (fun l => l[p]?) h1
  have hl : (idsD ((dist w).take p)).length = p := by rw [idsD_length, List.length_take, dist_length]; omega
  rw [List.getElem?_append_right (by omega), hl, Nat.sub_self, List.getElem?_take_of_lt (Nat.lt_succ_self p)] at h2
  rw [← h2, pre p (by omega)]
  have hb := dAt_bounds w p
  by_cases h0 : dAt w p = 0
  · rw [if_pos h0, if_pos h0]; rfl
  · rw [if_neg h0, if_neg h0]
    show some _ = _
    congr 1
    rw [List.getD_eq_getElem?_getD, List.getD_eq_getElem?_getD, List.length_take, dist_length, Nat.min_eq_left (by omega)]
    have e : ((p : Int) - dAt w p).toNat = p - (dAt w p).toNat := by omega
    rw [e, List.getElem?_take_of_lt (by omega)]
theorem dAt_zero {α : Type} [DecidableEq α] {w : List α} {p : Nat} (h : dAt w p = 0) : ∀ m, m < p → w[m]? ≠ w[p]? := by
  intro m hm e
  unfold dAt at h
  split at h
  · rename_i j hj
    have := (lastIn_some.mp hj).1
    omega
  · rename_i hj
    have := lastIn_none.mp hj m hm
    rw [decide_eq_false_iff_not] at this
    exact this e
theorem zc_mono (ns : List Int) : ∀ {m n : Nat}, m ≤ n → zc (ns.take m) ≤ zc (ns.take n) := by
  intro m n h
  have : ns.take m = (ns.take n).take m := by rw [List.take_take, Nat.min_eq_left h]
  rw [this]
  unfold zc
  exact Int.ofNat_le.mpr (((List.take_sublist m (ns.take n)).filter _).length_le)
theorem ids_root (w : List Int) : ∀ p, p < w.length → ∃ q, q ≤ p ∧ dAt w q = 0 ∧ w[q]? = w[p]? ∧ (idsD (dist w))[p]? = some (zc ((dist w).take q)) := by
  intro p
  induction p using Nat.strongRecOn with
  | ind p ih =>
    intro hp
    have g := ids_get w p hp
    by_cases h0 : dAt w p = 0
    · rw [if_pos h0] at g
      exact ⟨p, Nat.le_refl _, h0, rfl, g⟩
    · rw [if_neg h0] at g
      have hb := dAt_bounds w p
      obtain ⟨j, hj, ej⟩ := dAt_pos (w := w) (p := p) (by omega)
      obtain ⟨j1, j2, _⟩ := lastIn_some.mp hj
      have e : p - (dAt w p).toNat = j := by omega
      obtain ⟨q, q1, q2, q3, q4⟩ := ih j j1 (by omega)
      refine ⟨q, by omega, q2, q3.trans (of_decide_eq_true j2), ?_⟩
      rw [g, e, List.getD_eq_getElem?_getD, q4]; rfl
theorem ids_alike (w : List Int) : Alike (idsD (dist w)) w := by
  refine ⟨by rw [idsD_length, dist_length], fun i j hi hj => ?_⟩
  rw [idsD_length, dist_length] at hi hj
  obtain ⟨q, q1, q2, q3, q4⟩ := ids_root w i hi
  obtain ⟨r, r1, r2, r3, r4⟩ := ids_root w j hj
  rw [q4, r4, ← q3, ← r3]
  have lt : ∀ a b, a < b → b < w.length → dAt w a = 0 → zc ((dist w).take a) < zc ((dist w).take b) := fun a b h1 h2 h3 => by
    have h4 := zc_mono (dist w) (m := a + 1) (n := b) h1
    rw [List.take_add_one, dist_get w (by omega), h3] at h4
    have h5 : zc ((dist w).take a ++ [0]) = zc ((dist w).take a) + 1 := by rw [zc_snoc, if_pos rfl]
    have h4 : zc ((dist w).take a ++ [0]) ≤ _ := h4
    omega
  constructor
  · intro e
    rcases Nat.lt_trichotomy q r with h | h | h
    · have := lt q r h (by omega) q2
      have e := Option.some.inj e
      omega
    · rw [h]
    · have := lt r q h (by omega) r2
      have e := Option.some.inj e
      omega
  · intro e
    rcases Nat.lt_trichotomy q r with h | h | h
    · exact absurd e (dAt_zero r2 q h)
    · rw [h]
    · exact absurd e.symm (dAt_zero q2 r h)
theorem dist_ids (w : List Int) : dist (idsD (dist w)) = dist w := (ids_alike w).dist
/-! how many signs -/
theorem dd_snoc (u : List Int) (x : Int) : dd (u ++ [x]) = if x ∈ dd u then dd u else dd u ++ [x] := by
  unfold dd
  rw [List.length_append, List.length_singleton, firstMet_succ]
  have e : ∀ n, n ≤ u.length → firstMet (fun i => (u ++ [x]).getD i 0) n = firstMet (fun i => u.getD i 0) n := by
    intro n
    induction n with
    | zero => intro _; rfl
    | succ n ih =>
      intro hn
      rw [firstMet_succ, firstMet_succ, ih (by omega)]
      congr 1
      rw [List.getD_eq_getElem?_getD, List.getD_eq_getElem?_getD, List.getElem?_append_left (by omega)]
  rw [e _ (Nat.le_refl _)]
  have e2 : (u ++ [x]).getD u.length 0 = x := by
    rw [List.getD_eq_getElem?_getD, List.getElem?_append_right (Nat.le_refl _)]; simp
  rw [e2]
  unfold step_dedup
  generalize firstMet (fun i => u.getD i 0) u.length = l
  by_cases h : x ∈ l
  · rw [if_pos h, if_pos (List.any_eq_true.mpr ⟨x, h, by simp⟩)]
  · rw [if_neg h, if_neg]
    intro z
    obtain ⟨y, hy, e⟩ := List.any_eq_true.mp z
    have : y = x := by simpa using e
    subst this; exact h hy
theorem dd_mem (u : List Int) (x : Int) : x ∈ dd u ↔ x ∈ u := by
  suffices h : ∀ n (u : List Int), u.length = n → (x ∈ dd u ↔ x ∈ u) from h _ u rfl
  intro n
  induction n with
  | zero => intro u hu; rw [List.eq_nil_of_length_eq_zero hu]; exact Iff.rfl
  | succ n ih =>
    intro u hu
    obtain ⟨v, y, rfl⟩ : ∃ v y, u = v ++ [y] := by
      refine ⟨u.dropLast, u.getLast (by intro e; rw [e] at hu; cases hu), ?_⟩
      rw [List.dropLast_concat_getLast]
    rw [dd_snoc, List.mem_append, List.mem_singleton]
    have := ih v (by simpa using hu)
    split
    · rename_i h
      rw [this]
      constructor
      · exact .inl
      · rintro (h2 | rfl)
        · exact h2
        · exact this.mp h
    · rw [List.mem_append, List.mem_singleton, this]
theorem dd_zc (u : List Int) : ((dd u).length : Int) = zc (dist u) := by
  suffices h : ∀ n (u : List Int), u.length = n → ((dd u).length : Int) = zc (dist u) from h _ u rfl
  intro n
  induction n with
  | zero => intro u hu; rw [List.eq_nil_of_length_eq_zero hu]; rfl
  | succ n ih =>
    intro u hu
    obtain ⟨v, y, rfl⟩ : ∃ v y, u = v ++ [y] := by
      refine ⟨u.dropLast, u.getLast (by intro e; rw [e] at hu; cases hu), ?_⟩
      rw [List.dropLast_concat_getLast]
    rw [dd_snoc, dist_snoc, zc_snoc, ← ih v (by simpa using hu)]
    have hy : (v ++ [y])[v.length]? = some y := by rw [List.getElem?_append_right (Nat.le_refl _)]; simp
    by_cases h : y ∈ v
    · rw [if_pos ((dd_mem v y).mpr h), if_neg]
      · omega
      · intro h0
        obtain ⟨m, hm⟩ := List.getElem?_of_mem h
        have hl : m < v.length := (List.getElem?_eq_some_iff.mp hm).1
        refine dAt_zero h0 m hl ?_
        rw [hy, List.getElem?_append_left hl, hm]
    · rw [if_neg (fun z => h ((dd_mem v y).mp z)), if_pos]
      · simp
      · unfold dAt
        rw [lastIn_none.mpr]
        intro m hm
        rw [decide_eq_false_iff_not, hy, List.getElem?_append_left hm]
        intro e
        exact h (List.mem_of_getElem? e)
end Q


set_option Elab.async false
set_option linter.all false
set_option maxRecDepth 100000
set_option maxHeartbeats 2000000
set_option autoImplicit false
/-! Q19: more rules: comprehensions over numbers, clear, xs[::-1]. -/
namespace Q
open PySem PySem.Spec PyProof.Rows L2
theorem comp_ints {g : TGq} {tt : TTq} {te : TEq} {vs : List Nat} {ns : List Int} {env : En} {k : List D → En → Prop} (p : Int → Bool) (f : Int → D)
    (hs : ∀ (n : Nat) (i : Int) (acc : List D) (X : List D → En → Prop), ns[n]? = some i → n < ns.length → acc.length ≤ n → (p i = true → X (acc ++ [f i]) env) → (p i = false → X acc env) → compStep g tt te vs acc X (.int i) env)
    (he : k ((ns.filter p).map f) env) : compQ g tt te vs (ns.map .int) [] env k := by
  refine comp_pure (fun d => p (toI d)) (fun d => f (toI d)) (fun n d acc X hd hl hX => ?_) ?_
  · obtain ⟨i, hi, rfl⟩ := ints_get hd
    refine hs n i acc X hi (List.getElem?_eq_some_iff.mp hi).1 hl (fun h => ?_) fun h => ?_
    · have hX : X (if p i = true then acc ++ [f i] else acc) env := hX
      rwa [if_pos h] at hX
    · have hX : X (if p i = true then acc ++ [f i] else acc) env := hX
      rwa [if_neg (by rw [h]; exact Bool.false_ne_true)] at hX
  · rw [List.filter_map, List.map_map]
    exact he
/-- the same over an enumeration of numbers -/
theorem comp_enum {g : TGq} {tt : TTq} {te : TEq} {vs : List Nat} {ns : List Int} {env : En} {k : List D → En → Prop} (f : Nat → Int → D)
    (hs : ∀ (n : Nat) (i : Int) (acc : List D) (X : List D → En → Prop), ns[n]? = some i → n < ns.length → acc.length ≤ n → X (acc ++ [f n i]) env → compStep g tt te vs acc X (.tup [.int (n : Int), .int i]) env)
    (he : k (ns.mapIdx f) env) : compQ g tt te vs (numbered 0 (ns.map .int)) [] env k := by
  refine comp_rule (fun _ : Unit => env) (fun n _ acc => acc = (ns.take n).mapIdx f) () (by simp) (fun n d a acc X hd hI hX => ?_) fun a acc h => ?_
  · obtain ⟨e, he, rfl⟩ := num_get hd
    obtain ⟨i, hi, rfl⟩ := ints_get he
    have hn := (List.getElem?_eq_some_iff.mp hi).1
    refine hs n i acc X hi hn (by rw [hI, List.length_mapIdx]; exact List.length_take_le ..) (hX () _ ?_)
    rw [List.take_add_one, hi]
    show _ = ((ns.take n) ++ [i]).mapIdx f
    rw [List.mapIdx_append, ← hI]
    have e : (ns.take n).length = n := by rw [List.length_take]; omega
    rw [e]
    simp
  · rw [numbered_length, List.length_map, List.take_length] at h
    rw [h]; exact he
def fClear : D → List D → (D → D → Prop) → Prop
  | .lst _, [], k => k .non (.lst [])
  | _, _, _ => False
theorem f_clear {a : List D} {km : D → D → Prop} : fClear (.lst a) [] km = km .non (.lst []) := rfl
theorem m_clear {K : Fg} : OwnM K rClear fClear := by
  intro S H p d vs ds k Q s o hp r hf hk
  unfold fClear at hf
  split at hf
  · cases r
    cases o with
    | lst h r0 => exact ⟨p, _, rfl, rfl, h, hk _ _ _ _ .non (.lst upd_same .nil) hf⟩
  · exact hf.elim
theorem Reps.reverse {K : Fg} {S : Hp} : ∀ {vs : List V} {ds : List D}, Reps K S vs ds → Reps K S vs.reverse ds.reverse
  | _, _, .nil => .nil
  | _, _, .cons h r => by
    rw [List.reverse_cons, List.reverse_cons]
    exact r.reverse.append (.cons h .nil)
section
variable {X : Cx} {g : Gd} {W : WX} {e : Expr} {te : TE} {qe : TEq} {pos : Pos}
def qRev (q : TEq) : TNq := fun env k x => q env (fun y env1 => ∃ d, res env1 y = some d ∧ dL (fun ds => k (.own (.lst ds.reverse)) env1) d) x
theorem qn_rev {k : Nat} {p1 p2 p3 : Pos} (he : QE X g W e te qe) : QN X g W (.Subscript e (.Slice none none (some (.UnaryOp .USub (.Constant (.int 1) k p1) p2)) p3) pos) (tRevL X.K te) (qRev qe) :=
  ⟨pe_revL he.pe, fun N F P S b σ H env kk x Q R hq hx hk => by
    refine he.sm N F P S b σ H env _ x _ R hq hx fun S1 H1 env1 v y R1 e1 r1 h1 => ?_
    obtain ⟨d, hd, h2⟩ := h1
    cases d <;> first | exact False.elim h2 | skip
    have a := R1.read r1 hd
    cases a with
    | lst h0 rr =>
      refine ⟨_, _, rfl, SqL.of h0, fun p hp => ?_⟩
      exact (R1.out e1 hk).new p _ _ hp (.lst upd_same (Reps.reverse rr)) h2⟩
theorem e_rev {q : TEq} {env : En} {kn : Rv → En → Prop} {x : XQ} : qRev q env kn x = q env (fun y env1 => rd env1 y (dL (hold (fun ds => kn (.own (.lst ds.reverse)) env1) .mk))) x := rfl
end
end Q


set_option Elab.async false
set_option linter.all false
set_option maxRecDepth 100000
set_option maxHeartbeats 2000000
set_option autoImplicit false
/-! Q20: slices, in plain words. -/
namespace Q
open PySem PySem.Spec PyProof.Rows L2
theorem sIx_none {n d : Nat} : HT.sIx n d none = d := rfl
theorem cut_to {α : Type} {xs : List α} {p : Int} (h : 0 ≤ p) : cut xs none (some p) = xs.take p.toNat := by
  unfold cut
  rw [sIx_none, sIx_of h, List.drop_zero, Nat.sub_zero]
  rcases Nat.le_total p.toNat xs.length with h2 | h2
  · rw [Nat.min_eq_left h2]
  · rw [Nat.min_eq_right h2, List.take_length, List.take_of_length_le h2]
theorem cut_from {α : Type} {xs : List α} {p : Int} (h : 0 ≤ p) : cut xs (some p) none = xs.drop p.toNat := by
  unfold cut
  rw [sIx_none, sIx_of h]
  rcases Nat.le_total p.toNat xs.length with h2 | h2
  · rw [Nat.min_eq_left h2, List.take_of_length_le (by rw [List.length_drop]; exact Nat.le_refl _)]
  · rw [Nat.min_eq_right h2, List.drop_of_length_le h2, List.drop_of_length_le (Nat.le_refl _)]; simp
theorem cut_last {α : Type} {xs : List α} : cut xs none (some (-1)) = xs.dropLast := by
  unfold cut
  rw [sIx_none, List.drop_zero, Nat.sub_zero, List.dropLast_eq_take]
  congr 1
  unfold HT.sIx
  simp
  omega
theorem int_take {ns : List Int} {n : Nat} : (ns.map D.int).take n = (ns.take n).map D.int := List.map_take.symm
theorem int_drop {ns : List Int} {n : Nat} : (ns.map D.int).drop n = (ns.drop n).map D.int := List.map_drop.symm
theorem int_dropLast {ns : List Int} : (ns.map D.int).dropLast = ns.dropLast.map D.int := by rw [List.dropLast_eq_take, List.dropLast_eq_take, List.length_map, int_take]
theorem int_rev {ns : List Int} : (ns.map D.int).reverse = ns.reverse.map D.int := List.map_reverse.symm
theorem int_nil : ([] : List D) = ([] : List Int).map D.int := rfl
end Q


set_option Elab.async false
set_option linter.all false
set_option maxRecDepth 100000
set_option maxHeartbeats 2000000
set_option autoImplicit false
/-! Q21: len(dict); first occurrences. -/
namespace Q
open PySem PySem.Spec PyProof.Rows L2
section
variable {X : Cx} {g : Gd} {W : WX} {pos : Pos}
def qLenD (i : Nat) : TEq := fun env k _ => ∃ kvs : List (Key × D), env[i]? = some (.own (.dct kvs)) ∧ k (.d (.int (kvs.length : Nat))) env
theorem q_lenD {i : Nat} {x : Str} {p px : Pos} (hg : Gl X "len") (hm : X.mg "len" = none) (hN : X.N[i]? = some x) (hv : Vis X.env.scope x) (hd : (x == ("__debug__" : Str)) = false := by decide) (hcd : (x == ("__classdict__" : Str)) = false := by decide)
    (hs : starEach [Expr.Name x px] X.env = (false, eval (.Name x px) X.env) :: starEach [] X.env := by rfl) (hpl : (backTo pos (starEach [] X.env)).any (·.1) = false := by rfl) :
    QE X g W (.Call (.Name "len" p) [.Name x px] [] pos) (tCB (fun xs H Q => ∃ a kvs, xs = [V.ref a] ∧ H a = some (.dK kvs) ∧ Q (.int kvs.length) H) (tCons (tVar i) tNil)) (qLenD i) :=
  ⟨pe_callB call_lenD hg hm (by rfl) (pa_cons (pe_var hN hv hd hcd) pa_nil hs) (by decide) (by decide) hs hpl, fun N F P S b σ H env k x Q R hq hx hk => by
    obtain ⟨kvs, hi, h2⟩ := hq
    obtain ⟨v, hv2, hs2⟩ := R.slot hi
    cases v with
    | none => exact hs2.elim
    | some v =>
      obtain ⟨a, rfl, h3, h4, h5, ho⟩ := hs2
      cases ho with
      | dct h0 rr =>
        refine ⟨_, hv2, a, _, rfl, h0, ?_⟩
        rw [rr.length]
        exact hk S H env _ (.d (.int _)) R Ext.refl (.int _) h2⟩
theorem e_lenD {i : Nat} {env : En} {k : Va → En → Prop} {x : XQ} : qLenD i env k x = lk env i (sO (dX fun kvs => k (.d (.int (kvs.length : Nat))) env)) := by
  unfold qLenD
  rw [← lk_O]
  apply propext
  constructor
  · rintro ⟨kvs, h, q⟩; exact ⟨_, h, q⟩
  · rintro ⟨d, h, q⟩
    cases d <;> first | exact False.elim q | exact ⟨_, h, q⟩
end
theorem dAt_eq0 {α : Type} [DecidableEq α] {w : List α} {p : Nat} (h : ∀ m, m < p → w[m]? ≠ w[p]?) : dAt w p = 0 := by
  unfold dAt
  rw [lastIn_none.mpr fun m hm => decide_eq_false_iff_not.mpr (h m hm)]
theorem first_iff {α : Type} [DecidableEq α] {w : List α} {p : Nat} {x : α} (h : w[p]? = some x) : x ∉ w.take p ↔ dAt w p = 0 := by
  constructor
  · intro hx
    refine dAt_eq0 fun m hm e => hx ?_
    rw [h] at e
    exact List.mem_of_getElem? (i := m) (by rw [List.getElem?_take_of_lt hm]; exact e)
  · intro h0 hx
    obtain ⟨m, hm⟩ := List.getElem?_of_mem hx
    have hl : m < p := by have := (List.getElem?_eq_some_iff.mp hm).1; rw [List.length_take] at this; omega
    rw [List.getElem?_take_of_lt hl] at hm
    exact dAt_zero h0 m hl (by rw [hm, h])
theorem pD_new {kvs : List (Key × D)} {k : Key} {v : D} (h : vD kvs k = none) : (pD kvs k v).length = kvs.length + 1 := by
  unfold pD
  have := vD_any k kvs
  rw [h] at this
  rw [if_neg (by rw [this]; exact Bool.false_ne_true)]
  simp
/-- the id of a sign -/
def idNo (w : List Int) (x : Int) : Int := (idsD (dist w)).getD (w.idxOf x) 0
theorem idNo_at {w : List Int} {n : Nat} {x v : Int} (h : w[n]? = some x) (hv : (idsD (dist w))[n]? = some v) : idNo w x = v := by
  have hn : n < w.length := (List.getElem?_eq_some_iff.mp h).1
  have hm : x ∈ w := List.mem_of_getElem? h
  have hx : w.idxOf x < w.length := List.idxOf_lt_length_iff.mpr hm
  have hg : w[w.idxOf x]? = some x := by rw [List.getElem?_eq_getElem hx, List.getElem_idxOf]
  unfold idNo
  rw [List.getD_eq_getElem?_getD, ((ids_alike w).2 (w.idxOf x) n (by rw [idsD_length, dist_length]; exact hx) (by rw [idsD_length, dist_length]; exact hn)).mpr (by rw [hg, h]), hv]; rfl
theorem idNo_map (w : List Int) : w.map (fun x => D.int (idNo w x)) = (idsD (dist w)).map D.int := by
  apply List.ext_getElem?
  intro n
  rw [List.getElem?_map, List.getElem?_map]
  cases h : w[n]? with
  | none =>
    rw [List.getElem?_eq_none_iff.mpr (by rw [idsD_length, dist_length]; exact List.getElem?_eq_none_iff.mp h)]
    rfl
  | some x =>
    have hn : n < w.length := (List.getElem?_eq_some_iff.mp h).1
    obtain ⟨v, hv⟩ : ∃ v, (idsD (dist w))[n]? = some v := ⟨_, List.getElem?_eq_getElem (by rw [idsD_length, dist_length]; exact hn)⟩
    rw [hv]
    show some (D.int (idNo w x)) = some (D.int v)
    rw [idNo_at h hv]
end Q


set_option Elab.async false
set_option linter.all false
set_option maxRecDepth 100000
set_option maxHeartbeats 2000000
set_option autoImplicit false
/-! Q22: a, b = x, y where what is new stays unshared. -/
namespace Q
open PySem PySem.Spec PyProof.Rows L2
theorem Ext.sub {P : Hp} {p : Addr} {o : HO} {A B : Hp} (z : Ext (upd P p o) A B) : Ext P A B := ⟨z.1, fun a h1 h2 => z.2 a h1 (by
  by_cases e : a = p
  · subst e; rw [upd_same]; simp
  · rw [upd_ne e]; exact h2)⟩
section
variable {X : Cx} {g : Gd} {W : WX} {a b e : Expr} {ta tb te : TE} {q1 q2 : TNq} {qe : TEq} {pos : Pos} {c : Cg}
/-- a value, frozen, as a result -/
def qToN (q : TEq) : TNq := fun env k x => q env (fun y env1 => ∃ d env2, sh1 env1 y = some (d, env2) ∧ k (.sh d) env2) x
theorem QE.toN (h : QE X g W e te qe) : QN X g W e te (qToN qe) := ⟨h.pe, fun N F P S b σ H env k x Q R hq hx hk => by
  refine h.sm N F P S b σ H env _ x _ R hq hx fun S1 H1 env1 v y R1 e1 r1 h1 => ?_
  obtain ⟨d, env2, hs, h2⟩ := h1
  obtain ⟨S2, R2, e2, r2⟩ := sh1_ok R1 r1 hs
  exact hk S2 H1 env2 v (.sh d) R2 (e1.trans e2) r2 (fun _ e => nomatch e) h2⟩
theorem e_toN {env : En} {k : Rv → En → Prop} {x : XQ} : qToN qe env k x = qe env (fun y env1 => sh1C env1 y fun d env2 => k (.sh d) env2) x := rfl
/-- two results, one after the other, the first kept while the second is made -/
theorem sm_two {F P S H : Hp} {bb : Option Addr} {σ : L2.St} {env : En} {x : XQ} {Q : V → V → Hp → Prop} {k : Rv → Rv → En → Prop} (h1 : SmN c W ta q1) (h2 : SmN c W tb q2) (R : Rel c F P S bb σ H env) (hq : q1 env (fun r1 env1 => q2 env1 (fun r2 env2 => k r1 r2 env2) x) x) (hx : XOk c F P bb W S x)
    (hk : ∀ (S' H' : Hp) (env' : En) (v u : V) (r1 r2 : Rv), Rel c F P S' bb σ H' env' → Ext P S S' → RvOk c.K P S' bb H' v r1 → RvOk c.K P S' bb H' u r2 → (∀ d, r1 = .own d → ∀ (i : Nat) (e : D) (p : Addr), v = .ref p → σ[i]? = some (some (.ref p)) → env'[i]? ≠ some (.own e)) →
      (∀ d, r2 = .own d → ∀ (i : Nat) (e : D) (p : Addr), u = .ref p → σ[i]? = some (some (.ref p)) → env'[i]? ≠ some (.own e)) → (∀ d d', r1 = .own d → r2 = .own d' → v ≠ u) → k r1 r2 env' → Q v u H') :
    ta σ H fun v H1 => tb σ H1 fun u H2 => Q v u H2 := by
  refine h1 F P S bb σ H env _ x _ R hq hx fun S1 H1 env1 v r1 R1 e1 o1 n1 hq1 => ?_
  cases r1 with
  | sh d =>
    refine h2 F P S1 bb σ H1 env1 _ x _ R1 hq1 (hx.mono e1) fun S2 H2 env2 u r2 R2 e2 o2 n2 hk2 => ?_
    exact hk S2 H2 env2 v u (.sh d) r2 R2 (e1.trans e2) (Rep.mono e2.1 o1) o2 (fun _ e => nomatch e) n2 (fun _ _ e => nomatch e) hk2
  | own d =>
    obtain ⟨p, rfl, pP, pS, pb, ho⟩ := o1
    obtain ⟨o, hp⟩ := ho.some
    have fp : F p = none := by
      cases hf : F p with
      | none => rfl
      | some z => have := R1.fp p z hf; rw [pP] at this; cases this
    have G := R1.guard pP hp pS pb (fun i e h => n1 d rfl i e p rfl h)
    refine h2 F (upd P p o) S1 bb σ H1 env1 _ x _ G hq1 (fun nm pay env' S' σ' H' C dd R' e' => hx nm pay env' S' σ' H' C dd (R'.unguard pP R1.fp) (e1.trans e'.sub)) fun S2 H2 env2 u r2 R2 e2 o2 n2 hk2 => ?_
    have hp2 : H2 p = some o := R2.ph p o upd_same
    have pS2 : S2 p = none := e2.2 p pS (by rw [upd_same]; simp)
    have un : ∀ q, upd P p o q = none → q ≠ p ∧ P q = none := fun q hq => by
      by_cases e : q = p
      · subst e; rw [upd_same] at hq; cases hq
      · rw [upd_ne e] at hq; exact ⟨e, hq⟩
    refine hk S2 H2 env2 (.ref p) u (.own d) r2 (R2.unguard pP R1.fp) (e1.trans e2.sub) ⟨p, rfl, pP, pS2, pb, ho.mono e2.1 (hp2.trans hp.symm)⟩ ?_ (fun _ _ i e q hv h3 h4 => ?_) n2 (fun d1 d2 _ hr => ?_) hk2
    · cases r2 with
      | sh d2 => exact o2
      | own d2 =>
        obtain ⟨q, rfl, qP, qS, qb, hq⟩ := o2
        exact ⟨q, rfl, (un q qP).2, qS, qb, hq⟩
    · cases hv
      have := (R2.ownAt h3 h4).1
      rw [upd_same] at this; cases this
    · subst hr
      obtain ⟨q, rfl, qP, _⟩ := o2
      intro e
      cases e
      exact (un p qP).1 rfl
def qParN (i j : Nat) (q1 q2 : TNq) : TSq := fun DQ env => q1 env (fun r1 env1 => q2 env1 (fun r2 env2 => DQ.nx ((env2.set i (rvSl r1)).set j (rvSl r2))) DQ.ex) DQ.ex
theorem qs_parN {i j : Nat} {x y : Str} {px py pt : Pos} {kt k2 pt2} (hc : X.calm = true) (hN : X.N.Nodup) (hi : X.N[i]? = some x) (hj : X.N[j]? = some y) (hij : i ≠ j)
    (hx : X.env.scope.names.lookup x = some .local) (hy : X.env.scope.names.lookup y = some .local) (ha : QN X g W a ta q1) (hb : QN X g W b tb q2)
    (hw : swappedStores [.Tuple [.Name x px, .Name y py] kt pt] (.Tuple [a, b] k2 pt2) X.env = pure (some [x, y]))
    (hs : swapsWithSole [.Tuple [.Name x px, .Name y py] kt pt] (.Tuple [a, b] k2 pt2) pos.line X.env = pure false := by rfl)
    (hs1 : starEach [a, b] X.env = (false, eval a X.env) :: starEach [b] X.env := by rfl) (hs2 : starEach [b] X.env = (false, eval b X.env) :: starEach [] X.env := by rfl) :
    QS X g W (.Assign [.Tuple [.Name x px, .Name y py] kt pt] (.Tuple [a, b] k2 pt2) pos) (tPar i j (tCons ta (tCons tb tNil))) (qParN i j q1 q2) :=
  ⟨ps_par hc hN hi hj hij hx hy (pa_cons ha.pe (pa_cons hb.pe pa_nil hs2) hs1) hw hs, fun N F P S bb σ H env DQ D R hq k => by
    refine sm_two (ha.sm N) (hb.sm N) R hq k.ex fun S' H' env' v u r1 r2 R' e' o1 o2 n1 n2 ne hk => ?_
    refine ⟨v, u, rfl, ?_⟩
    refine k.nx S' _ H' _ ((R'.putRv o1 n1).putRv o2 fun d2 er l e2 q hu h3 h4 => ?_) e' hk
    rcases getElem?_set' h3 with ⟨rfl, h5, _⟩ | ⟨h5, h6⟩
    · have hvu : v = u := by rw [hu]; exact (Option.some.inj h5).symm
      rcases getElem?_set' h4 with ⟨_, h7, _⟩ | ⟨h7, _⟩
      · cases r1 with
        | sh d => cases h7
        | own d => exact ne d d2 rfl er hvu
      · exact h7 rfl
    · rw [List.getElem?_set_ne (fun z => h5 z.symm)] at h4
      exact n2 d2 er l e2 q hu h6 h4⟩
theorem e_parN {i j : Nat} {DQ : Ens} {env : En} : qParN i j q1 q2 DQ env = q1 env (fun r1 env1 => q2 env1 (fun r2 env2 => rvC r1 fun s1 => rvC r2 fun s2 => st env2 i s1 fun env3 => st env3 j s2 DQ.nx) DQ.ex) DQ.ex := rfl
end
end Q


set_option Elab.async false
set_option linter.all false
set_option maxRecDepth 100000
set_option maxHeartbeats 2000000
set_option autoImplicit false
/-! Q23: beginnings of texts, of distance lists, of ids; one sign more or less. -/
namespace Q
open PySem PySem.Spec PyProof.Rows L2
theorem ids_pre : ∀ (b a : List Int), (idsD (a ++ b)).take a.length = idsD a := by
  intro b
  induction b with
  | nil => intro a; rw [List.append_nil, ← idsD_length a, List.take_length]
  | cons e b ih =>
    intro a
    have := ih (a ++ [e])
    rw [List.append_assoc, List.singleton_append] at this
    have h2 : ((idsD (a ++ e :: b)).take (a ++ [e]).length).take a.length = (idsD (a ++ e :: b)).take a.length := by
      rw [List.take_take]; congr 1; simp
    rw [← h2, this, idsD_snoc, List.take_append_of_le_length (by rw [idsD_length]; exact Nat.le_refl _), ← idsD_length a, List.take_length]
theorem ids_take (ns : List Int) (n : Nat) : idsD (ns.take n) = (idsD ns).take n := by
  rcases Nat.le_total n ns.length with h | h
  · have := ids_pre (ns.drop n) (ns.take n)
    rw [List.take_append_drop, List.length_take, Nat.min_eq_left h] at this
    exact this.symm
  · rw [List.take_of_length_le h, List.take_of_length_le (by rw [idsD_length]; exact h)]
theorem dist_pre {α : Type} [DecidableEq α] : ∀ (b a : List α), (dist (a ++ b)).take a.length = dist a := by
  intro b
  induction b with
  | nil => intro a; rw [List.append_nil, ← dist_length a, List.take_length]
  | cons e b ih =>
    intro a
    have := ih (a ++ [e])
    rw [List.append_assoc, List.singleton_append] at this
    have h2 : ((dist (a ++ e :: b)).take (a ++ [e]).length).take a.length = (dist (a ++ e :: b)).take a.length := by
      rw [List.take_take]; congr 1; simp
    rw [← h2, this, dist_snoc, List.take_append_of_le_length (by rw [dist_length]; exact Nat.le_refl _), ← dist_length a, List.take_length]
theorem dist_take {α : Type} [DecidableEq α] (w : List α) (n : Nat) : dist (w.take n) = (dist w).take n := by
  rcases Nat.le_total n w.length with h | h
  · have := dist_pre (w.drop n) (w.take n)
    rw [List.take_append_drop, List.length_take, Nat.min_eq_left h] at this
    exact this.symm
  · rw [List.take_of_length_le h, List.take_of_length_le (by rw [dist_length]; exact h)]
theorem dist_dropLast {α : Type} [DecidableEq α] (w : List α) : dist w.dropLast = (dist w).dropLast := by
  rw [List.dropLast_eq_take, List.dropLast_eq_take, dist_take, dist_length]
theorem ids_dropLast (ns : List Int) : idsD ns.dropLast = (idsD ns).dropLast := by
  rw [List.dropLast_eq_take, List.dropLast_eq_take, ids_take, idsD_length]
theorem zc_nonneg (ns : List Int) : 0 ≤ zc ns := Int.natCast_nonneg _
theorem zc_le (ns : List Int) : zc ns ≤ ns.length := by
  unfold zc
  exact Int.ofNat_le.mpr (List.length_filter_le ..)
/-- one sign put in and taken out again -/
theorem ins_erase {α : Type} (u : List α) (p : Nat) (s : α) (h : p ≤ u.length) : (u.take p ++ [s] ++ u.drop p).take p ++ (u.take p ++ [s] ++ u.drop p).drop (p + 1) = u := by
  have l : (u.take p).length = p := by rw [List.length_take]; omega
  have l2 : (u.take p ++ [s]).length = p + 1 := by rw [List.length_append, l]; rfl
  rw [List.append_assoc, List.take_append_of_le_length (by omega), List.take_of_length_le (by omega), ← List.append_assoc]
  rw [← l2, List.drop_left, List.take_append_drop]
theorem ins_length {α : Type} (u : List α) (p : Nat) (s : α) (h : p ≤ u.length) : (u.take p ++ [s] ++ u.drop p).length = u.length + 1 := by
  rw [List.length_append, List.length_append, List.length_take, List.length_drop, List.length_singleton]; omega
theorem era_length {α : Type} (u : List α) (p : Nat) (h : p < u.length) : (u.take p ++ u.drop (p + 1)).length = u.length - 1 := by
  rw [List.length_append, List.length_take, List.length_drop]; omega
theorem dist_erase (w : List Int) (p : Nat) (h : p < w.length) : dist ((idsD (dist w)).take p ++ (idsD (dist w)).drop (p + 1)) = dist (w.take p ++ w.drop (p + 1)) :=
  ((ids_alike w).erase p (by rw [idsD_length, dist_length]; exact h)).dist
theorem int_cons {ns : List Int} {i : Int} : [D.int i] ++ ns.map D.int = (i :: ns).map D.int := rfl
end Q


set_option Elab.async false
set_option linter.all false
set_option maxRecDepth 100000
set_option maxHeartbeats 2000000
set_option autoImplicit false
/-! Q24: d.get(k, x). -/
namespace Q
open PySem PySem.Spec PyProof.Rows L2
section
variable {X : Cx} {g : Gd} {W : WX} {o e f : Expr} {td te tf : TE} {qd qk qf : TEq} {c : Cg}
def getC (kvs : List (Key × D)) (key : Key) (a : D → Prop) (b : Prop) : Prop := match vD kvs key with
  | some e => a e
  | none => b
theorem getC_some {kvs : List (Key × D)} {key : Key} {a : D → Prop} {b : Prop} {e : D} (h : vD kvs key = some e) (q : a e) : getC kvs key a b := by unfold getC; rw [h]; exact q
theorem getC_none {kvs : List (Key × D)} {key : Key} {a : D → Prop} {b : Prop} (h : vD kvs key = none) (q : b) : getC kvs key a b := by unfold getC; rw [h]; exact q
def qDGetD (qd qk qf : TEq) : TEq := fun env k x => qd env (fun y env1 => rd env1 y (dX fun _ => True) ∧ qk env1 (fun z env2 => qf env2 (fun w env3 => rd env3 y (dX fun kvs => rd env3 z (dK fun key => getC kvs key (hold (fun e => k (.d e) env3) .mk) (hold (fun _ : Unit => k w env3) .mk ())))) x) x) x
theorem e_getD {env : En} {k : Va → En → Prop} {x : XQ} : qDGetD qd qk qf env k x = qd env (fun y env1 => rd env1 y (dX fun _ => True) ∧ qk env1 (fun z env2 => qf env2 (fun w env3 => rd env3 y (dX fun kvs => rd env3 z (dK fun key => getC kvs key (hold (fun e => k (.d e) env3) .mk) (hold (fun _ : Unit => k w env3) .mk ())))) x) x) x := rfl
theorem sm_getD (ha : Sm c W td qd) (hb : Sm c W te qk) (hf : Sm c W tf qf) : Sm c W (tDGet2 td te tf) (qDGetD qd qk qf) := by
  intro F P S b σ H env k x Q R hq hx hk
  refine ha F P S b σ H env _ x _ R hq hx fun S1 H1 env1 v y R1 e1 r1 h1 => ?_
  obtain ⟨⟨d0, hd0, h0⟩, h1⟩ := h1
  cases d0 <;> first | exact False.elim h0 | skip
  have a0 := R1.read r1 hd0
  cases a0 with
  | dct hr0 _ =>
  refine ⟨_, rfl, .inl ⟨_, hr0⟩, ?_⟩
  refine hb F P S1 b σ H1 env1 _ x _ R1 h1 (hx.mono e1) fun S2 H2 env2 u z R2 e2 r2 h2 => ?_
  refine hf F P S2 b σ H2 env2 _ x _ R2 h2 (hx.mono (e1.trans e2)) fun S3 H3 env3 u3 z3 R3 e3 r3 h3 => ?_
  obtain ⟨d, hd, h3⟩ := h3
  cases d <;> first | exact False.elim h3 | skip
  rename_i kvs
  have h3 : rd env3 z (dK fun key => getC kvs key (hold (fun e => k (.d e) env3) .mk) (hold (fun _ : Unit => k z3 env3) .mk ())) := h3
  rw [← rd_K] at h3
  obtain ⟨key, hk2, h3⟩ := h3
  obtain ⟨dz, hz, hkd⟩ := res_bind hk2
  have a1 := R3.read (r1.mono (e2.1.trans e3.1)) hd
  have a2 := R3.read (r2.mono e3.1) hz
  cases a1 with
  | dct hr r =>
    refine ⟨_, .inl ⟨_, key, hr, keyV a2 hkd, rfl⟩, ?_⟩
    unfold getC at h3
    rcases r.val key with ⟨z1, z2⟩ | ⟨v', d', z1, z2, rv⟩
    · rw [z2] at h3
      rw [z1]
      exact hk S3 H3 env3 u3 z3 R3 (e1.trans (e2.trans e3)) r3 h3
    · rw [z2] at h3
      rw [z1]
      exact hk S3 H3 env3 v' (.d d') R3 (e1.trans (e2.trans e3)) rv h3
theorem q_getD {apos cpos : Pos} (hu : X.A.units + 1 < cLine) (ha : QE X g W o td qd) (hb : QE X g W e te qk) (hf : QE X g W f tf qf) (m : M2 X o "get" apos e f cpos) : QE X g W (.Call (.Attribute o "get" apos) [e, f] [] cpos) (tDGet2 td te tf) (qDGetD qd qk qf) :=
  ⟨pe_dget2 hu ha.pe hb.pe hf.pe m, fun N => sm_getD (ha.sm N) (hb.sm N) (hf.sm N)⟩
end
end Q


set_option Elab.async false
set_option linter.all false
set_option maxRecDepth 100000
set_option maxHeartbeats 2000000
set_option autoImplicit false
/-! Q25: ranges as lists of numbers; where a pattern occurs. -/
namespace Q
open PySem PySem.Spec PyProof.Rows L2
def upto (n : Nat) : List Int := (List.range n).map fun i : Nat => (i : Int)
theorem ranged_upto (n : Nat) : ranged 0 n = (upto n).map .int := by
  unfold ranged upto
  rw [List.map_map]
  apply List.map_congr_left
  intro i _
  show D.int (0 + (i : Int)) = D.int (i : Int)
  rw [Int.zero_add]
theorem upto_length (n : Nat) : (upto n).length = n := by unfold upto; simp
theorem upto_get {n i : Nat} {v : Int} (h : (upto n)[i]? = some v) : v = (i : Nat) ∧ i < n := by
  unfold upto at h
  rw [List.getElem?_map] at h
  rcases Nat.lt_or_ge i n with hl | hl
  · rw [List.getElem?_range hl] at h
    cases h; exact ⟨rfl, hl⟩
  · rw [List.getElem?_eq_none (by simpa using hl)] at h; cases h
/-- the starts at which the window is the pattern -/
def findI (ns ps : List Int) : List Int := (upto ((ns.length : Int) - ps.length + 1).toNat).filter fun s => decide (winI ns s ps.length = ps)
end Q


set_option Elab.async false
set_option linter.all false
set_option maxRecDepth 100000
set_option maxHeartbeats 2000000
set_option autoImplicit false
/-! Q26: in, not in; methods that only read: index, count. -/
namespace Q
open PySem PySem.Spec PyProof.Rows L2
section
variable {c : Cg} {X : Cx} {g : Gd} {W : WX} {o e a b : Expr} {es : List Expr} {t to te ta tb : TE} {tl : TA} {q qo qe qa qb : TEq} {ql : TAq} {pos p2 : Pos}
theorem units65 {k : Nat} {A : Around} (r : Room k A) : A.units + 65 < cLine := by have := r.un; omega
/-! ### methods that read -/
def tyOk (T : String) : D → Bool
  | .lst _ => T == "list"
  | .scr _ => T == "list"
  | .str _ => T == "str"
  | _ => false
theorem tyOk_at {K : Fg} {S H : Hp} {v : V} {d : D} {T : String} (h : At K S H v d) (t : tyOk T d = true) : tyV K T v H := by
  cases h with
  | lst h r => exact .inl ⟨by simpa [tyOk] using t, _, SqL.of h⟩
  | scr h => exact .inl ⟨by simpa [tyOk] using t, _, h⟩
  | str x => exact (by simpa [tyOk] using t : T = "str")
  | _ => cases t
def RdM (K : Fg) (r : V → List V → Hp → VK → Prop) (f : D → List D → (Rv → Prop) → Prop) : Prop := ∀ (S H : Hp) (v : V) (d : D) (vs : List V) (ds : List D) (k : Rv → Prop) (Q : VK), Same S H → At K S H v d → Ats K S H vs ds → f d ds k → Out K S H k Q → r v vs H Q
def qRdM (T : String) (f : D → List D → (Rv → Prop) → Prop) (qo : TEq) (ql : TAq) : TNq := fun env k x => qo env (fun y env1 => (∃ d0, res env1 y = some d0 ∧ tyOk T d0 = true) ∧ ql env1 (fun ys env2 => ∃ d, res env2 y = some d ∧ ∃ ds, ress env2 ys = some ds ∧ f d ds (fun w => k w env2)) x) x
theorem sm_rdm {T : String} {r : V → List V → Hp → VK → Prop} {f : D → List D → (Rv → Prop) → Prop} (h : RdM c.K r f) (ho : Sm c W to qo) (ha : SmA c W tl ql) : SmN c W (tBM c.K T r to tl) (qRdM T f qo ql) := by
  intro F P S b σ H env k x Q R hq hx hk
  refine ho F P S b σ H env _ x _ R hq hx fun S1 H1 env1 v y R1 e1 r1 h1 => ?_
  obtain ⟨⟨d0, h0, hT⟩, h1⟩ := h1
  refine ⟨tyOk_at (R1.read r1 h0) hT, ?_⟩
  refine ha F P S1 b σ H1 env1 _ x _ R1 h1 (hx.mono e1) fun S2 H2 env2 vs ys R2 e2 r2 h2 => ?_
  obtain ⟨d, hd, ds, hds, hf⟩ := h2
  exact h S2 H2 v d vs ds _ Q R2.sh (R2.read (r1.mono e2.1) hd) (R2.reads r2 hds) hf (R2.out (e1.trans e2) hk)
theorem qn_rdm {m : Str} {id T : String} {r : V → List V → Hp → VK → Prop} {f : D → List D → (Rv → Prop) → Prop} {apos cpos : Pos} (pa : PlainAttrs T) (slot : Slot T m id) (hty : typeOf (.builtin id) = pure (.type "method_descriptor")) (hm : MtR X id r) (h : RdM X.K r f) (ho : QE X g W o to qo) (ha : QA X g W (e :: es) tl ql)
    (hbase : attributeBase o m X.env (eval o X.env) = eval o X.env := by rfl)
    (hfew : ((backTo cpos (starEach (e :: es) X.env)).all (fun x => !x.1) && (backToKw cpos (keywordEach [] X.env)).all (fun x => x.1.isSome) && decide ((e :: es).length + ([] : List Keyword).length + (if ([] : List Keyword).isEmpty then 0 else 1) < 30)) = true := by rfl)
    (hline : (apos.endLine == cpos.line) = true := by rfl) (hs : starEach (e :: es) X.env = (false, eval e X.env) :: starEach es X.env := by rfl) (hplain : (backTo cpos (starEach es X.env)).any (·.1) = false := by rfl) :
    QN X g W (.Call (.Attribute o m apos) (e :: es) [] cpos) (tBM X.K T r to tl) (qRdM T f qo ql) :=
  ⟨pe_bm pa slot hty hm ho.pe ha.pa hbase hfew hline hs hplain, fun N => sm_rdm (c := cg X g N) h (ho.sm N) (ha.sm N)⟩
def tyC (T : String) (f : Prop) (d : D) : Prop := tyOk T d = true ∧ f
theorem e_rdm {T : String} {f : D → List D → (Rv → Prop) → Prop} {env : En} {kn : Rv → En → Prop} {x : XQ} : qRdM T f qo ql env kn x = qo env (fun y env1 => rd env1 y (fun d0 => tyOk T d0 = true) ∧ ql env1 (fun ys env2 => rd env2 y fun d => ressC env2 ys fun ds => f d ds (hold (fun w => kn w env2) .mk)) x) x := rfl
theorem ok_l {ds : List D} : (tyOk "list" (.lst ds) = true) = True := eq_true rfl
theorem ok_r {ns : List Int} : (tyOk "list" (.scr ns) = true) = True := eq_true rfl
theorem ok_s {x : Str} : (tyOk "str" (.str x) = true) = True := eq_true rfl
end
section
variable {K : Fg} {k : D → Prop} {kn : Rv → Prop}
/-! ### flat data -/
def flatD (d : D) : Bool := (scalar d).isSome
theorem flatV_at {S H : Hp} {v : V} {d : D} (h : At K S H v d) (f : flatD d = true) : v = sV d ∧ flatV v = true := by
  cases h <;> first | exact ⟨rfl, rfl⟩ | cases f
theorem Rep.flat1 {S : Hp} {v : V} {d : D} (h : Rep K S v d) (f : flatD d = true) : v = sV d ∧ flatV v = true := by
  cases h <;> first | exact ⟨rfl, rfl⟩ | cases f
theorem Reps.flatAll {S : Hp} : ∀ {vs : List V} {ds : List D}, Reps K S vs ds → ds.all flatD = true → vs = ds.map sV ∧ vs.all flatV = true
  | _, _, .nil, _ => ⟨rfl, rfl⟩
  | v :: vs, d :: ds, .cons h r, f => by
    rw [List.all_cons, Bool.and_eq_true] at f
    obtain ⟨h1, h2⟩ := Reps.flatAll r f.2
    obtain ⟨h3, h4⟩ := Rep.flat1 h f.1
    rw [List.all_cons, h4, h2, List.map_cons, ← h3, ← h1]
    exact ⟨rfl, rfl⟩
def eqD (y x : D) : Bool := eqV (sV y) (sV x)
def inD (x : D) (ds : List D) : Bool := ds.any fun y => eqD y x
theorem inV_sV (x : D) (ds : List D) : inV (sV x) (ds.map sV) = inD x ds := by
  unfold inV inD; rw [List.any_map]; rfl
/-! ### in -/
def fInB (neg : Bool) (d e : D) (k : D → Prop) : Prop :=
  (∃ ds, (e = .lst ds ∨ e = .tup ds) ∧ flatD d = true ∧ ds.all flatD = true ∧ k (.bl (if neg then !inD d ds else inD d ds))) ∨
  (∃ ds, e = .lst ds ∧ (flatD d && ds.all flatD) = false ∧ SeqAt.shaped (toP d) = true ∧ SeqAt.shaped (toP (.lst ds)) = true ∧ k (.bl (if neg then !(toPs ds).any (fun z => PyData.eqv z (toP d)) else (toPs ds).any fun z => PyData.eqv z (toP d)))) ∨
  (∃ ch y, d = .str ⟨#[ch]⟩ ∧ e = .str y ∧ k (.bl (if neg then !decide (ch ∈ y.cps.toList) else decide (ch ∈ y.cps.toList))))
def fIn := fInB false
def fNotIn := fInB true
def rInQ (K : Fg) : R2 := fun x y H Q => rIn K false x y H Q ∨ (rInD K x y H Q ∨ (∃ (c : Nat) (z : Str), x = .str ⟨#[c]⟩ ∧ y = .str z ∧ Q (.bl (decide (c ∈ z.cps.toList))) H))
def rNotInQ (K : Fg) : R2 := fun x y H Q => rIn K true x y H Q ∨ (rNotInD K x y H Q ∨ (∃ (c : Nat) (z : Str), x = .str ⟨#[c]⟩ ∧ y = .str z ∧ Q (.bl (!decide (c ∈ z.cps.toList))) H))
theorem or_inQ {X : Cx} (hu : X.A.units + 65 < cLine) : OpR X (compareOp .In) (rInQ X.K) := OpR.or op_in_seq (OpR.or (op_inD hu) op_in_sign)
theorem or_notInQ {X : Cx} (hu : X.A.units + 65 < cLine) : OpR X (compareOp .NotIn) (rNotInQ X.K) := OpR.or op_notIn_seq (OpR.or (op_notInD hu) op_notIn_sign)
theorem dp_list {S H : Hp} {v : V} {ds : List D} (e : Same S H) (h : At K S H v (.lst ds)) (hc : SeqAt.shaped (toP (.lst ds)) = true) : Dp K H v (.list (toPs ds)) := by
  have := dp_at e h (shaped_lay hc)
  unfold toP at this
  exact this
theorem At.seqOf {S H : Hp} {v : V} {ds : List D} (h : At K S H v (.lst ds) ∨ At K S H v (.tup ds)) : ∃ p xs, v = .ref p ∧ (SqL K H p xs ∨ SqT K H p xs) ∧ Reps K S xs ds := by
  rcases h with h | h
  · cases h with
    | lst h r => exact ⟨_, _, rfl, .inl (SqL.of h), r⟩
  · cases h with
    | tup h r => exact ⟨_, _, rfl, .inr h, r⟩
theorem o_inB (neg : Bool) : Op2 K (if neg then rNotInQ K else rInQ K) (fInB neg) := by
  intro S H v u d e k Q s a b hf hk
  rcases hf with ⟨ds, he, h1, h2, h3⟩ | ⟨ds, rfl, _, h1, h2, h3⟩ | ⟨ch, y, rfl, rfl, h⟩
  · obtain ⟨p, xs, hu, hs, r⟩ := At.seqOf (S := S) (H := H) (v := u) (ds := ds) (by
      rcases he with rfl | rfl
      · exact .inl b
      · exact .inr b)
    obtain ⟨f1, f2⟩ := flatV_at a h1
    obtain ⟨f3, f4⟩ := Reps.flatAll r h2
    have e1 : inV v xs = inD d ds := by rw [f1, f3, inV_sV]
    cases neg
    · exact .inl ⟨p, xs, hu, hs, f2, f4, hk _ _ (.bl _) (by simpa [e1] using h3)⟩
    · exact .inl ⟨p, xs, hu, hs, f2, f4, hk _ _ (.bl _) (by simpa [e1] using h3)⟩
  · have d2 := dp_list s b h2
    unfold toP at h2
    cases neg
    · exact .inr (.inl ⟨_, _, dp_at s a (shaped_lay h1), d2, h1, h2, hk _ _ (.bl _) h3⟩)
    · exact .inr (.inl ⟨_, _, dp_at s a (shaped_lay h1), d2, h1, h2, hk _ _ (.bl _) h3⟩)
  · cases a
    cases b
    cases neg
    · exact .inr (.inr ⟨ch, y, rfl, rfl, hk _ _ (.bl _) h⟩)
    · exact .inr (.inr ⟨ch, y, rfl, rfl, hk _ _ (.bl _) h⟩)
theorem o_in : Op2 K (rInQ K) fIn := o_inB false
theorem o_notIn : Op2 K (rNotInQ K) fNotIn := o_inB true
theorem flat_ints (ns : List Int) : (ns.map D.int).all flatD = true := by rw [List.all_map]; simp [flatD, scalar, Function.comp_def]
theorem flat_strs (ns : List Str) : (ns.map D.str).all flatD = true := by rw [List.all_map]; simp [flatD, scalar, Function.comp_def]
theorem inD_ints (i : Int) (ns : List Int) : inD (.int i) (ns.map .int) = decide (i ∈ ns) := by
  unfold inD
  rw [List.any_map]
  show ns.any (fun y => y == i) = _
  rw [Bool.eq_iff_iff, List.any_eq_true, decide_eq_true_eq]
  exact ⟨fun ⟨x, h1, h2⟩ => by rw [← eq_of_beq h2]; exact h1, fun h => ⟨i, h, by simp⟩⟩
theorem inD_strs (i : Str) (ns : List Str) : inD (.str i) (ns.map .str) = decide (i ∈ ns) := by
  unfold inD
  rw [List.any_map]
  show ns.any (fun y => y == i) = _
  rw [Bool.eq_iff_iff, List.any_eq_true, decide_eq_true_eq]
  exact ⟨fun ⟨x, h1, h2⟩ => by rw [← eq_of_beq h2]; exact h1, fun h => ⟨i, h, by simp⟩⟩
theorem fInB_l {neg : Bool} {d : D} {ds : List D} (h1 : flatD d = true) (h2 : ds.all flatD = true) : fInB neg d (.lst ds) k = k (.bl (if neg then !inD d ds else inD d ds)) := by
  apply propext
  constructor
  · rintro (⟨es, h | h, _, _, q⟩ | ⟨es, h, h3, _⟩ | ⟨_, _, _, h, _⟩)
    · cases h; exact q
    · cases h
    · cases h; rw [h1, h2] at h3; cases h3
    · cases h
  · exact fun q => .inl ⟨ds, .inl rfl, h1, h2, q⟩
theorem fInB_t {neg : Bool} {d : D} {ds : List D} (h1 : flatD d = true) (h2 : ds.all flatD = true) : fInB neg d (.tup ds) k = k (.bl (if neg then !inD d ds else inD d ds)) := by
  apply propext
  constructor
  · rintro (⟨es, h | h, _, _, q⟩ | ⟨es, h, h3, _⟩ | ⟨_, _, _, h, _⟩)
    · cases h
    · cases h; exact q
    · cases h
    · cases h
  · exact fun q => .inl ⟨ds, .inr rfl, h1, h2, q⟩
theorem f_inC {ch : Nat} {y : Str} : fIn (.str ⟨#[ch]⟩) (.str y) k = k (.bl (decide (ch ∈ y.cps.toList))) := by
  apply propext
  constructor
  · rintro (⟨es, h | h, _, _, q⟩ | ⟨es, h, h3, _⟩ | ⟨c2, y2, h1, h, q⟩)
    · cases h
    · cases h
    · cases h
    · cases h; cases h1; exact q
  · exact fun q => .inr (.inr ⟨_, _, rfl, rfl, q⟩)
theorem f_notInC {ch : Nat} {y : Str} : fNotIn (.str ⟨#[ch]⟩) (.str y) k = k (.bl (!decide (ch ∈ y.cps.toList))) := by
  apply propext
  constructor
  · rintro (⟨es, h | h, _, _, q⟩ | ⟨es, h, h3, _⟩ | ⟨c2, y2, h1, h, q⟩)
    · cases h
    · cases h
    · cases h
    · cases h; cases h1; exact q
  · exact fun q => .inr (.inr ⟨_, _, rfl, rfl, q⟩)
theorem f_inI {i : Int} {ns : List Int} : fIn (.int i) (.lst (ns.map .int)) k = k (.bl (decide (i ∈ ns))) := by
  unfold fIn; rw [fInB_l rfl (flat_ints ns), inD_ints]; rfl
theorem f_notInI {i : Int} {ns : List Int} : fNotIn (.int i) (.lst (ns.map .int)) k = k (.bl (!decide (i ∈ ns))) := by
  unfold fNotIn; rw [fInB_l rfl (flat_ints ns), inD_ints]; rfl
theorem f_inIT {i : Int} {ns : List Int} : fIn (.int i) (.tup (ns.map .int)) k = k (.bl (decide (i ∈ ns))) := by
  unfold fIn; rw [fInB_t rfl (flat_ints ns), inD_ints]; rfl
theorem f_inS {i : Str} {ns : List Str} : fIn (.str i) (.lst (ns.map .str)) k = k (.bl (decide (i ∈ ns))) := by
  unfold fIn; rw [fInB_l rfl (flat_strs ns), inD_strs]; rfl
theorem f_notInS {i : Str} {ns : List Str} : fNotIn (.str i) (.lst (ns.map .str)) k = k (.bl (!decide (i ∈ ns))) := by
  unfold fNotIn; rw [fInB_l rfl (flat_strs ns), inD_strs]; rfl
/-! ### index, count -/
def fIndex (e : D) (as : List D) (k : Rv → Prop) : Prop := ∃ ds d, e = .lst ds ∧ as = [d] ∧ flatD d = true ∧ ds.all flatD = true ∧ ∃ (j : Nat) (z : D), ds[j]? = some z ∧ eqD z d = true ∧ (∀ (m : Nat) (z' : D), m < j → ds[m]? = some z' → eqD z' d = false) ∧ k (.sh (.int (j : Nat)))
theorem m_index : RdM K (rIndex K) fIndex := by
  intro S H v d vs ds k Q s a as hf hk
  obtain ⟨ds, d, rfl, rfl, h1, h2, j, z, h3, h4, h5, h6⟩ := hf
  cases a with
  | lst h r =>
    obtain ⟨w, rfl, a2⟩ := ats1 as
    obtain ⟨f1, f2⟩ := flatV_at a2 h1
    obtain ⟨f3, f4⟩ := Reps.flatAll r h2
    refine ⟨_, _, _, j, sV z, rfl, rfl, SqL.of h, f2, f4, ?_, ?_, ?_, hk.old _ _ (.int _) h6⟩
    · rw [f3, List.getElem?_map, h3]; rfl
    · rw [f1]; exact h4
    · intro m z' hm hz
      rw [f3, List.getElem?_map] at hz
      cases hd : ds[m]? with
      | none => rw [hd] at hz; cases hz
      | some y =>
        rw [hd] at hz
        cases hz
        rw [f1]; exact h5 m y hm hd
theorem idxOf_first {i : Int} {ns : List Int} {m : Nat} (h : m < ns.idxOf i) : ns[m]? ≠ some i := by
  intro z
  obtain ⟨hj, hj2⟩ := List.getElem?_eq_some_iff.mp z
  have := List.not_of_lt_findIdx (p := (· == i)) (xs := ns) h
  rw [hj2] at this
  simp at this
theorem f_index {i : Int} {ns : List Int} (h : i ∈ ns) : fIndex (.lst (ns.map .int)) [.int i] kn = kn (.sh (.int (ns.idxOf i : Nat))) := by
  apply propext
  have hlt : ns.idxOf i < ns.length := List.idxOf_lt_length_of_mem h
  have hat : ns[ns.idxOf i]? = some i := by rw [List.getElem?_eq_getElem hlt, List.getElem_idxOf]
  constructor
  · rintro ⟨ds, d, e1, e2, _, _, j, z, h3, h4, h5, h6⟩
    cases e1
    cases e2
    obtain ⟨n, hn, rfl⟩ := ints_get h3
    have e1 : n = i := eq_of_beq h4
    subst e1
    have : ns.idxOf n = j := by
      rcases Nat.lt_trichotomy (ns.idxOf n) j with g | g | g
      · have := h5 (ns.idxOf n) (.int n) g (by rw [List.getElem?_map, hat]; rfl)
        exact absurd (show (n == n) = false from this) (by simp)
      · exact g
      · exact absurd hn (idxOf_first g)
    rw [this]; exact h6
  · intro q
    refine ⟨_, _, rfl, rfl, rfl, flat_ints ns, ns.idxOf i, .int i, by rw [List.getElem?_map, hat]; rfl, by show (i == i) = true; simp, fun m z' hm hz => ?_, q⟩
    obtain ⟨n, hn, rfl⟩ := ints_get hz
    show (n == i) = false
    have : n ≠ i := fun e => idxOf_first hm (by rw [← e]; exact hn)
    simpa using this
def fCount (e : D) (as : List D) (k : Rv → Prop) : Prop := ∃ (ns : List Int) (i : Int), e = .lst (ns.map .int) ∧ as = [.int i] ∧ k (.sh (.int (ns.count i : Nat)))
theorem m_count : RdM K (rCntI K) fCount := by
  intro S H v d vs ds k Q s a as hf hk
  obtain ⟨ns, i, rfl, rfl, h6⟩ := hf
  cases a with
  | lst h r =>
    obtain ⟨w, rfl, a2⟩ := ats1 as
    cases a2
    exact ⟨_, ns, i, rfl, rfl, by rw [← r.ints]; exact SqL.of h, hk.old _ _ (.int _) h6⟩
theorem f_count {i : Int} {ns : List Int} : fCount (.lst (ns.map .int)) [.int i] kn = kn (.sh (.int (ns.count i : Nat))) := propext ⟨fun ⟨ms, j, h, h2, q⟩ => (by
  have e := (List.map_inj_right (fun a b h => by cases h; rfl)).mp (D.lst.inj h)
  subst e; cases h2; exact q), fun q => ⟨ns, i, rfl, rfl, q⟩⟩
end
end Q


set_option Elab.async false
set_option linter.all false
set_option maxRecDepth 100000
set_option maxHeartbeats 2000000
set_option autoImplicit false
/-! Q27: a list of new lists: looked at while nothing is stored, then each of its lists is lengthened. -/
namespace Q
open PySem PySem.Spec PyProof.Rows L2
/-- new objects of one's own, in no slot -/
inductive Owns (K : Fg) (P S : Hp) (b : Option Addr) (σ : L2.St) (env : En) (H : Hp) : List V → List D → Prop
  | nil : Owns K P S b σ env H [] []
  | cons {p : Addr} {d : D} {vs : List V} {ds : List D} : P p = none → S p = none → b ≠ some p → OwnAt K S H p d → (∀ (i : Nat) (e : D), σ[i]? = some (some (.ref p)) → env[i]? ≠ some (.own e)) → Owns K P S b σ env H vs ds → Owns K P S b σ env H (.ref p :: vs) (d :: ds)
abbrev TNsq := En → (List D → En → Prop) → XQ → Prop
def SmNs (c : Cg) (W : WX) (t : TA) (q : TNsq) : Prop := ∀ (F P S : Hp) (b : Option Addr) (σ : L2.St) (H : Hp) (env : En) (k : List D → En → Prop) (x : XQ) (Q : List V → Hp → Prop), Rel c F P S b σ H env → q env k x → XOk c F P b W S x →
  (∀ (S' H' : Hp) (env' : En) (vs : List V) (ds : List D), Rel c F P S' b σ H' env' → Ext P S S' → Owns c.K P S' b σ env' H' vs ds → k ds env' → Q vs H') → t σ H Q
structure QNs (X : Cx) (g : Gd) (W : WX) (es : List Expr) (t : TA) (q : TNsq) : Prop where
  pa : PA X es t
  sm : ∀ N, SmNs (cg X g N) W t q
def qnsNil : TNsq := fun env k _ => k [] env
def rvO (f : D → Prop) : Rv → Prop
  | .own d => f d
  | .sh _ => False
theorem rvO_o {f : D → Prop} {d : D} : rvO f (.own d) = f d := rfl
def qnsCons (q : TNq) (ql : TNsq) : TNsq := fun env k x => q env (fun r env1 => rvO (fun d => ql env1 (fun ds env2 => k (d :: ds) env2) x) r) x
section
variable {X : Cx} {g : Gd} {W : WX} {a b e : Expr} {es : List Expr} {sts rest : List Stmt} {ta tb te : TE} {tl : TA} {t u tr : TS} {tt : TT} {q1 q2 : TNq} {ql : TNsq} {qe : TEq} {qt : TTq} {qr : TSq} {pos pos2 pos3 pos4 pos5 : Pos} {c : Cg}
theorem sm_nsCons (h1 : SmN c W ta q1) (h2 : SmNs c W tl ql) : SmNs c W (tCons ta tl) (qnsCons q1 ql) := by
  intro F P S bb σ H env k x Q R hq hx hk
  refine h1 F P S bb σ H env _ x _ R hq hx fun S1 H1 env1 v r1 R1 e1 o1 n1 hq1 => ?_
  cases r1 with
  | sh d => exact hq1.elim
  | own d =>
    obtain ⟨p, rfl, pP, pS, pb, ho⟩ := o1
    obtain ⟨o, hp⟩ := ho.some
    have G := R1.guard pP hp pS pb (fun i e h => n1 d rfl i e p rfl h)
    refine h2 F (upd P p o) S1 bb σ H1 env1 _ x _ G hq1 (fun nm pay env' S' σ' H' C dd R' e' => hx nm pay env' S' σ' H' C dd (R'.unguard pP R1.fp) (e1.trans e'.sub)) fun S2 H2 env2 us ds R2 e2 o2 hk2 => ?_
    have hp2 : H2 p = some o := R2.ph p o upd_same
    have pS2 : S2 p = none := e2.2 p pS (by rw [upd_same]; simp)
    have un : ∀ q, upd P p o q = none → P q = none := fun q hq => by
      by_cases e : q = p
      · subst e; rw [upd_same] at hq; cases hq
      · rw [upd_ne e] at hq; exact hq
    refine hk S2 H2 env2 (.ref p :: us) (d :: ds) (R2.unguard pP R1.fp) (e1.trans e2.sub) (.cons pP pS2 pb (ho.mono e2.1 (hp2.trans hp.symm)) (fun i e h3 h4 => ?_) ?_) hk2
    · have := (R2.ownAt h3 h4).1
      rw [upd_same] at this; cases this
    · clear hk2
      induction o2 with
      | nil => exact .nil
      | cons z1 z2 z3 z4 z5 _ ih => exact .cons (un _ z1) z2 z3 z4 z5 ih
theorem qns_nil : QNs X g W [] tNil qnsNil := ⟨pa_nil, fun N F P S b σ H env k x Q R hq _ hk => hk S H env [] [] R Ext.refl .nil hq⟩
theorem qns_cons (ha : QN X g W e te q1) (hr : QNs X g W es tl ql) (hs : starEach (e :: es) X.env = (false, eval e X.env) :: starEach es X.env := by rfl) : QNs X g W (e :: es) (tCons te tl) (qnsCons q1 ql) := ⟨pa_cons ha.pe hr.pa hs, fun N => sm_nsCons (ha.sm N) (hr.sm N)⟩

/-! ### the list as it stands -/
structure BoxAt (c : Cg) (P S : Hp) (b : Option Addr) (σ : L2.St) (env : En) (H : Hp) (i : Nat) (l : Addr) (vs : List V) (ds : List D) : Prop where
  si : σ[i]? = some (some (.ref l))
  ni : ∀ s, env[i]? = some s → s = .no
  hl : H l = some (.lst vs)
  own : Owns c.K P S b σ env H vs ds
def pk : Sl → Sl
  | .own d => .sh d
  | .bor d => .sh d
  | .bag _ => .no
  | s => s
def OwnAt.repIn {K : Fg} {S S' H : Hp} {p : Addr} {d : D} (h : OwnAt K S H p d) (e : Same S S') (e2 : S' p = H p) : Rep K S' (.ref p) d := by
  cases h with
  | lst h r => exact .lst (e2.trans h) (r.mono e)
  | dct h r => exact .dct (.inl (e2.trans h)) (r.mono e)
theorem pk_no {s : Sl} (d : D) : pk s ≠ .own d := by cases s <;> simp [pk]
theorem bud_pk : ∀ env : En, bud (env.map pk) = 0
  | [] => rfl
  | s :: r => by
    show bw (pk s) + bud (r.map pk) = 0
    rw [bud_pk r]; cases s <;> rfl
/-- while it is looked at, all is shared: nothing is written -/
theorem Rel.peek {F P S H : Hp} {b : Option Addr} {σ : L2.St} {env : En} {i : Nat} {l : Addr} {vs : List V} {ds : List D} (R : Rel c F P S b σ H env) (B : BoxAt c P S b σ env H i l vs ds) :
    Rel c H H H none σ H ((env.map pk).set i (.sh (.lst ds))) := by
  have rs : ∀ {ws : List V} {es : List D}, Owns c.K P S b σ env H ws es → Reps c.K H ws es := by
    intro ws es ho
    induction ho with
    | nil => exact .nil
    | cons z1 z2 z3 z4 z5 _ ih => exact .cons (z4.repIn R.sh rfl) ih
  have base : Rel c H H H none σ H (env.map pk) := by
    refine ⟨by rw [List.length_map]; exact R.len, Same.refl _, Same.refl _, Same.refl _, fun p h => (by cases h), fun j s v h1 h2 => ?_, fun j1 j2 p d d' _ _ h _ _ => ?_⟩
    · rw [List.getElem?_map] at h1
      cases hj : env[j]? with
      | none => rw [hj] at h1; cases h1
      | some s0 =>
        rw [hj] at h1
        cases h1
        have hs := R.sl j s0 v hj h2
        cases s0 with
        | no => trivial
        | sh d => cases v with
          | none => exact hs
          | some v => exact Rep.mono R.sh hs
        | bor d => cases v with
          | none => exact hs
          | some v => exact (At.mono R.sh R.fh hs).rep
        | bag _ => trivial
        | own d => cases v with
          | none => exact hs
          | some v =>
            obtain ⟨p, rfl, h3, h4, h5, h6⟩ := hs
            exact ((h6.at).mono R.sh (Same.refl _)).rep
    · rw [List.getElem?_map] at h
      cases hj : env[j1]? with
      | none => rw [hj] at h; cases h
      | some s0 => rw [hj] at h; exact absurd (Option.some.inj h) (pk_no d)
  have := base.put (i := i) (v := .ref l) (s := .sh (.lst ds)) (show Rep c.K H (.ref l) (.lst ds) from .lst B.hl (rs B.own)) (fun d h => nomatch h) rfl
  have e : σ.set i (some (.ref l)) = σ := by
    obtain ⟨h, h2⟩ := List.getElem?_eq_some_iff.mp B.si
    rw [← h2]; exact List.set_getElem_self h
  rwa [e] at this
theorem Rel.frame {F P S H H' : Hp} {b : Option Addr} {σ : L2.St} {env : En} (R : Rel c F P S b σ H env) (h : Same H H') : Rel c F P S b σ H' env :=
  R.to (Same.refl _) (R.ph.trans h) (R.sh.trans h) (fun i p d h1 h2 => by
    obtain ⟨_, h4, _, h6⟩ := R.ownAt h1 h2
    obtain ⟨o, h7⟩ := h6.some
    exact ⟨h4, (h _ _ h7).trans h7.symm⟩) fun p hp => by
    obtain ⟨_, h2, h3⟩ := R.bg p hp
    obtain ⟨o, h7⟩ := h3.some
    exact ⟨h2, h3.mono (Same.refl _) ((h _ _ h7).trans h7.symm) (Nat.le_refl _)⟩
theorem Owns.frame {K : Fg} {P S H H' : Hp} {b : Option Addr} {σ : L2.St} {env : En} {vs : List V} {ds : List D} (h : Owns K P S b σ env H vs ds) (e : Same H H') : Owns K P S b σ env H' vs ds := by
  induction h with
  | nil => exact .nil
  | cons z1 z2 z3 z4 z5 _ ih =>
    obtain ⟨o, h7⟩ := z4.some
    exact .cons z1 z2 z3 (z4.mono (Same.refl _) ((e _ _ h7).trans h7.symm)) z5 ih
theorem BoxAt.frame {P S H H' : Hp} {b : Option Addr} {σ : L2.St} {env : En} {i : Nat} {l : Addr} {vs : List V} {ds : List D} (B : BoxAt c P S b σ env H i l vs ds) (e : Same H H') : BoxAt c P S b σ env H' i l vs ds :=
  ⟨B.si, B.ni, e _ _ B.hl, B.own.frame e⟩

/-! ### the block in which it is looked at -/
abbrev TBq := List D → TSq
def SmB (c : Cg) (W : WX) (i : Nat) (t : TS) (q : TBq) : Prop := ∀ (F P S : Hp) (b : Option Addr) (σ : L2.St) (H : Hp) (env : En) (l : Addr) (vs : List V) (ds : List D) (DQ : Ens) (D : Ends), Rel c F P S b σ H env → BoxAt c P S b σ env H i l vs ds → P l = none → S l = none → b ≠ some l → V.ref l ∉ vs →
  (∀ (j : Nat) (e : Q.D), σ[j]? = some (some (.ref l)) → env[j]? ≠ some (.own e)) → q ds DQ env → EOk c F P b W S DQ D → t D σ H
structure QB (X : Cx) (g : Gd) (W : WX) (i : Nat) (sts : List Stmt) (t : TS) (q : TBq) : Prop where
  pss : PSs X sts t
  sm : ∀ N, SmB (cg X g N) W i t q
def pkC (env : En) (f : En → Prop) : Prop := f (env.map pk)
theorem pkC0 {f : En → Prop} : pkC [] f = f [] := rfl
theorem pkC_sh {d : D} {l : En} {f : En → Prop} : pkC (.sh d :: l) f = pkC l fun r => f (.sh d :: r) := rfl
theorem pkC_own {d : D} {l : En} {f : En → Prop} : pkC (.own d :: l) f = pkC l fun r => f (.sh d :: r) := rfl
theorem pkC_bor {d : D} {l : En} {f : En → Prop} : pkC (.bor d :: l) f = pkC l fun r => f (.sh d :: r) := rfl
theorem pkC_bag {n : Nat} {l : En} {f : En → Prop} : pkC (.bag n :: l) f = pkC l fun r => f (.no :: r) := rfl
theorem pkC_no {l : En} {f : En → Prop} : pkC (.no :: l) f = pkC l fun r => f (.no :: r) := rfl
theorem pkV {s : Sl} {l : En} {f : En → Prop} : pkC (s :: l) f = pkC l fun r => f (pk s :: r) := rfl
/-- if T: return d -/
def qbTest (i : Nat) (qt : TTq) (d : D) (q : TBq) : TBq := fun ds DQ env => pkC env fun e1 => st e1 i (.sh (.lst ds)) fun e2 => qt e2 (fun r _ => cIf r (hold (fun _ => DQ.rt (.sh d) env) .mk) (hold (fun _ => q ds DQ env) .mk)) fun _ _ _ => False
theorem qb_test {i : Nat} {cd : Expr} {q : TBq} {d : D} {v : V} (hc : QT X g W cd tt qt) (hr : QE X g W e (tC v) (qC d)) (hd : scalar d = some v) (hs : QB X g W i sts t q) :
    QB X g W i (.If cd [.Return (some e) pos] [] pos2 :: sts) (tSeq (tIfS tt (tRet (tC v)) tNext) t) (qbTest i qt d q) := by
  refine ⟨pss_cons (ps_if hc.pt (pss_one (ps_ret hr.pe)) pss_nil) hs.pss, fun N F P S b σ H env l vs ds DQ D R B lP lS lb lv ln hq k => ?_⟩
  have R1 := R.peek B
  refine hc.sm N H H H none σ H _ _ (fun _ _ _ => False) _ R1 hq XOk.no fun S2 H2 env2 y R2 _ hy => ?_
  have fr := R2.ph
  cases y with
  | true => exact k.rt S σ H2 env v (.sh d) (R.frame fr) Ext.refl (Rep.scal hd) hy
  | false => exact hs.sm N F P S b σ H2 env l vs ds DQ D (R.frame fr) (B.frame fr) lP lS lb lv ln hy k
/-- for x in found: x.append(n) -/
def qbLoop (j : Nat) (qr : TSq) : TBq := fun ds DQ env => (ds.length ≤ 1000 ∧ ∀ d ∈ ds, dL (fun xs => xs.length ≤ 9000000) d) ∧ lk env j (fun _ => True) ∧ st env j .no (qr DQ)
theorem sm_loop {i j : Nat} {n : Int} (hij : i ≠ j) (hr : SmS c W tr qr) : SmB c W i (tSeq (tFor (iList c.K (tVar i)) (gName j) (tDrop (tBM c.K "list" rAppend (tVar j) (tCons (tC (.int n)) tNil)))) tr) (qbLoop j qr) := by
  intro F P S b σ H env l vs ds DQ D R B lP lS lb lv ln hq k
  obtain ⟨⟨hn, hd⟩, hlk, hq⟩ := hq
  have hj : ∀ s, (env.set j .no)[j]? = some s → s = .no := fun s h => by
    rcases getElem?_set' h with ⟨_, h, _⟩ | ⟨h, _⟩
    · exact h
    · exact absurd rfl h
  have ho : ∀ (q : L2.St) (m : Nat) (p : Addr), (∀ (i : Nat) (e : Q.D), σ[i]? = some (some (.ref p)) → env[i]? ≠ some (.own e)) → (∀ i, i ≠ j → q[i]? = σ[i]?) → ∀ (i : Nat) (e : Q.D), q[i]? = some (some (.ref p)) → (env.set j .no)[i]? ≠ some (.own e) := by
    intro q m p h1 h2 i e h3 h4
    by_cases h : i = j
    · subst h; exact nomatch hj _ h4
    · rw [List.getElem?_set_ne (fun z => h z.symm)] at h4
      exact h1 i e (by rw [← h2 i h]; exact h3) h4
  have R0 : Rel c F P S b σ H (env.set j .no) := by
    refine ⟨by rw [List.length_set]; exact R.len, R.fp, R.ph, R.sh, fun p e => ?_, fun i s v h1 h2 => ?_, fun i i' p d d' hne h1 h2 h3 h4 => ?_⟩
    · obtain ⟨a1, a2, a3⟩ := R.bg p e
      exact ⟨a1, a2, a3.mono (Same.refl _) rfl (bud_le env j .no rfl)⟩
    · rcases getElem?_set' h1 with ⟨_, rfl, _⟩ | ⟨_, h3⟩
      · trivial
      · exact R.sl i s v h3 h2
    · rcases getElem?_set' h2 with ⟨_, z, _⟩ | ⟨_, z⟩
      · cases z
      · rcases getElem?_set' h4 with ⟨_, z', _⟩ | ⟨_, z'⟩
        · cases z'
        · exact R.ap i i' p d d' hne h1 z h3 z'
  -- what holds of the lists, m turns done
  have lists : ∀ v ∈ vs, ∃ p xs, v = .ref p ∧ P p = none ∧ S p = none ∧ b ≠ some p ∧ p ≠ l ∧ H p = some (.lst xs) ∧ xs.length ≤ 9000000 ∧ ∀ (i : Nat) (e : Q.D), σ[i]? = some (some (.ref p)) → env[i]? ≠ some (.own e) := by
    have : ∀ {ws : List V} {es : List Q.D}, (∀ v ∈ ws, v ∈ vs) → (∀ d ∈ es, dL (fun xs => xs.length ≤ 9000000) d) → Owns c.K P S b σ env H ws es → ∀ v ∈ ws, ∃ p xs, v = .ref p ∧ P p = none ∧ S p = none ∧ b ≠ some p ∧ p ≠ l ∧ H p = some (.lst xs) ∧ xs.length ≤ 9000000 ∧ ∀ (i : Nat) (e : Q.D), σ[i]? = some (some (.ref p)) → env[i]? ≠ some (.own e) := by
      intro ws es hm hd2 h
      induction h with
      | nil => intro v hv; cases hv
      | @cons p d vs' ds' z1 z2 z3 z4 z5 _ ih =>
        intro v hv
        rcases List.mem_cons.mp hv with rfl | hv
        · have hz := hd2 d (List.mem_cons_self ..)
          cases z4 with
          | lst h r =>
            exact ⟨p, _, rfl, z1, z2, z3, fun e => lv (by rw [← e]; exact hm _ (List.mem_cons_self ..)), h, by rw [r.length]; exact hz, z5⟩
          | dct h r => exact hz.elim
        · exact ih (fun v hv => hm v (List.mem_cons_of_mem _ hv)) (fun d hd => hd2 d (List.mem_cons_of_mem _ hd)) v hv
    exact this (fun _ h => h) hd B.own
  have vlen : vs.length ≤ 1000 := by
    have : ∀ {ws : List V} {es : List Q.D}, Owns c.K P S b σ env H ws es → ws.length = es.length := by
      intro ws es h
      induction h with
      | nil => rfl
      | cons _ _ _ _ _ _ ih => exact congrArg (· + 1) ih
    rw [this B.own]; exact hn
  refine ⟨.ref l, B.si, l, rfl, ⟨_, SqL.of B.hl⟩, ?_⟩
  refine for_list (xs := vs) (fun m σ1 H1 => (∀ i, i ≠ j → σ1[i]? = σ[i]?) ∧ Rel c F P S b σ1 H1 (env.set j .no) ∧ H1 l = some (.lst vs) ∧ ∀ v ∈ vs, ∃ p xs, v = .ref p ∧ P p = none ∧ S p = none ∧ b ≠ some p ∧ p ≠ l ∧ H1 p = some (.lst xs) ∧ xs.length ≤ 9000000 + m ∧ ∀ (i : Nat) (e : Q.D), σ[i]? = some (some (.ref p)) → env[i]? ≠ some (.own e))
    ⟨fun _ _ => rfl, R0, B.hl, fun v hv => lists v hv⟩ (fun m σ1 H1 _ z => SqL.of z.2.2.1) (fun m x σ1 H1 hx z => ?_) (fun σ1 H1 z => ?_)
  · obtain ⟨z1, z2, z3, z4⟩ := z
    have hm : m < vs.length := (List.getElem?_eq_some_iff.mp hx).1
    obtain ⟨p, xs, rfl, p1, p2, p3, p4, p5, p6, p7⟩ := z4 x (List.mem_of_getElem? hx)
    have hjl : j < σ1.length ∨ σ1.length ≤ j := Nat.lt_or_ge _ _
    have R2 : Rel c F P S b (σ1.set j (some (.ref p))) H1 (env.set j .no) := by
      have := z2.put (i := j) (v := .ref p) (s := .no) trivial (fun d h => nomatch h) rfl
      rwa [List.set_set] at this
    by_cases hb : j < σ1.length
    · refine ⟨.ref p, by rw [List.getElem?_set_self hb], .inl ⟨rfl, _, SqL.of p5⟩, ?_⟩
      refine ⟨p, xs, .int n, rfl, rfl, p5, size_lt (by omega), ?_⟩
      have own' : ∀ (i : Nat) (q : Addr) (d : Q.D), (σ1.set j (some (.ref p)))[i]? = some (some (.ref q)) → (env.set j .no)[i]? = some (.own d) → q ≠ p := by
        intro i q d h1 h2 e
        subst e
        refine ho (σ1.set j (some (.ref q))) m q p7 (fun i hi => ?_) i d h1 h2
        rw [List.getElem?_set_ne (fun z => hi z.symm)]; exact z1 i hi
      refine ⟨fun i hi => by rw [List.getElem?_set_ne (fun z => hi z.symm)]; exact z1 i hi, ?_, by rw [upd_ne (fun e => p4 e.symm)]; exact z3, fun v hv => ?_⟩
      · refine R2.to (Same.refl _) (fun a o h => ?_) (fun a o h => ?_) (fun i q d h1 h2 => ?_) fun q h => ?_
        · rw [upd_ne (ne_of_none h p1)]; exact z2.ph a o h
        · rw [upd_ne (ne_of_none h p2)]; exact z2.sh a o h
        · exact ⟨(R2.ownAt h1 h2).2.1, upd_ne (own' i q d h1 h2)⟩
        · obtain ⟨_, g2, g3⟩ := R2.bg q h
          exact ⟨g2, g3.mono (Same.refl _) (upd_ne (fun e => p3 (by rw [h, e]))) (Nat.le_refl _)⟩
      · obtain ⟨p', xs', e', r1, r2, r3, r4, r5, r6, r7⟩ := z4 v hv
        by_cases e : p' = p
        · subst e
          rw [p5] at r5
          cases r5
          exact ⟨p', _, e', r1, r2, r3, r4, upd_same, by rw [List.length_append]; show xs.length + 1 ≤ _; omega, r7⟩
        · exact ⟨p', xs', e', r1, r2, r3, r4, by rw [upd_ne e]; exact r5, by omega, r7⟩
    · exfalso
      have e1 := z2.len
      rw [List.length_set] at e1
      unfold lk at hlk
      cases h : env[j]? with
      | none => rw [h] at hlk; exact hlk
      | some s => have := (List.getElem?_eq_some_iff.mp h).1; omega
  · exact hr F P S b σ1 H1 _ DQ D z.2.1 hq k
theorem qb_loop {i j : Nat} {x y : Str} {n : Int} {jj : Nat} {px py py2 ap cp cpos ep : Pos} (hN : X.N.Nodup) (hi : X.N[i]? = some x) (hvx : Vis X.env.scope x) (hj : X.N[j]? = some y) (hvy : Vis X.env.scope y) (hy : Loc X.env.scope y) (hij : i ≠ j) (hp : PassesOwn (model X.prog X.w) X.A X.env X.xe) (hr : QSs X g W rest tr qr)
    (hd : (x == ("__debug__" : Str)) = false := by decide) (hcd : (x == ("__classdict__" : Str)) = false := by decide) (hd2 : (y == ("__debug__" : Str)) = false := by decide) (hcd2 : (y == ("__classdict__" : Str)) = false := by decide)
    (hf : X.fn y = true ∨ X.env.scope.names.lookup y = some .local := by first | exact .inl rfl | exact .inr rfl | assumption) (hc : X.calm = true := by rfl) (hs0 : ∀ v, foldedSetIterable (.Name x px) X.env v = pure v := by intro _; rfl)
    (hsw : swapsWith (.Call (.Attribute (.Name y py2) "append" ap) [.Constant (.int n) jj cp] [] cpos) none ep.line X.env = pure false := by rfl)
    (hbase : attributeBase (.Name y py2) "append" X.env (eval (.Name y py2) X.env) = eval (.Name y py2) X.env := by rfl)
    (hfew : ((backTo cpos (starEach [.Constant (.int n) jj cp] X.env)).all (fun x => !x.1) && (backToKw cpos (keywordEach [] X.env)).all (fun x => x.1.isSome) && decide (([.Constant (.int n) jj cp] : List Expr).length + ([] : List Keyword).length + (if ([] : List Keyword).isEmpty then 0 else 1) < 30)) = true := by rfl)
    (hline : (ap.endLine == cpos.line) = true := by rfl) (hs : starEach [.Constant (.int n) jj cp] X.env = (false, eval (.Constant (.int n) jj cp) X.env) :: starEach [] X.env := by rfl) (hplain : (backTo cpos (starEach [] X.env)).any (·.1) = false := by rfl) :
    QB X g W i (.For (.Name y py) (.Name x px) [.Expr (.Call (.Attribute (.Name y py2) "append" ap) [.Constant (.int n) jj cp] [] cpos) ep] [] pos :: rest) (tSeq (tFor (iList X.K (tVar i)) (gName j) (tDrop (tBM X.K "list" rAppend (tVar j) (tCons (tC (.int n)) tNil)))) tr) (qbLoop j qr) :=
  ⟨pss_cons (ps_for hp hc (pi_list (pe_var hi hvx hd hcd)) (pg_name hN hj hy (hf := hf)) (pss_one (ps_expr (pe_bm PySem.F.plainAttrs_list PySem.F.slot_list_append PySem.F.type_list_append mt_append (pe_var hj hvy hd2 hcd2) (pa_cons pe_int pa_nil hs) hbase hfew hline hs hplain) hsw)) hs0) hr.pss, fun N => sm_loop (c := cg X g N) hij (hr.sm N)⟩
/-- found = [e1, .., en]; what looks at it; the loop; the rest -/
def qBox (i : Nat) (ql : TNsq) (qb : TBq) : TSq := fun DQ env => ql env (fun ds env1 => ds.length ≤ 1000 ∧ lk env1 i (fun _ => True) ∧ st env1 i .no (qb ds DQ)) DQ.ex
theorem sm_box {i : Nat} {qb : TBq} (hl : SmNs c W tl ql) (hb : SmB c W i t qb) : SmS c W (tSeq (tAsg (tLst tl) (gName i)) t) (qBox i ql qb) := by
  intro F P S b σ H env DQ D R hq k
  refine hl F P S b σ H env _ _ _ R hq k.ex fun S1 H1 env1 vs ds R1 e1 ow h1 => ?_
  obtain ⟨hn, hlk, h2⟩ := h1
  have hil : i < σ.length := by
    unfold lk at hlk
    have := R1.len
    cases h : env1[i]? with
    | none => rw [h] at hlk; exact hlk.elim
    | some s => have := (List.getElem?_eq_some_iff.mp h).1; omega
  have vlen : vs.length = ds.length := by
    clear h2 hn
    induction ow with
    | nil => rfl
    | cons _ _ _ _ _ _ ih => exact congrArg (· + 1) ih
  refine ⟨size_of (by omega), fun l hl => ?_⟩
  have n := R1.new hl
  have R2 := (R1.alloc (o := .lst vs) hl).put (i := i) (v := .ref l) (s := .no) trivial (fun d h => nomatch h) rfl
  have hno : ∀ {p : Addr}, (∀ (i : Nat) (e : Q.D), σ[i]? = some (some (.ref p)) → env1[i]? ≠ some (.own e)) → ∀ (i' : Nat) (e : Q.D), (σ.set i (some (.ref l)))[i']? = some (some (.ref p)) → (env1.set i .no)[i']? ≠ some (.own e) := by
    intro p h i' e h3 h4
    rcases getElem?_set' h4 with ⟨_, h, _⟩ | ⟨hne, h5⟩
    · cases h
    · rw [List.getElem?_set_ne (fun z => hne z.symm)] at h3
      exact h i' e h3 h5
  have ow2 : Owns c.K P S1 b (σ.set i (some (.ref l))) (env1.set i .no) (upd H1 l (.lst vs)) vs ds ∧ V.ref l ∉ vs := by
    have : ∀ {ws : List V} {es : List Q.D}, Owns c.K P S1 b σ env1 H1 ws es → Owns c.K P S1 b (σ.set i (some (.ref l))) (env1.set i .no) (upd H1 l (.lst vs)) ws es ∧ V.ref l ∉ ws := by
      intro ws es h
      induction h with
      | nil => exact ⟨.nil, by simp⟩
      | @cons p d vs' ds' z1 z2 z3 z4 z5 _ ih =>
        obtain ⟨o, h7⟩ := z4.some
        have ne := ne_of_none h7 hl
        refine ⟨.cons z1 z2 z3 (z4.mono (Same.refl _) (upd_ne ne)) (hno z5) ih.1, fun hm => ?_⟩
        rcases List.mem_cons.mp hm with e | e
        · exact ne (V.ref.inj e).symm
        · exact ih.2 e
    exact this ow
  refine hb F P S1 b _ _ _ l vs ds DQ _ R2 ⟨by rw [List.getElem?_set_self hil], fun s h => ?_, upd_same, ow2.1⟩ n.1 n.2.1 n.2.2 ow2.2 ?_ h2 (k.mono e1)
  · rcases getElem?_set' h with ⟨_, h, _⟩ | ⟨h, _⟩
    · exact h
    · exact absurd rfl h
  · exact hno (R1.notOwn hl)
theorem qss_box {i : Nat} {x : Str} {px pl : Pos} {qb : TBq} (hN : X.N.Nodup) (hi : X.N[i]? = some x) (hx : Loc X.env.scope x) (hl : QNs X g W es tl ql) (hb : QB X g W i sts t qb)
    (hs : swapsWith (.List es pl) (some (.Name x px)) pos.line X.env = pure false := by rfl) (hf : X.fn x = true ∨ X.env.scope.names.lookup x = some .local := by first | exact .inl rfl | exact .inr rfl | assumption) :
    QSs X g W (.Assign [.Name x px] (.List es pl) pos :: sts) (tSeq (tAsg (tLst tl) (gName i)) t) (qBox i ql qb) :=
  ⟨pss_cons (ps_set hN hi hx (pe_lst hl.pa) hs hf) hb.pss, fun N => sm_box (hl.sm N) (hb.sm N)⟩
theorem e_box {i : Nat} {qb : TBq} {DQ : Ens} {env : En} : qBox i ql qb DQ env = ql env (fun ds env1 => ds.length ≤ 1000 ∧ lk env1 i (fun _ => True) ∧ st env1 i .no (qb ds DQ)) DQ.ex := rfl
theorem e_nsNil {env : En} {k : List D → En → Prop} {x : XQ} : qnsNil env k x = k [] env := rfl
theorem e_nsCons {env : En} {k : List D → En → Prop} {x : XQ} : qnsCons q1 ql env k x = q1 env (fun r env1 => rvO (fun d => ql env1 (fun ds env2 => k (d :: ds) env2) x) r) x := rfl
theorem e_bTest {i : Nat} {d : D} {q : TBq} {ds : List D} {DQ : Ens} {env : En} : qbTest i qt d q ds DQ env = pkC env fun e1 => st e1 i (.sh (.lst ds)) fun e2 => qt e2 (fun r _ => cIf r (hold (fun _ => DQ.rt (.sh d) env) .mk) (hold (fun _ => q ds DQ env) .mk)) fun _ _ _ => False := rfl
def allL (n : Nat) : List D → Prop
  | [] => True
  | d :: ds => dL (fun xs => xs.length ≤ n) d ∧ allL n ds
theorem allL0 {n : Nat} : allL n [] = True := rfl
theorem allL1 {n : Nat} {d : D} {ds : List D} : allL n (d :: ds) = (dL (fun xs => xs.length ≤ n) d ∧ allL n ds) := rfl
theorem allL_iff {n : Nat} : ∀ {ds : List D}, allL n ds ↔ ∀ d ∈ ds, dL (fun xs => xs.length ≤ n) d
  | [] => ⟨fun _ d h => (by cases h), fun _ => trivial⟩
  | d :: ds => by
    constructor
    · intro h e he
      rcases List.mem_cons.mp he with rfl | he
      · exact h.1
      · exact allL_iff.mp h.2 e he
    · exact fun h => ⟨h d (List.mem_cons_self ..), allL_iff.mpr fun e he => h e (List.mem_cons_of_mem _ he)⟩
theorem e_bLoop {j : Nat} {ds : List D} {DQ : Ens} {env : En} : qbLoop j qr ds DQ env = (ds.length ≤ 1000 ∧ allL 9000000 ds ∧ lk env j (fun _ => True) ∧ st env j .no (qr DQ)) := by
  unfold qbLoop
  rw [← allL_iff]
  exact propext ⟨fun ⟨⟨a, b⟩, c⟩ => ⟨a, b, c⟩, fun ⟨a, b, c⟩ => ⟨⟨a, b⟩, c⟩⟩
end
end Q


set_option Elab.async false
set_option linter.all false
set_option maxRecDepth 100000
set_option maxHeartbeats 2000000
set_option autoImplicit false
/-! Q28: the next equal sign, in plain words. -/
namespace Q
open PySem PySem.Spec PyProof.Rows L2
section
variable {α : Type} [DecidableEq α]
theorem dAt_iff {w : List α} {p : Nat} {e : Int} (he : 0 < e) : dAt w p = e ↔ ∃ j, j < p ∧ (p : Int) - (j : Nat) = e ∧ w[j]? = w[p]? ∧ ∀ m, j < m → m < p → w[m]? ≠ w[p]? := by
  constructor
  · intro h
    obtain ⟨j, h1, h2⟩ := dAt_pos (w := w) (p := p) (by omega)
    obtain ⟨a, b, c⟩ := lastIn_some.mp h1
    exact ⟨j, a, by omega, of_decide_eq_true b, fun m m1 m2 => of_decide_eq_false (c m m1 m2)⟩
  · rintro ⟨j, a, b, c, d⟩
    have : lastIn (fun j => decide (w[j]? = w[p]?)) p = some j := lastIn_some.mpr ⟨a, decide_eq_true c, fun m m1 m2 => decide_eq_false (d m m1 m2)⟩
    unfold dAt
    rw [this]; exact b
def nxt (w : List α) : List Int := (dist w.reverse).reverse
theorem nxt_length (w : List α) : (nxt w).length = w.length := by unfold nxt; rw [List.length_reverse, dist_length, List.length_reverse]
theorem nxt_get (w : List α) {q : Nat} (h : q < w.length) : (nxt w)[q]? = some (dAt w.reverse (w.length - 1 - q)) := by
  unfold nxt
  rw [List.getElem?_reverse (by rw [dist_length, List.length_reverse]; exact h), dist_length, List.length_reverse]
  exact dist_get _ (by rw [List.length_reverse]; omega)
theorem nxt_iff {w : List α} {q : Nat} {e : Int} (hq : q < w.length) (he : 0 < e) : (nxt w)[q]? = some e ↔ ∃ j, q < j ∧ j < w.length ∧ (j : Int) - (q : Nat) = e ∧ w[j]? = w[q]? ∧ ∀ m, q < m → m < j → w[m]? ≠ w[q]? := by
  rw [nxt_get w hq, Option.some.injEq, dAt_iff he]
  have rv : ∀ m, m < w.length → w.reverse[m]? = w[w.length - 1 - m]? := fun m hm => List.getElem?_reverse hm
  constructor
  · rintro ⟨j, a, b, c, d⟩
    refine ⟨w.length - 1 - j, by omega, by omega, by omega, ?_, fun m m1 m2 => ?_⟩
    · rw [rv j (by omega), rv _ (by omega)] at c
      rw [c]; congr 1; omega
    · have := d (w.length - 1 - m) (by omega) (by omega)
      rw [rv _ (by omega), rv _ (by omega)] at this
      rwa [show w.length - 1 - (w.length - 1 - m) = m by omega, show w.length - 1 - (w.length - 1 - q) = q by omega] at this
  · rintro ⟨j, a, b, c, d, e⟩
    refine ⟨w.length - 1 - j, by omega, by omega, ?_, fun m m1 m2 => ?_⟩
    · rw [rv _ (by omega), rv _ (by omega), show w.length - 1 - (w.length - 1 - j) = j by omega, show w.length - 1 - (w.length - 1 - q) = q by omega]
      exact d
    · rw [rv _ (by omega), rv _ (by omega), show w.length - 1 - (w.length - 1 - q) = q by omega]
      exact e _ (by omega) (by omega)
theorem nxt_bounds (w : List α) {q : Nat} {e : Int} (h : (nxt w)[q]? = some e) : 0 ≤ e ∧ e < w.length := by
  have hq := (List.getElem?_eq_some_iff.mp h).1
  rw [nxt_length] at hq
  rw [nxt_get w hq] at h
  cases h
  have := dAt_bounds w.reverse (w.length - 1 - q)
  omega
theorem nxt_mem {w : List α} {e : Int} (h : e ∈ nxt w) : 0 ≤ e ∧ e < w.length := by
  obtain ⟨q, h⟩ := List.mem_iff_getElem?.mp h
  exact nxt_bounds w h
theorem nxt_dist {w : List α} {p : Nat} {e : Int} (hp : p < w.length) (he : 0 < e) : dAt w p = e ↔ e ≤ p ∧ (nxt w)[((p : Int) - e).toNat]? = some e := by
  rw [dAt_iff he]
  constructor
  · rintro ⟨j, a, b, c, d⟩
    refine ⟨by omega, (nxt_iff (by omega) he).mpr ⟨p, by omega, hp, by omega, ?_, fun m m1 m2 => ?_⟩⟩
    · rw [show ((p : Int) - e).toNat = j by omega]; exact c.symm
    · rw [show ((p : Int) - e).toNat = j by omega, c]; exact d m (by omega) m2
  · rintro ⟨h0, h⟩
    obtain ⟨j, a, b, c, d, f⟩ := (nxt_iff (by omega) he).mp h
    have hj : j = p := by omega
    subst hj
    exact ⟨((j : Int) - e).toNat, by omega, by omega, d.symm, fun m m1 m2 => by rw [d]; exact f m m1 m2⟩
/-- as the program computes it: the entries are read up to place m -/
def nextM (ns : List Int) : Nat → List Int
  | 0 => List.replicate ns.length 0
  | m + 1 => if 0 < ns.getD m 0 then (nextM ns m).set ((m : Int) - ns.getD m 0).toNat (ns.getD m 0) else nextM ns m
theorem nextM_length (ns : List Int) : ∀ m, (nextM ns m).length = ns.length
  | 0 => by unfold nextM; rw [List.length_replicate]
  | m + 1 => by
    unfold nextM
    split
    · rw [List.length_set, nextM_length ns m]
    · exact nextM_length ns m
theorem nextM_get (w : List α) : ∀ m, m ≤ w.length → ∀ q, q < w.length → ∀ e, (nxt w)[q]? = some e → (nextM (dist w) m)[q]? = some (if (q : Int) + e < m then e else 0)
  | 0, _, q, hq, e, he => by
    unfold nextM
    have := nxt_bounds w he
    rw [List.getElem?_replicate, dist_length, if_pos hq, if_neg (by omega)]
  | m + 1, hm, q, hq, e, he => by
    have ih := nextM_get w m (by omega) q hq e he
    have hb := nxt_bounds w he
    have hd : (dist w).getD m 0 = dAt w m := by rw [List.getD_eq_getElem?_getD, dist_get w (by omega)]; rfl
    have hdb := dAt_bounds w m
    unfold nextM
    rw [hd]
    by_cases h0 : 0 < dAt w m
    · rw [if_pos h0]
      have h1 := (nxt_dist (w := w) (p := m) (by omega) h0).mp rfl
      by_cases h2 : ((m : Int) - dAt w m).toNat = q
      · rw [h2, he] at h1
        have e1 := Option.some.inj h1.2
        rw [h2, List.getElem?_set_self (by rw [nextM_length, dist_length]; exact hq), if_pos (by omega), ← e1]
      · rw [List.getElem?_set_ne h2, ih]
        congr 1
        by_cases h3 : (q : Int) + e < m
        · rw [if_pos h3, if_pos (by omega)]
        · rw [if_neg h3]
          by_cases h4 : (q : Int) + e < ((m + 1 : Nat) : Int)
          · rw [if_pos h4]
            rcases Int.lt_or_eq_of_le hb.1 with h5 | h5
            · have := (nxt_dist (w := w) (p := m) (by omega) h5).mpr ⟨by omega, by rw [show ((m : Int) - e).toNat = q by omega]; exact he⟩
              exact absurd (by omega : ((m : Int) - dAt w m).toNat = q) h2
            · exact h5
          · rw [if_neg h4]
    · rw [if_neg h0, ih]
      congr 1
      by_cases h3 : (q : Int) + e < m
      · rw [if_pos h3, if_pos (by omega)]
      · rw [if_neg h3]
        by_cases h4 : (q : Int) + e < ((m + 1 : Nat) : Int)
        · rw [if_pos h4]
          rcases Int.lt_or_eq_of_le hb.1 with h5 | h5
          · have := (nxt_dist (w := w) (p := m) (by omega) h5).mpr ⟨by omega, by rw [show ((m : Int) - e).toNat = q by omega]; exact he⟩
            omega
          · exact h5
        · rw [if_neg h4]
def nextI (ns : List Int) : List Int := nextM ns ns.length
theorem next_dist (w : List α) : nextI (dist w) = nxt w := by
  apply List.ext_getElem?
  intro q
  unfold nextI
  rcases Nat.lt_or_ge q w.length with h | h
  · have hl : q < (nxt w).length := by rw [nxt_length]; exact h
    have he := List.getElem?_eq_getElem hl
    rw [nextM_get w _ (by rw [dist_length]; exact Nat.le_refl _) q h _ he, he]
    congr 1
    have hb := nxt_bounds w he
    rcases Int.lt_or_eq_of_le hb.1 with h5 | h5
    · obtain ⟨j, a, b, c, d, f⟩ := (nxt_iff h h5).mp he
      rw [dist_length, if_pos (by omega)]
    · rw [← h5]; split <;> rfl
  · rw [List.getElem?_eq_none (by rw [nextM_length, dist_length]; exact h), List.getElem?_eq_none (by rw [nxt_length]; exact h)]
/-- as the law computes it -/
theorem nxt_scan {w : List α} {p : Nat} {x : α} (hp : w[p]? = some x) : (nxt w)[p]? = some (if x ∈ w.drop (p + 1) then (((w.drop (p + 1)).idxOf x : Nat) : Int) + 1 else 0) := by
  have hl := (List.getElem?_eq_some_iff.mp hp).1
  by_cases h : x ∈ w.drop (p + 1)
  · rw [if_pos h]
    refine (nxt_iff hl (by omega)).mpr ⟨p + 1 + (w.drop (p + 1)).idxOf x, by omega, ?_, by omega, ?_, fun m m1 m2 => ?_⟩
    · have := List.idxOf_lt_length_of_mem h
      rw [List.length_drop] at this; omega
    · rw [← List.getElem?_drop, hp, List.getElem?_eq_getElem (List.idxOf_lt_length_of_mem h), List.getElem_idxOf]
    · rw [hp]
      intro z
      have e1 : (w.drop (p + 1))[m - (p + 1)]? = some x := by rw [List.getElem?_drop, show p + 1 + (m - (p + 1)) = m by omega]; exact z
      obtain ⟨hj, hj2⟩ := List.getElem?_eq_some_iff.mp e1
      have := List.not_of_lt_findIdx (p := (· == x)) (xs := w.drop (p + 1)) (i := m - (p + 1)) (by show _ < (w.drop (p + 1)).idxOf x; omega)
      rw [hj2] at this
      simp at this
  · rw [if_neg h]
    obtain ⟨e, he⟩ : ∃ e, (nxt w)[p]? = some e := ⟨_, List.getElem?_eq_getElem (by rw [nxt_length]; exact hl)⟩
    rw [he]
    have hb := nxt_bounds w he
    rcases Int.lt_or_eq_of_le hb.1 with h5 | h5
    · obtain ⟨j, a, b, c, d, f⟩ := (nxt_iff hl h5).mp he
      refine absurd ?_ h
      refine List.mem_iff_getElem?.mpr ⟨j - (p + 1), ?_⟩
      rw [List.getElem?_drop, show p + 1 + (j - (p + 1)) = j by omega, d, hp]
    · rw [← h5]
theorem nxt_take_snoc {w : List α} {p : Nat} {x : α} (hp : w[p]? = some x) : (nxt w).take (p + 1) = (nxt w).take p ++ [if x ∈ w.drop (p + 1) then (((w.drop (p + 1)).idxOf x : Nat) : Int) + 1 else 0] := by
  rw [List.take_add_one, nxt_scan hp]; rfl
end
/-- texts of one pattern, backwards -/
theorem Alike.reverse {α β : Type} {u : List α} {w : List β} (h : Alike u w) : Alike u.reverse w.reverse :=
  h.pick (fun i => u.length - 1 - i) (fun i hi => by rw [List.length_reverse] at hi; exact ⟨by omega, List.getElem?_reverse hi⟩) (fun i hi => by rw [List.length_reverse, ← h.1] at hi; rw [List.getElem?_reverse (by rw [← h.1]; exact hi), h.1]) (by rw [List.length_reverse, List.length_reverse, h.1])
theorem rev_dist (w : List Int) : dist (idsD (dist w)).reverse = dist w.reverse := (ids_alike w).reverse.dist
end Q


set_option Elab.async false
set_option linter.all false
set_option maxRecDepth 100000
set_option maxHeartbeats 2000000
set_option autoImplicit false
/-! Q29: what may be shown, put together from parts. -/
namespace Q
open PySem PySem.Spec PyProof.Rows L2
/-- d may be shown: k deep, n long -/
structure Shw (d : D) (k n : Nat) : Prop where
  plain : plainD d = true
  able : (toP d).showable = true
  deep : (toP d).depth ≤ k
  small : (toP d).shown.length ≤ n
structure Shws (ds : List D) (k n : Nat) : Prop where
  plain : plainDs ds = true
  able : PyData.showableAll (toPs ds) = true
  deep : PyData.depthAll (toPs ds) ≤ k
  small : ((PyData.shownAll (toPs ds)).map (·.length)).sum + 2 * (PyData.shownAll (toPs ds)).length ≤ n
theorem Shw.ok {d : D} {k n : Nat} (h : Shw d k n) (hk : k ≤ 60 := by decide) (hn : n ≤ 10000000 := by omega) : ShowOk d := ⟨h.plain, h.able, Nat.le_trans h.deep hk, Nat.le_trans h.small hn⟩
theorem Shw.mono {d : D} {k n k' n' : Nat} (h : Shw d k n) (hk : k ≤ k') (hn : n ≤ n') : Shw d k' n' := ⟨h.plain, h.able, Nat.le_trans h.deep hk, Nat.le_trans h.small hn⟩
theorem Shws.mono {d : List D} {k n k' n' : Nat} (h : Shws d k n) (hk : k ≤ k') (hn : n ≤ n') : Shws d k' n' := ⟨h.plain, h.able, Nat.le_trans h.deep hk, Nat.le_trans h.small hn⟩
theorem shw_non : Shw .non 0 4 := ⟨rfl, by simp [toP, PyData.showable], by simp [toP, PyData.depth], by simp only [toP]; decide⟩
theorem shw_bl {b : Bool} : Shw (.bl b) 0 5 := ⟨rfl, by simp [toP, PyData.showable], by simp [toP, PyData.depth], by simp only [toP]; cases b <;> decide⟩
theorem log2_lt' {n m : Nat} (h : n < 2 ^ m) (h0 : 0 < m) : n.log2 < m := by
  by_cases e : n = 0
  · rw [e, show Nat.log2 0 = 0 by decide +kernel]; exact h0
  · exact (Nat.log2_lt e).mpr h
theorem shw_int {i : Int} (h : i.natAbs < 10 ^ 12) : Shw (.int i) 0 13 := by
  refine ⟨rfl, ?_, by simp [toP, PyData.depth], ?_⟩
  · simp only [toP, PyData.showable]
    exact decide_eq_true (Nat.lt_of_lt_of_le (log2_lt' (m := 40) (Nat.lt_of_lt_of_le h (by decide)) (by decide)) (by decide))
  · simp only [toP]; exact PyData.shown_int_le h
theorem nat_int_str (n : Nat) : (toString (n : Int)) = toString n := by
  simp [toString, Int.repr]
theorem neg_int_str (n : Nat) : (toString (Int.negSucc n)) = "-" ++ toString (n + 1) := by
  rfl
theorem str_len (i : Int) {k : Nat} (hk : 0 < k) (h : i.natAbs < 10 ^ k) : (Str.ofString (toString i)).length ≤ k + 1 := by
  cases i with
  | ofNat n =>
    have := toString_length_le (v := (n : Int)) (by omega) hk (by have : n < 10 ^ k := h; exact_mod_cast this)
    exact Nat.le_succ_of_le this
  | negSucc n =>
    have hn : n + 1 < 10 ^ k := h
    have := toString_length_le (v := ((n + 1 : Nat) : Int)) (by omega) hk (by exact_mod_cast hn)
    rw [neg_int_str, PyProof.Rows.ofString_length, String.toList_append, List.length_append]
    rw [PyProof.Rows.ofString_length, nat_int_str] at this
    show 1 + _ ≤ _
    omega
theorem shw_big {i : Int} {k : Nat} (h : i.natAbs < 10 ^ k) (hk : 0 < k := by decide) (h2 : k ≤ 570 := by decide) : Shw (.int i) 0 (k + 1) := by
  refine ⟨rfl, ?_, by simp [toP, PyData.depth], ?_⟩
  · simp only [toP, PyData.showable]
    refine decide_eq_true (log2_lt' (Nat.lt_of_lt_of_le h ?_) (by decide))
    exact Nat.le_trans (Nat.pow_le_pow_right (by decide) h2) (by decide +kernel)
  · simp only [toP]
    exact str_len i hk h
theorem shw_str {x : Str} {n : Nat} (h : x.length ≤ n) (hx : ∀ c ∈ x.cps.toList, c < 16 ^ 8) : Shw (.str x) 0 (10 * n + 2) := by
  refine ⟨rfl, by simp [toP, PyData.showable], by simp [toP, PyData.depth], ?_⟩
  simp only [toP]
  exact Nat.le_trans (StrLaws.reprText_len x hx) (by omega)
theorem shws_nil {k : Nat} : Shws [] k 0 := ⟨rfl, rfl, Nat.zero_le _, Nat.le_refl _⟩
theorem shws_cons {d : D} {ds : List D} {k n m : Nat} (h : Shw d k n) (r : Shws ds k m) : Shws (d :: ds) k (n + 2 + m) := by
  refine ⟨?_, ?_, ?_, ?_⟩
  · show (plainD d && plainDs ds) = true
    rw [h.plain, r.plain]; rfl
  · show (PyData.showable (toP d) && PyData.showableAll (toPs ds)) = true
    rw [h.able, r.able]; rfl
  · have h1 := h.deep
    have h2 := r.deep
    show max (toP d).depth (PyData.depthAll (toPs ds)) ≤ k
    omega
  · have h1 := h.small
    have h2 := r.small
    show ((toP d).shown.length + ((PyData.shownAll (toPs ds)).map (·.length)).sum) + 2 * ((PyData.shownAll (toPs ds)).length + 1) ≤ _
    omega
theorem shw_lst {ds : List D} {k n : Nat} (h : Shws ds k n) : Shw (.lst ds) (k + 1) (n + 3) := by
  refine ⟨h.plain, ?_, ?_, ?_⟩
  · simp only [toP]; exact h.able
  · simp only [toP, PyData.depth]
    have := h.deep; omega
  · simp only [toP]
    have h1 := listText_len_le (PyData.shownAll (toPs ds))
    have h2 := h.small
    show (listText _).length ≤ _
    omega
theorem shw_tup {ds : List D} {k n : Nat} (h : Shws ds k n) : Shw (.tup ds) (k + 1) (n + 3) := by
  refine ⟨h.plain, ?_, ?_, ?_⟩
  · simp only [toP]; exact h.able
  · simp only [toP, PyData.depth]
    have := h.deep; omega
  · simp only [toP]
    have h1 := tupleText_len_le (PyData.shownAll (toPs ds))
    have h2 := h.small
    show (tupleText _).length ≤ _
    omega
theorem shws_all {k n : Nat} : ∀ {ds : List D}, (∀ d ∈ ds, Shw d k n) → Shws ds k ((n + 2) * ds.length)
  | [], _ => by simpa using shws_nil
  | d :: ds, h => by
    refine (shws_cons (h d (List.mem_cons_self ..)) (shws_all fun e he => h e (List.mem_cons_of_mem _ he))).mono (Nat.le_refl _) ?_
    rw [List.length_cons, Nat.mul_succ]; omega
theorem shws_map {α : Type} {f : α → D} {xs : List α} {k n : Nat} (h : ∀ x ∈ xs, Shw (f x) k n) : Shws (xs.map f) k ((n + 2) * xs.length) := by
  have := shws_all (ds := xs.map f) (k := k) (n := n) fun d hd => by
    obtain ⟨x, hx, rfl⟩ := List.mem_map.mp hd
    exact h x hx
  rwa [List.length_map] at this
theorem shws_app {k n m : Nat} : ∀ {ds es : List D}, Shws ds k n → Shws es k m → Shws (ds ++ es) k (n + m)
  | [], es, _, h2 => h2.mono (Nat.le_refl _) (Nat.le_add_left ..)
  | d :: ds, es, h1, h2 => by
    have p1 : plainD d = true ∧ plainDs ds = true := by
      have := h1.plain
      change (plainD d && plainDs ds) = true at this
      rwa [Bool.and_eq_true] at this
    have a1 : PyData.showable (toP d) = true ∧ PyData.showableAll (toPs ds) = true := by
      have := h1.able
      change (PyData.showable (toP d) && PyData.showableAll (toPs ds)) = true at this
      rwa [Bool.and_eq_true] at this
    have d1 : max (toP d).depth (PyData.depthAll (toPs ds)) ≤ k := h1.deep
    have s1 : ((toP d).shown.length + ((PyData.shownAll (toPs ds)).map (·.length)).sum) + 2 * ((PyData.shownAll (toPs ds)).length + 1) ≤ n := h1.small
    have r : Shws ds k (n - ((toP d).shown.length + 2)) := ⟨p1.2, a1.2, by omega, by omega⟩
    exact (shws_cons ⟨p1.1, a1.1, by omega, Nat.le_refl _⟩ (shws_app r h2)).mono (Nat.le_refl _) (by omega)
theorem shw_lints {ns : List Int} {n : Nat} (h : ∀ x ∈ ns, x.natAbs < 10 ^ 12) (hl : ns.length ≤ n) : Shw (.lst (ns.map .int)) 1 (15 * n + 3) :=
  (shw_lst (shws_map fun x hx => shw_int (h x hx))).mono (Nat.le_refl _) (by have := Nat.mul_le_mul_left 15 hl; omega)
theorem shw_tints {ns : List Int} {n : Nat} (h : ∀ x ∈ ns, x.natAbs < 10 ^ 12) (hl : ns.length ≤ n) : Shw (.tup (ns.map .int)) 1 (15 * n + 3) :=
  (shw_tup (shws_map fun x hx => shw_int (h x hx))).mono (Nat.le_refl _) (by have := Nat.mul_le_mul_left 15 hl; omega)
/-! picked by a written place -/
section
variable {a b c d e : D} {r : List D} {k : D → Prop}
theorem f_ix0 : fIx (.lst (a :: r)) (.int 0) k = k a := by
  rw [f_ixL, show atI (a :: r) 0 = some a by rw [atI_pos (by decide)]; rfl]; exact ex_some
theorem f_ix1 : fIx (.lst (a :: b :: r)) (.int 1) k = k b := by
  rw [f_ixL, show atI (a :: b :: r) 1 = some b by rw [atI_pos (by decide)]; rfl]; exact ex_some
theorem f_ix2 : fIx (.lst (a :: b :: c :: r)) (.int 2) k = k c := by
  rw [f_ixL, show atI (a :: b :: c :: r) 2 = some c by rw [atI_pos (by decide)]; rfl]; exact ex_some
theorem f_ix3 : fIx (.lst (a :: b :: c :: d :: r)) (.int 3) k = k d := by
  rw [f_ixL, show atI (a :: b :: c :: d :: r) 3 = some d by rw [atI_pos (by decide)]; rfl]; exact ex_some
theorem f_ix4 : fIx (.lst (a :: b :: c :: d :: e :: r)) (.int 4) k = k e := by
  rw [f_ixL, show atI (a :: b :: c :: d :: e :: r) 4 = some e by rw [atI_pos (by decide)]; rfl]; exact ex_some
theorem f_ixT0 : fIx (.tup (a :: r)) (.int 0) k = k a := by
  rw [f_ixT, show atI (a :: r) 0 = some a by rw [atI_pos (by decide)]; rfl]; exact ex_some
theorem f_ixT1 : fIx (.tup (a :: b :: r)) (.int 1) k = k b := by
  rw [f_ixT, show atI (a :: b :: r) 1 = some b by rw [atI_pos (by decide)]; rfl]; exact ex_some
theorem f_ixT2 : fIx (.tup (a :: b :: c :: r)) (.int 2) k = k c := by
  rw [f_ixT, show atI (a :: b :: c :: r) 2 = some c by rw [atI_pos (by decide)]; rfl]; exact ex_some
theorem f_ixT3 : fIx (.tup (a :: b :: c :: d :: r)) (.int 3) k = k d := by
  rw [f_ixT, show atI (a :: b :: c :: d :: r) 3 = some d by rw [atI_pos (by decide)]; rfl]; exact ex_some
theorem f_ixT4 : fIx (.tup (a :: b :: c :: d :: e :: r)) (.int 4) k = k e := by
  rw [f_ixT, show atI (a :: b :: c :: d :: e :: r) 4 = some e by rw [atI_pos (by decide)]; rfl]; exact ex_some
end
theorem ints_inj {a b : List Int} : (a.map D.int = b.map D.int) = (a = b) := propext (List.map_inj_right fun _ _ h => D.int.inj h)
theorem strs_inj {a b : List Str} : (a.map D.str = b.map D.str) = (a = b) := propext (List.map_inj_right fun _ _ h => D.str.inj h)
theorem pop_ints {ns : List Int} {m : Nat} {P : D → Prop} (hm : m = ns.length - 1) (h : 0 < ns.length) (q : ∀ n, ns[ns.length - 1]? = some n → P (.int n)) : ∃ e, (ns.map D.int)[m]? = some e ∧ P e := by
  subst hm
  have hl : ns.length - 1 < ns.length := by omega
  exact ⟨.int ns[ns.length - 1], by rw [List.getElem?_map, List.getElem?_eq_getElem hl]; rfl, q _ (List.getElem?_eq_getElem hl)⟩
end Q


set_option Elab.async false
set_option linter.all false
set_option maxRecDepth 100000
set_option maxHeartbeats 2000000
set_option autoImplicit false
/-! Q30: symbols merged and split, in plain words. -/
namespace Q
open PySem PySem.Spec PyProof.Rows L2
/-! turns over what is written out -/
theorem e_loopC {g : TGq} {s : TSq} {DQ : Ens} {d : D} {ds : List D} {env : En} : loopQ g s DQ (d :: ds) env = g d env fun env1 => s { DQ with nx := loopQ g s DQ ds, ct := loopQ g s DQ ds, bk := DQ.nx } env1 := rfl
theorem e_loopN {g : TGq} {s : TSq} {DQ : Ens} {env : En} : loopQ g s DQ [] env = DQ.nx env := rfl
theorem e_step {g : TGq} {tt : TTq} {te : TEq} {vs : List Nat} {acc : List D} {X : List D → En → Prop} {d : D} {env : En} : compStep g tt te vs acc X d env = g d env fun env1 => tt env1 (fun y env2 => cIf y (hold (fun _ => te env2 (fun y env3 => sh1C env3 y fun e env4 => acc.length < 10000000 ∧ wp env4 vs (X (acc ++ [e]))) (fun _ _ _ => False)) .mk) (hold (fun _ => wp env2 vs (X acc)) .mk)) fun _ _ _ => False := rfl
theorem e_exI {u : List Int} {P : List Int → Prop} : (∃ ns : List Int, u.map D.int = ns.map D.int ∧ P ns) = P u := propext ⟨fun ⟨ns, h, q⟩ => (by rw [ints_inj] at h; subst h; exact q), fun q => ⟨u, rfl, q⟩⟩
theorem dist_small {u : List Int} (h : u.length ≤ 100000) : ∀ n ∈ dist u, n.natAbs < 10 ^ 12 := fun n hn => by have := dist_mem hn; omega
theorem in_ok {lo hi i : Int} (h1 : lo ≤ i) (h2 : i ≤ hi) : intIn lo (.int hi) (.int i) = true := by simp [intIn, leO, h1, h2]
theorem e_toI {i : Int} : toI (.int i) = i := rfl
theorem comp_mapI {g : TGq} {tt : TTq} {te : TEq} {vs : List Nat} {ns : List Int} {env : En} {k : List D → En → Prop} (f : Int → Int)
    (hs : ∀ (n : Nat) (i : Int) (acc : List D) (X : List D → En → Prop), ns[n]? = some i → n < ns.length → acc.length ≤ n → X (acc ++ [.int (f i)]) env → compStep g tt te vs acc X (.int i) env)
    (he : k ((ns.map f).map .int) env) : compQ g tt te vs (ns.map .int) [] env k := by
  refine comp_ints (fun _ => true) (fun i => .int (f i)) (fun n i acc X h1 h2 h3 h4 _ => hs n i acc X h1 h2 h3 (h4 rfl)) ?_
  rw [filter_tt]
  rw [List.map_map] at he
  exact he
theorem ids_lt (w : List Int) {e : Int} (h : e ∈ idsD (dist w)) : 0 ≤ e ∧ e < zc (dist w) := by
  obtain ⟨p, hp⟩ := List.mem_iff_getElem?.mp h
  have hl := (List.getElem?_eq_some_iff.mp hp).1
  rw [idsD_length, dist_length] at hl
  obtain ⟨q, q1, q2, q3, q4⟩ := ids_root w p hl
  rw [hp] at q4
  cases q4
  refine ⟨zc_nonneg _, ?_⟩
  have h1 : (dist w).take (q + 1) = (dist w).take q ++ [0] := by
    rw [List.take_add_one, dist_get w (by omega), q2]; rfl
  have h2 := zc_mono (dist w) (m := q + 1) (n := w.length) (by omega)
  have h3 : (dist w).take w.length = dist w := List.take_of_length_le (by rw [dist_length]; exact Nat.le_refl _)
  rw [h1, zc_snoc, if_pos rfl, h3] at h2
  omega
theorem Alike.maps {α β γ : Type} {I : List α} {f : α → β} {g : α → γ} (h : ∀ x ∈ I, ∀ y ∈ I, (f x = f y ↔ g x = g y)) : Alike (I.map f) (I.map g) := by
  refine ⟨by rw [List.length_map, List.length_map], fun i j hi hj => ?_⟩
  rw [List.length_map] at hi hj
  have e1 := List.getElem?_eq_getElem hi
  have e2 := List.getElem?_eq_getElem hj
  rw [List.getElem?_map, List.getElem?_map, List.getElem?_map, List.getElem?_map, e1, e2]
  simp only [Option.map_some, Option.some.injEq]
  exact h _ (List.getElem_mem ..) _ (List.getElem_mem ..)
/-- two texts, told place by place -/
theorem Alike.of {α β : Type} {u : List α} {w : List β} (hl : u.length = w.length) (h : ∀ (i j : Nat) (x y : α) (x' y' : β), u[i]? = some x → u[j]? = some y → w[i]? = some x' → w[j]? = some y' → (x = y ↔ x' = y')) : Alike u w := by
  refine ⟨hl, fun i j hi hj => ?_⟩
  have e1 := List.getElem?_eq_getElem hi
  have e2 := List.getElem?_eq_getElem hj
  have e3 := List.getElem?_eq_getElem (l := w) (i := i) (by omega)
  have e4 := List.getElem?_eq_getElem (l := w) (i := j) (by omega)
  rw [e1, e2, e3, e4, Option.some.injEq, Option.some.injEq]
  exact h i j _ _ _ _ e1 e2 e3 e4
theorem Alike.eqv {α β : Type} {u : List α} {w : List β} (h : Alike u w) {i j : Nat} {x y : α} {x' y' : β} (h1 : u[i]? = some x) (h2 : u[j]? = some y) (h3 : w[i]? = some x') (h4 : w[j]? = some y') : x = y ↔ x' = y' := by
  have := h.2 i j (List.getElem?_eq_some_iff.mp h1).1 (List.getElem?_eq_some_iff.mp h2).1
  rwa [h1, h2, h3, h4, Option.some.injEq, Option.some.injEq] at this
def mergeI (ns : List Int) (a b : Int) : List Int := dist ((idsD ns).map fun s => if s = b then a else s)
theorem merge_symm (ns : List Int) (a b : Int) : mergeI ns b a = mergeI ns a b :=
  (Alike.maps fun x _ y _ => by repeat' split <;> omega).dist
theorem merge_self (w : List Int) (a : Int) : mergeI (dist w) a a = dist w := by
  unfold mergeI
  rw [show ((idsD (dist w)).map fun s => if s = a then a else s) = idsD (dist w) from by
    rw [List.map_congr_left (g := id) fun x _ => by show (if x = a then a else x) = x; split <;> omega]; exact List.map_id _]
  exact dist_ids w
/-- from place p on the sign c is written m -/
def reSign (I : List Int) (p : Nat) (c m : Int) : List Int := I.take p ++ (I.drop p).map fun s => if s = c then m else s
theorem reSign_length (I : List Int) (p : Nat) (c m : Int) : (reSign I p c m).length = I.length := by
  unfold reSign; rw [List.length_append, List.length_map, ← List.length_append, List.take_append_drop]
theorem reSign_get (I : List Int) (p : Nat) (c m : Int) (i : Nat) (x : Int) (h : I[i]? = some x) : (reSign I p c m)[i]? = some (if p ≤ i ∧ x = c then m else x) := by
  unfold reSign
  have hi := (List.getElem?_eq_some_iff.mp h).1
  rcases Nat.lt_or_ge i p with h1 | h1
  · rw [List.getElem?_append_left (by rw [List.length_take]; omega), List.getElem?_take_of_lt h1, h, if_neg (by omega)]
  · rw [List.getElem?_append_right (by rw [List.length_take]; omega), List.getElem?_map, List.getElem?_drop, List.length_take, show p + (i - min p I.length) = i by omega, h]
    by_cases h2 : x = c
    · rw [if_pos ⟨h1, h2⟩, Option.map_some, if_pos h2]
    · rw [if_neg (fun z => h2 z.2), Option.map_some, if_neg h2]
theorem reSign_at (I : List Int) (p : Nat) (c m : Int) (i : Nat) (y : Int) (h : (reSign I p c m)[i]? = some y) : ∃ x, I[i]? = some x ∧ y = if p ≤ i ∧ x = c then m else x := by
  have hi := (List.getElem?_eq_some_iff.mp h).1
  rw [reSign_length] at hi
  refine ⟨I[i], List.getElem?_eq_getElem hi, ?_⟩
  rw [reSign_get I p c m i _ (List.getElem?_eq_getElem hi)] at h
  exact (Option.some.inj h).symm
theorem reSign_alike {I : List Int} {p : Nat} {c m m' : Int} (h : m ∉ I) (h' : m' ∉ I) : Alike (reSign I p c m) (reSign I p c m') := by
  refine Alike.of (by rw [reSign_length, reSign_length]) fun i j x y x' y' h1 h2 h3 h4 => ?_
  obtain ⟨a, ha, rfl⟩ := reSign_at _ _ _ _ _ _ h1
  obtain ⟨b, hb, rfl⟩ := reSign_at _ _ _ _ _ _ h2
  rw [reSign_get _ _ _ _ _ _ ha] at h3
  rw [reSign_get _ _ _ _ _ _ hb] at h4
  cases h3
  cases h4
  have a1 : a ≠ m := fun e => h (e ▸ List.mem_of_getElem? ha)
  have a2 : a ≠ m' := fun e => h' (e ▸ List.mem_of_getElem? ha)
  have b1 : b ≠ m := fun e => h (e ▸ List.mem_of_getElem? hb)
  have b2 : b ≠ m' := fun e => h' (e ▸ List.mem_of_getElem? hb)
  repeat' split <;> omega
theorem reSign_first {I : List Int} {p : Nat} {c m : Int} (h : m ∉ I) (hf : ∀ i, i < p → I[i]? ≠ some c) : Alike (reSign I p c m) I := by
  refine Alike.of (reSign_length ..) fun i j x y x' y' h1 h2 h3 h4 => ?_
  rw [reSign_get _ _ _ _ _ _ h3] at h1
  rw [reSign_get _ _ _ _ _ _ h4] at h2
  cases h1
  cases h2
  have a1 : x' ≠ m := fun e => h (e ▸ List.mem_of_getElem? h3)
  have b1 : y' ≠ m := fun e => h (e ▸ List.mem_of_getElem? h4)
  have a2 : i < p → x' ≠ c := fun hi e => hf i hi (by rw [← e]; exact h3)
  have b2 : j < p → y' ≠ c := fun hi e => hf j hi (by rw [← e]; exact h4)
  repeat' split <;> omega
def splitI (ns : List Int) (p : Nat) : List Int := dist (reSign (idsD ns) p ((idsD ns).getD p 0) (zc ns))
theorem split_dist (w : List Int) (p : Nat) : splitI (dist w) p = dist (reSign (idsD (dist w)) p ((idsD (dist w)).getD p 0) (-1)) :=
  (reSign_alike (fun h => by have := ids_lt w h; omega) (fun h => by have := ids_lt w h; omega)).dist
/-- the parts of a split merged again -/
theorem split_merge (w : List Int) {p f : Nat} {c : Int} (hp : (idsD (dist w))[p]? = some c) (hf : (idsD (dist w))[f]? = some c) (hfp : f < p) {hp' hf' : Int}
    (h1 : (idsD (dist (reSign (idsD (dist w)) p c (-1))))[p]? = some hp') (h2 : (idsD (dist (reSign (idsD (dist w)) p c (-1))))[f]? = some hf') :
    mergeI (dist (reSign (idsD (dist w)) p c (-1))) hf' hp' = dist w := by
  have hA := ids_alike (reSign (idsD (dist w)) p c (-1))
  unfold mergeI
  have key : Alike ((idsD (dist (reSign (idsD (dist w)) p c (-1)))).map fun s => if s = hp' then hf' else s) (idsD (dist w)) := by
    refine Alike.of (by rw [List.length_map, idsD_length, dist_length, reSign_length]) fun i j x y x' y' g1 g2 g3 g4 => ?_
    rw [List.getElem?_map] at g1 g2
    cases e1 : (idsD (dist (reSign (idsD (dist w)) p c (-1))))[i]? with
    | none => rw [e1] at g1; cases g1
    | some hi =>
      cases e2 : (idsD (dist (reSign (idsD (dist w)) p c (-1))))[j]? with
      | none => rw [e2] at g2; cases g2
      | some hj =>
        rw [e1] at g1
        rw [e2] at g2
        cases g1
        cases g2
        have u1 := reSign_get (idsD (dist w)) p c (-1) i x' g3
        have u2 := reSign_get (idsD (dist w)) p c (-1) j y' g4
        have u3 := reSign_get (idsD (dist w)) p c (-1) p c hp
        have u4 := reSign_get (idsD (dist w)) p c (-1) f c hf
        rw [if_pos ⟨Nat.le_refl _, rfl⟩] at u3
        rw [if_neg (by omega)] at u4
        have k1 := hA.eqv e1 e2 u1 u2
        have k2 := hA.eqv e1 h1 u1 u3
        have k3 := hA.eqv e2 h1 u2 u3
        have k4 := hA.eqv e1 h2 u1 u4
        have k5 := hA.eqv e2 h2 u2 u4
        have c0 := ids_lt w (List.mem_of_getElem? hp)
        have x0 := ids_lt w (List.mem_of_getElem? g3)
        have y0 := ids_lt w (List.mem_of_getElem? g4)
        show (if hi = hp' then hf' else hi) = (if hj = hp' then hf' else hj) ↔ x' = y'
        by_cases z1 : p ≤ i ∧ x' = c <;> by_cases z2 : p ≤ j ∧ y' = c
        · rw [if_pos z1] at k1 k2 k4
          rw [if_pos z2] at k1 k3 k5
          by_cases w1 : hi = hp' <;> by_cases w2 : hj = hp' <;> simp only [w1, w2, if_true, if_false] <;> (first | omega | exact ⟨fun _ => by omega, fun _ => by first | trivial | omega⟩)
        · rw [if_pos z1] at k1 k2 k4
          rw [if_neg z2] at k1 k3 k5
          by_cases w1 : hi = hp' <;> by_cases w2 : hj = hp' <;> simp only [w1, w2, if_true, if_false] <;> (first | omega | exact ⟨fun _ => by omega, fun _ => by first | trivial | omega⟩)
        · rw [if_neg z1] at k1 k2 k4
          rw [if_pos z2] at k1 k3 k5
          by_cases w1 : hi = hp' <;> by_cases w2 : hj = hp' <;> simp only [w1, w2, if_true, if_false] <;> (first | omega | exact ⟨fun _ => by omega, fun _ => by first | trivial | omega⟩)
        · rw [if_neg z1] at k1 k2 k4
          rw [if_neg z2] at k1 k3 k5
          by_cases w1 : hi = hp' <;> by_cases w2 : hj = hp' <;> simp only [w1, w2, if_true, if_false] <;> (first | omega | exact ⟨fun _ => by omega, fun _ => by first | trivial | omega⟩)
  rw [key.dist, dist_ids]
end Q


set_option Elab.async false
set_option linter.all false
set_option maxRecDepth 100000
set_option maxHeartbeats 2000000
set_option autoImplicit false
/-! Q31: recency ranks, in plain words. -/
namespace Q
open PySem PySem.Spec PyProof.Rows L2
section
variable {α β : Type} [DecidableEq α] [DecidableEq β]
theorem idx_ne {l : List α} {a b : α} (h : a ≠ b) : (a :: l).idxOf b = l.idxOf b + 1 := by
  rw [List.idxOf_cons]
  have : (a == b) = false := by simpa using h
  rw [this]; rfl
theorem idx_inj {l : List α} {x y : α} (hx : x ∈ l) (h : l.idxOf x = l.idxOf y) : x = y := by
  have h1 := List.idxOf_lt_length_of_mem hx
  have e1 : l[l.idxOf x] = x := List.getElem_idxOf h1
  have e2 : l[l.idxOf y]'(by rw [← h]; exact h1) = y := List.getElem_idxOf _
  rw [← e1, ← e2]
  congr 1
/-- the signs of a text, the most recent first -/
def rec (u : List α) : List α := u.foldl (fun r x => x :: r.erase x) []
theorem rec_snoc (u : List α) (x : α) : rec (u ++ [x]) = x :: (rec u).erase x := by
  unfold rec; rw [List.foldl_append]; rfl
theorem snoc_ind {P : List α → Prop} (h0 : P []) (hs : ∀ u x, P u → P (u ++ [x])) (u : List α) : P u := by
  have : ∀ n, ∀ u : List α, u.length = n → P u := by
    intro n
    induction n with
    | zero => intro u h; rw [List.eq_nil_of_length_eq_zero h]; exact h0
    | succ n ih =>
      intro u h
      have hne : u ≠ [] := fun e => by rw [e] at h; cases h
      rw [← List.dropLast_concat_getLast hne]
      exact hs _ _ (ih _ (by rw [List.length_dropLast]; omega))
  exact this _ u rfl
theorem rec_nodup (u : List α) : (rec u).Nodup := by
  induction u using snoc_ind with
  | h0 => exact List.nodup_nil
  | hs u x ih =>
    rw [rec_snoc]
    refine List.nodup_cons.mpr ⟨?_, ih.erase x⟩
    rw [ih.mem_erase_iff]; exact fun h => h.1 rfl
theorem rec_mem (u : List α) (x : α) : x ∈ rec u ↔ x ∈ u := by
  induction u using snoc_ind with
  | h0 => simp [rec]
  | hs u y ih =>
    rw [rec_snoc, List.mem_cons, (rec_nodup u).mem_erase_iff, ih, List.mem_append, List.mem_singleton]
    by_cases h : x = y
    · simp [h]
    · simp [h]
/-- the rank of x behind u -/
def rkR (u : List α) (x : α) : Nat := if x ∈ rec u then (rec u).idxOf x + 1 else 0
theorem perm_of_mem {l m : List α} (h1 : l.Nodup) (h2 : m.Nodup) (h : ∀ x, x ∈ l ↔ x ∈ m) : l.length = m.length :=
  ((List.perm_ext_iff_of_nodup h1 h2).mpr h).length_eq
/-- before x in the list of the recent stand the signs behind x's last place -/
theorem rec_before (u : List α) (x : α) (j : Nat) (hj : u[j]? = some x) (hl : ∀ m, j < m → u[m]? ≠ some x) : ∀ z, z ∈ (rec u).takeWhile (fun y => decide (y ≠ x)) ↔ z ∈ u.drop (j + 1) := by
  induction u using snoc_ind with
  | h0 => simp at hj
  | hs u y ih =>
    intro z
    rw [rec_snoc]
    by_cases hy : y = x
    · subst hy
      rw [List.takeWhile_cons_of_neg (by simp)]
      have hju : u.length ≤ j := by
        rcases Nat.lt_or_ge j u.length with h | h
        · exact absurd (by rw [List.getElem?_append_right (Nat.le_refl _)]; simp) (hl u.length h)
        · exact h
      rw [List.drop_eq_nil_of_le (by simp; omega)]
    · have hju : j < u.length := by
        rcases Nat.lt_or_ge j u.length with h | h
        · exact h
        · rw [List.getElem?_append_right h] at hj
          cases e : j - u.length with
          | zero => rw [e] at hj; exact absurd (Option.some.inj hj) hy
          | succ n => rw [e] at hj; simp at hj
      rw [List.getElem?_append_left hju] at hj
      have ih := ih hj (fun m hm => by
        rcases Nat.lt_or_ge m u.length with h | h
        · have := hl m hm
          rwa [List.getElem?_append_left h] at this
        · rw [List.getElem?_eq_none h]; simp)
      rw [List.takeWhile_cons_of_pos (by simpa using hy), List.mem_cons, List.drop_append_of_le_length (by omega), List.mem_append, List.mem_singleton, ← ih z]
      have : ∀ l : List α, l.Nodup → (z ∈ (l.erase y).takeWhile (fun y => decide (y ≠ x)) ↔ z ≠ y ∧ z ∈ l.takeWhile (fun y => decide (y ≠ x))) := by
        intro l hn
        induction l with
        | nil => simp
        | cons a l ih2 =>
          have hn' := List.nodup_cons.mp hn
          by_cases ha : a = y
          · subst ha
            rw [List.erase_cons_head, List.takeWhile_cons_of_pos (by simpa using hy), List.mem_cons]
            constructor
            · intro h
              refine ⟨fun e => hn'.1 ?_, .inr h⟩
              rw [← e]; exact (List.takeWhile_sublist _).subset h
            · rintro ⟨h1, h2⟩
              exact h2.resolve_left h1
          · rw [List.erase_cons_tail (by simpa using ha)]
            by_cases hx : a = x
            · rw [List.takeWhile_cons_of_neg (by simpa using hx), List.takeWhile_cons_of_neg (by simpa using hx)]
              simp
            · rw [List.takeWhile_cons_of_pos (by simpa using hx), List.takeWhile_cons_of_pos (by simpa using hx), List.mem_cons, List.mem_cons, ih2 hn'.2]
              constructor
              · rintro (h | h)
                · exact ⟨by rw [h]; exact ha, .inl h⟩
                · exact ⟨h.1, .inr h.2⟩
              · rintro ⟨h1, h | h⟩
                · exact .inl h
                · exact .inr ⟨h1, h⟩
      rw [this _ (rec_nodup u)]
      by_cases hz : z = y
      · simp [hz]
      · simp [hz]
theorem takeWhile_idx (l : List α) (x : α) (h : x ∈ l) : (l.takeWhile (fun y => decide (y ≠ x))).length = l.idxOf x := by
  induction l with
  | nil => cases h
  | cons a l ih =>
    by_cases ha : a = x
    · subst ha
      rw [List.takeWhile_cons_of_neg (by simp), List.idxOf_cons_self]; rfl
    · rw [List.takeWhile_cons_of_pos (by simpa using ha), idx_ne ha, List.length_cons, ih ((List.mem_cons.mp h).resolve_left (fun e => ha e.symm))]
/-- .. so many different signs stand there -/
theorem rkR_seg {u : List α} {x : α} {j : Nat} (hj : u[j]? = some x) (hl : ∀ m, j < m → u[m]? ≠ some x) {seg : List α} (h1 : seg.Nodup) (h2 : ∀ z, z ∈ seg ↔ z ∈ u.drop (j + 1)) : rkR u x = seg.length + 1 := by
  have hm : x ∈ rec u := (rec_mem u x).mpr (List.mem_of_getElem? hj)
  unfold rkR
  rw [if_pos hm, ← takeWhile_idx _ _ hm]
  congr 1
  exact perm_of_mem ((List.takeWhile_sublist _).nodup (rec_nodup u)) h1 fun z => (rec_before u x j hj hl z).trans (h2 z).symm
/-- the ranks of a text -/
def ranks (w : List α) : List Int := (List.range w.length).map fun p => match w[p]? with | some x => (rkR (w.take p) x : Int) | none => 0
theorem ranks_length (w : List α) : (ranks w).length = w.length := by simp [ranks]
theorem ranks_get {w : List α} {p : Nat} {x : α} (h : w[p]? = some x) : (ranks w)[p]? = some (rkR (w.take p) x : Int) := by
  unfold ranks
  rw [List.getElem?_map, List.getElem?_range (List.getElem?_eq_some_iff.mp h).1]
  simp [h]
theorem ranks_snoc (w : List α) (x : α) : ranks (w ++ [x]) = ranks w ++ [(rkR w x : Int)] := by
  apply List.ext_getElem?
  intro i
  rcases Nat.lt_trichotomy i w.length with h | h | h
  · have e := List.getElem?_eq_getElem h
    rw [List.getElem?_append_left (by rw [ranks_length]; exact h), ranks_get e, ranks_get (x := w[i]) (by rw [List.getElem?_append_left h]; exact e), List.take_append_of_le_length (by omega)]
  · subst h
    rw [List.getElem?_append_right (by rw [ranks_length]; exact Nat.le_refl _), ranks_length, Nat.sub_self, ranks_get (x := x) (by rw [List.getElem?_append_right (Nat.le_refl _)]; simp), List.take_append_of_le_length (Nat.le_refl _), List.take_length]
    rfl
  · rw [List.getElem?_eq_none (by rw [ranks_length, List.length_append, List.length_singleton]; omega), List.getElem?_eq_none (by rw [List.length_append, ranks_length, List.length_singleton]; omega)]
/-- texts with equal ranks have one pattern -/
theorem ranks_corr : ∀ (u : List α) (w : List β), ranks u = ranks w → u.length = w.length ∧ (rec u).length = (rec w).length ∧ ∀ (i : Nat) (x : α) (y : β), u[i]? = some x → w[i]? = some y → (rec u).idxOf x = (rec w).idxOf y := by
  intro u
  induction u using snoc_ind with
  | h0 =>
    intro w h
    have := congrArg List.length h
    rw [ranks_length, ranks_length] at this
    have e : w = [] := List.eq_nil_of_length_eq_zero this.symm
    subst e
    exact ⟨rfl, rfl, fun i x y h => by simp at h⟩
  | hs u x ih =>
    intro w h
    have hl := congrArg List.length h
    rw [ranks_length, ranks_length, List.length_append, List.length_singleton] at hl
    have hne : w ≠ [] := fun e => by rw [e] at hl; cases hl
    obtain ⟨w', y, rfl⟩ : ∃ w' y, w = w' ++ [y] := ⟨_, _, (List.dropLast_concat_getLast hne).symm⟩
    rw [ranks_snoc, ranks_snoc] at h
    obtain ⟨h1, h2⟩ := List.append_inj' h rfl
    obtain ⟨i1, i2, i3⟩ := ih w' h1
    have hr : rkR u x = rkR w' y := by have := (List.cons.inj h2).1; omega
    have mem : (x ∈ rec u ↔ y ∈ rec w') ∧ (x ∈ rec u → (rec u).idxOf x = (rec w').idxOf y) := by
      unfold rkR at hr
      by_cases hx : x ∈ rec u <;> by_cases hy : y ∈ rec w'
      · rw [if_pos hx, if_pos hy] at hr
        exact ⟨by simp [hx, hy], fun _ => by omega⟩
      · rw [if_pos hx, if_neg hy] at hr; omega
      · rw [if_neg hx, if_pos hy] at hr; omega
      · exact ⟨by simp [hx, hy], fun z => absurd z hx⟩
    -- where an old sign goes
    have old : ∀ {γ : Type} [DecidableEq γ] (l : List γ) (a b : γ), l.Nodup → b ∈ l → a ≠ b → (a :: l.erase a).idxOf b = if a ∈ l ∧ l.idxOf a < l.idxOf b then l.idxOf b else l.idxOf b + 1 := by
      intro γ _ l a b hn hb hab
      rw [idx_ne hab]
      induction l with
      | nil => cases hb
      | cons c l ih2 =>
        have hn' := List.nodup_cons.mp hn
        by_cases hca : c = a
        · subst hca
          rw [List.erase_cons_head, List.idxOf_cons_self, idx_ne hab, if_pos ⟨List.mem_cons_self .., Nat.succ_pos _⟩]
        · rw [List.erase_cons_tail (by simpa using hca)]
          by_cases hcb : c = b
          · subst hcb
            rw [List.idxOf_cons_self, List.idxOf_cons_self, if_neg (by omega)]
          · have hb' : b ∈ l := (List.mem_cons.mp hb).resolve_left (fun e => hcb e.symm)
            have := ih2 hn'.2 hb'
            rw [idx_ne hcb, idx_ne hcb, idx_ne hca, this]
            have hma : a ∈ c :: l ↔ a ∈ l := ⟨fun z => (List.mem_cons.mp z).resolve_left (fun e => hca e.symm), List.mem_cons_of_mem _⟩
            by_cases hz : a ∈ l ∧ l.idxOf a < l.idxOf b
            · rw [if_pos hz, if_pos ⟨hma.mpr hz.1, by omega⟩]
            · rw [if_neg hz, if_neg (fun z => hz ⟨hma.mp z.1, by omega⟩)]
    refine ⟨by rw [List.length_append, List.length_append, i1]; rfl, ?_, fun i a b ha hb => ?_⟩
    · rw [rec_snoc, rec_snoc, List.length_cons, List.length_cons]
      by_cases hx : x ∈ rec u
      · rw [List.length_erase_of_mem hx, List.length_erase_of_mem (mem.1.mp hx), i2]
      · rw [List.erase_of_not_mem hx, List.erase_of_not_mem (fun z => hx (mem.1.mpr z)), i2]
    · rw [rec_snoc, rec_snoc]
      have hi : i < (u ++ [x]).length := (List.getElem?_eq_some_iff.mp ha).1
      rw [List.length_append, List.length_singleton] at hi
      -- is it the new sign?
      have key : ∀ (i : Nat) (a : α) (b : β), u[i]? = some a → w'[i]? = some b → (a = x ↔ b = y) := by
        intro i a b ha hb
        have hab := i3 i a b ha hb
        have ma : a ∈ rec u := (rec_mem u a).mpr (List.mem_of_getElem? ha)
        have mb : b ∈ rec w' := (rec_mem w' b).mpr (List.mem_of_getElem? hb)
        constructor
        · intro e
          subst e
          have := mem.2 ma
          exact (idx_inj mb (by omega))
        · intro e
          subst e
          have := mem.2 (mem.1.mpr mb)
          exact (idx_inj ma (by omega))
      rcases Nat.lt_or_ge i u.length with h4 | h4
      · rw [List.getElem?_append_left h4] at ha
        rw [List.getElem?_append_left (by omega)] at hb
        have k := key i a b ha hb
        have hab := i3 i a b ha hb
        have ma : a ∈ rec u := (rec_mem u a).mpr (List.mem_of_getElem? ha)
        have mb : b ∈ rec w' := (rec_mem w' b).mpr (List.mem_of_getElem? hb)
        by_cases hax : a = x
        · have hby := k.mp hax
          subst hax hby
          rw [List.idxOf_cons_self, List.idxOf_cons_self]
        · have hby : b ≠ y := fun e => hax (k.mpr e)
          rw [old _ _ _ (rec_nodup u) ma (fun e => hax e.symm), old _ _ _ (rec_nodup w') mb (fun e => hby e.symm)]
          by_cases hx : x ∈ rec u
          · have := mem.2 hx
            have hy := mem.1.mp hx
            rw [hab, this]
            by_cases hz : (rec w').idxOf y < (rec w').idxOf b
            · rw [if_pos ⟨hx, hz⟩, if_pos ⟨hy, hz⟩]
            · rw [if_neg (fun z => hz z.2), if_neg (fun z => hz z.2)]
          · rw [if_neg (fun z => hx z.1), if_neg (fun z => hx (mem.1.mpr z.1)), hab]
      · have e : i = u.length := by omega
        subst e
        rw [List.getElem?_append_right (Nat.le_refl _), Nat.sub_self] at ha
        rw [i1, List.getElem?_append_right (Nat.le_refl _), Nat.sub_self] at hb
        cases ha
        cases hb
        rw [List.idxOf_cons_self, List.idxOf_cons_self]
theorem ranks_alike {u : List α} {w : List β} (h : ranks u = ranks w) : Alike u w := by
  obtain ⟨h1, _, h3⟩ := ranks_corr u w h
  refine ⟨h1, fun i j hi hj => ?_⟩
  have e1 := List.getElem?_eq_getElem hi
  have e2 := List.getElem?_eq_getElem hj
  have e3 := List.getElem?_eq_getElem (l := w) (i := i) (by omega)
  have e4 := List.getElem?_eq_getElem (l := w) (i := j) (by omega)
  rw [e1, e2, e3, e4, Option.some.injEq, Option.some.injEq]
  have a1 := h3 i _ _ e1 e3
  have a2 := h3 j _ _ e2 e4
  have m1 : u[i] ∈ rec u := (rec_mem u _).mpr (List.getElem_mem ..)
  have m2 : w[i] ∈ rec w := (rec_mem w _).mpr (List.getElem_mem ..)
  constructor
  · intro e
    rw [e] at a1
    exact (idx_inj m2 (by omega))
  · intro e
    rw [e] at a1
    exact (idx_inj m1 (by omega))
end
end Q


set_option Elab.async false
set_option linter.all false
set_option maxRecDepth 100000
set_option maxHeartbeats 2000000
set_option autoImplicit false
/-! Q32: ranks as they are computed. -/
namespace Q
open PySem PySem.Spec PyProof.Rows L2
/-- between the last equal sign and place p -/
def segI (w : List Int) (p : Nat) (d : Int) : List Int := (w.drop (p - d.toNat + 1)).take (d.toNat - 1)
theorem segI_mem {w : List Int} {p : Nat} {d : Int} (h : 0 < d) (hp : d ≤ p) (hpw : p ≤ w.length) : segI w p d = (w.take p).drop (p - d.toNat + 1) := by
  unfold segI
  rw [List.drop_take]
  congr 1; omega
theorem dd_nodup' (u : List Int) : (dd u).Nodup := by
  induction u using snoc_ind with
  | h0 => decide
  | hs u x ih =>
    rw [dd_snoc]
    by_cases h : x ∈ dd u
    · rw [if_pos h]; exact ih
    · rw [if_neg h]
      exact List.nodup_append.mpr ⟨ih, by simp, fun a ha b hb => by
        rw [List.mem_singleton] at hb
        subst hb
        exact fun e => h (e ▸ ha)⟩
theorem ranks_rank (w : List Int) {p : Nat} (hp : p < w.length) : (ranks w)[p]? = some (if dAt w p = 0 then 0 else 1 + zc (dist (segI w p (dAt w p)))) := by
  have hx := List.getElem?_eq_getElem hp
  have hb := dAt_bounds w p
  rw [ranks_get hx]
  congr 1
  by_cases h0 : dAt w p = 0
  · rw [if_pos h0]
    have : w[p] ∉ rec (w.take p) := by
      rw [rec_mem]; exact (first_iff hx).mpr h0
    unfold rkR
    rw [if_neg this]; rfl
  · rw [if_neg h0]
    obtain ⟨j, j1, j2, j3, j4⟩ := (dAt_iff (w := w) (p := p) (e := dAt w p) (by omega)).mp rfl
    have e := rkR_seg (u := w.take p) (x := w[p]) (j := j) (by rw [List.getElem?_take_of_lt j1, j3, hx]) (fun m hm => by
      rcases Nat.lt_or_ge m p with h | h
      · rw [List.getElem?_take_of_lt h, ← hx]; exact j4 m hm h
      · rw [List.getElem?_eq_none (by rw [List.length_take]; omega)]; simp) (dd_nodup' (segI w p (dAt w p))) (fun z => by
      rw [dd_mem, segI_mem (by omega) hb.2 (by omega), show p - (dAt w p).toNat = j by omega])
    have := dd_zc (segI w p (dAt w p))
    rw [e, ← this]; omega
theorem Alike.seg {u w : List Int} (h : Alike u w) {p : Nat} (hp : p ≤ u.length) {d : Int} (h0 : 0 < d) (h1 : d ≤ p) : Alike (segI u p d) (segI w p d) := by
  have hl := h.1
  have l1 : (segI u p d).length = d.toNat - 1 := by unfold segI; rw [List.length_take, List.length_drop]; omega
  have l2 : (segI w p d).length = d.toNat - 1 := by unfold segI; rw [List.length_take, List.length_drop]; omega
  refine h.pick (fun i => p - d.toNat + 1 + i) (fun i hi => ⟨by omega, ?_⟩) (fun i hi => ?_) (by omega)
  · unfold segI; rw [List.getElem?_take_of_lt (by omega), List.getElem?_drop]
  · unfold segI; rw [List.getElem?_take_of_lt (by omega), List.getElem?_drop]
theorem Alike.ranks {u w : List Int} (h : Alike u w) : ranks u = ranks w := by
  apply List.ext_getElem?
  intro p
  rcases Nat.lt_or_ge p u.length with hp | hp
  · rw [ranks_rank u hp, ranks_rank w (by rw [← h.1]; exact hp), h.dAt hp]
    have hb := dAt_bounds w p
    by_cases h0 : Q.dAt w p = 0
    · rw [if_pos h0, if_pos h0]
    · rw [if_neg h0, if_neg h0, (h.seg (by omega) (by omega) hb.2).dist]
  · rw [List.getElem?_eq_none (by rw [ranks_length]; exact hp), List.getElem?_eq_none (by rw [ranks_length, ← h.1]; exact hp)]
/-- as the program computes one -/
def rankI (ns ids : List Int) (p : Nat) : Int := if ns.getD p 0 = 0 then 0 else 1 + ((dd (segI ids p (ns.getD p 0))).length : Nat)
def recI (ns : List Int) : List Int := (List.range ns.length).map (rankI ns (idsD ns))
theorem recI_dist (w : List Int) : recI (dist w) = ranks w := by
  rw [← (ids_alike w).ranks]
  unfold recI
  apply List.ext_getElem?
  intro p
  rw [List.getElem?_map, dist_length]
  rcases Nat.lt_or_ge p w.length with hp | hp
  · have hI : p < (idsD (dist w)).length := by rw [idsD_length, dist_length]; exact hp
    have e : (dist w).getD p 0 = dAt w p := by rw [List.getD_eq_getElem?_getD, dist_get w hp]; rfl
    rw [List.getElem?_range hp, ranks_rank _ hI, (ids_alike w).dAt hI]
    show some (rankI _ _ _) = _
    unfold rankI
    rw [e]
    congr 1
    by_cases h0 : dAt w p = 0
    · rw [if_pos h0, if_pos h0]
    · rw [if_neg h0, if_neg h0, dd_zc]
  · rw [List.getElem?_eq_none (by rw [List.length_range]; exact hp), List.getElem?_eq_none (by rw [ranks_length, idsD_length, dist_length]; exact hp)]; rfl
/-- a text with given ranks -/
def zStep (ids : List Int) (r : Int) : List Int := ids ++ [if r = 0 then (((rec ids).length : Nat) : Int) else (rec ids).getD (r.toNat - 1) 0]
def zI (R : List Int) : List Int := R.foldl zStep []
theorem zI_snoc (R : List Int) (r : Int) : zI (R ++ [r]) = zI R ++ [if r = 0 then (((rec (zI R)).length : Nat) : Int) else (rec (zI R)).getD (r.toNat - 1) 0] := by
  unfold zI; rw [List.foldl_append]; rfl
theorem zI_length (R : List Int) : (zI R).length = R.length := by
  induction R using snoc_ind with
  | h0 => rfl
  | hs R r ih => rw [zI_snoc, List.length_append, List.length_append, ih]; rfl
/-- each rank at most the number of signs so far -/
def okRs : List D → Int → Bool
  | [], _ => true
  | d :: ds, c => intIn 0 (.int c) d && okRs ds (c + if toI d = 0 then 1 else 0)
def isRanks (d : D) : Bool := isSeq d && okRs (itemsOf d) 0
theorem okRs_app (ds es : List D) : ∀ c, okRs (ds ++ es) c = (okRs ds c && okRs es (c + zc (ds.map toI))) := by
  induction ds with
  | nil => intro c; show _ = (true && okRs es (c + zc [])); rw [show zc [] = 0 from rfl, Int.add_zero, Bool.true_and]; rfl
  | cons d ds ih =>
    intro c
    show (intIn 0 (.int c) d && okRs (ds ++ es) _) = ((intIn 0 (.int c) d && okRs ds _) && _)
    rw [ih, Bool.and_assoc]
    congr 3
    have : zc (toI d :: ds.map toI) = (if toI d = 0 then 1 else 0) + zc (ds.map toI) := by
      unfold zc
      by_cases h : toI d = 0
      · rw [if_pos h, List.filter_cons_of_pos (by simpa using h), List.length_cons]; omega
      · rw [if_neg h, List.filter_cons_of_neg (by simpa using h)]; omega
    show _ = c + zc (toI d :: ds.map toI)
    rw [this]; omega
def OkR (R : List Int) : Prop := okRs (R.map .int) 0 = true
theorem okR_snoc {R : List Int} {r : Int} : OkR (R ++ [r]) ↔ OkR R ∧ 0 ≤ r ∧ r ≤ zc R := by
  unfold OkR
  rw [List.map_append, okRs_app, toI_int, Bool.and_eq_true, Int.zero_add]
  show _ ∧ (intIn 0 (.int (zc R)) (.int r) && true) = true ↔ _
  simp [intIn, leO]
/-- what the list of the recent ones is -/
theorem zI_facts (R : List Int) (h : OkR R) : ((rec (zI R)).length : Int) = zc R ∧ (∀ x ∈ rec (zI R), 0 ≤ x ∧ x < ((rec (zI R)).length : Nat)) ∧ ranks (zI R) = R := by
  induction R using snoc_ind with
  | h0 => exact ⟨rfl, (fun x hx => (by cases hx)), rfl⟩
  | hs R r ih =>
    obtain ⟨h1, h2, h3⟩ := okR_snoc.mp h
    obtain ⟨i1, i2, i3⟩ := ih h1
    rw [zI_snoc, rec_snoc, ranks_snoc, i3, zc_snoc]
    by_cases h0 : r = 0
    · subst h0
      rw [if_pos rfl]
      have hn : (((rec (zI R)).length : Nat) : Int) ∉ rec (zI R) := fun z => by have := i2 _ z; omega
      rw [List.erase_of_not_mem hn]
      refine ⟨by rw [List.length_cons]; simp; omega, fun x hx => ?_, ?_⟩
      · rcases List.mem_cons.mp hx with rfl | hx
        · rw [List.length_cons]; omega
        · have := i2 x hx
          rw [List.length_cons]; omega
      · congr 2
        unfold rkR
        rw [if_neg hn]; rfl
    · rw [if_neg h0]
      have hk : r.toNat - 1 < (rec (zI R)).length := by omega
      have hg : (rec (zI R)).getD (r.toNat - 1) 0 = (rec (zI R))[r.toNat - 1] := by rw [List.getD_eq_getElem?_getD, List.getElem?_eq_getElem hk]; rfl
      have hm : (rec (zI R))[r.toNat - 1] ∈ rec (zI R) := List.getElem_mem ..
      rw [hg]
      have hl : ((rec (zI R)).erase (rec (zI R))[r.toNat - 1]).length = (rec (zI R)).length - 1 := List.length_erase_of_mem hm
      refine ⟨by rw [List.length_cons, hl, if_neg h0]; omega, fun x hx => ?_, ?_⟩
      · rw [List.length_cons, hl]
        rcases List.mem_cons.mp hx with rfl | hx
        · have := i2 _ hm; omega
        · have := i2 x (List.mem_of_mem_erase hx); omega
      · congr 2
        unfold rkR
        rw [if_pos hm, (rec_nodup (zI R)).idxOf_getElem]
        omega
theorem zI_erase (R : List Int) (r : Int) (h : 0 < r) (h2 : r ≤ ((rec (zI R)).length : Nat)) : rec (zI (R ++ [r])) = (rec (zI R)).getD (r.toNat - 1) 0 :: (rec (zI R)).eraseIdx (r.toNat - 1) := by
  have hk : r.toNat - 1 < (rec (zI R)).length := by omega
  have hg : (rec (zI R)).getD (r.toNat - 1) 0 = (rec (zI R))[r.toNat - 1] := by rw [List.getD_eq_getElem?_getD, List.getElem?_eq_getElem hk]; rfl
  rw [zI_snoc, rec_snoc, if_neg (by omega), hg, List.erase_eq_eraseIdx_of_idxOf ((rec_nodup (zI R)).idxOf_getElem _ hk)]
theorem rkR_le (w : List Int) (x : Int) : rkR w x ≤ (rec w).length := by
  unfold rkR
  split
  · have := List.idxOf_lt_length_of_mem (by assumption : x ∈ rec w); omega
  · omega
theorem okR_ranks (w : List Int) : OkR (ranks w) ∧ dist (zI (ranks w)) = dist w := by
  have : OkR (ranks w) := by
    induction w using snoc_ind with
    | h0 => rfl
    | hs w x ih =>
      rw [ranks_snoc]
      refine okR_snoc.mpr ⟨ih, by omega, ?_⟩
      obtain ⟨i1, _, i3⟩ := zI_facts _ ih
      have := (ranks_corr (zI (ranks w)) w i3).2.1
      have := rkR_le w x
      omega
  exact ⟨this, (ranks_alike (zI_facts _ this).2.2).dist⟩
theorem rec_len (u : List Int) : (rec u).length ≤ u.length := by
  induction u using snoc_ind with
  | h0 => exact Nat.le_refl _
  | hs u x ih =>
    rw [rec_snoc, List.length_cons, List.length_append]
    have := List.length_erase_le (a := x) (l := rec u)
    show _ ≤ u.length + 1
    omega
theorem ranks_bounds {w : List Int} {e : Int} (h : e ∈ ranks w) : 0 ≤ e ∧ e ≤ w.length := by
  obtain ⟨p, hp⟩ := List.mem_iff_getElem?.mp h
  have hl := (List.getElem?_eq_some_iff.mp hp).1
  rw [ranks_length] at hl
  rw [ranks_get (List.getElem?_eq_getElem hl)] at hp
  cases hp
  have h1 := rkR_le (w.take p) w[p]
  have h2 : (rec (w.take p)).length ≤ (w.take p).length := by
    exact rec_len _
  rw [List.length_take] at h2
  omega
theorem dIt_of {d : D} {f : List D → Prop} (h : isSeq d = true) (q : f (itemsOf d)) : dIt f d := by
  cases d <;> first | exact q | (cases h; done)
theorem isRanks_of {d : D} {R : List Int} (h : OkR R) (hd : d = .lst (R.map .int) ∨ d = .tup (R.map .int)) : isRanks d = true := by
  unfold OkR at h
  rcases hd with rfl | rfl
  · unfold isRanks
    rw [show itemsOf (.lst (R.map .int)) = R.map .int from rfl, h]; rfl
  · unfold isRanks
    rw [show itemsOf (.tup (R.map .int)) = R.map .int from rfl, h]; rfl
theorem seq_nums {d : D} {R : List Int} (hd : d = .lst (R.map .int) ∨ d = .tup (R.map .int)) : nums d = R ∧ (itemsOf d).length = R.length := by
  rcases hd with rfl | rfl
  · exact ⟨nums_l _, List.length_map ..⟩
  · exact ⟨nums_t _, List.length_map ..⟩
theorem take_snoc' {α : Type} {l : List α} {m : Nat} {x : α} (h : l[m]? = some x) : l.take (m + 1) = l.take m ++ [x] := by rw [List.take_add_one, h]; rfl
theorem bad_rank {ds : List D} {R : List Int} {m : Nat} {d : D} (h1 : ds.take m = R.map .int) (h2 : OkR R) (h3 : ds[m]? = some d) (h4 : intIn 0 (.int (zc R)) d = false) : okRs ds 0 = false := by
  have e : ds = R.map .int ++ d :: ds.drop (m + 1) := by
    rw [← h1]
    have hm := (List.getElem?_eq_some_iff.mp h3)
    obtain ⟨hl, rfl⟩ := hm
    rw [List.getElem_cons_drop, List.take_append_drop]
  rw [e, okRs_app, toI_int, Int.zero_add]
  show (_ && (intIn 0 (.int (zc R)) d && _)) = false
  rw [h4]; simp
/-- one sign more that was not there -/
theorem dist_fresh {w : List Int} {x : Int} (h : x ∉ w) : dist (w ++ [x]) = dist w ++ [0] ∧ ranks (w ++ [x]) = ranks w ++ [0] := by
  constructor
  · rw [dist_snoc]
    congr 2
    refine dAt_eq0 fun m hm => ?_
    rw [List.getElem?_append_left hm, List.getElem?_append_right (Nat.le_refl _), Nat.sub_self]
    intro z
    exact h (List.mem_of_getElem? z)
  · rw [ranks_snoc]
    congr 2
    unfold rkR
    rw [if_neg (fun z => h ((rec_mem _ _).mp z))]; rfl
end Q


set_option Elab.async false
set_option linter.all false
set_option maxRecDepth 100000
set_option maxHeartbeats 2000000
set_option autoImplicit false
/-! Q33: lists of texts. -/
namespace Q
open PySem PySem.Spec PyProof.Rows L2
def isStr (d : D) : Bool := isTy "str" d
def isStrs (d : D) : Bool := isSeq d && (itemsOf d).all isStr
def toS : D → Str
  | .str x => x
  | _ => ""
def strsOf (d : D) : List Str := (itemsOf d).map toS
theorem isStr_iff {d : D} : isStr d = true ↔ d = .str (toS d) := by
  cases d <;> simp [isStr, isTy, tyN, toS]
theorem all_strs {ds : List D} (h : ds.all isStr = true) : ds = (ds.map toS).map .str := by
  induction ds with
  | nil => rfl
  | cons d ds ih =>
    rw [List.all_cons, Bool.and_eq_true] at h
    rw [List.map_cons, List.map_cons, ← isStr_iff.mp h.1, ← ih h.2]
theorem strs_of {d : D} (h : isStrs d = true) : itemsOf d = (strsOf d).map .str ∧ isSeq d = true := by
  unfold isStrs at h
  rw [Bool.and_eq_true] at h
  exact ⟨all_strs h.2, h.1⟩
theorem toS_strs (xs : List Str) : (xs.map D.str).map toS = xs := by
  rw [List.map_map]
  exact (List.map_congr_left fun x _ => rfl).trans (List.map_id _)
theorem strs_all (xs : List Str) : (xs.map D.str).all isStr = true := by
  rw [List.all_map, List.all_eq_true]
  intro x _; rfl
theorem isStrs_seq {d : D} {xs : List Str} (h : d = .lst (xs.map .str) ∨ d = .tup (xs.map .str)) : isStrs d = true ∧ strsOf d = xs ∧ (itemsOf d).length = xs.length := by
  rcases h with rfl | rfl
  · exact ⟨by unfold isStrs; rw [show itemsOf (.lst (xs.map .str)) = xs.map .str from rfl, strs_all]; rfl, toS_strs xs, List.length_map ..⟩
  · exact ⟨by unfold isStrs; rw [show itemsOf (.tup (xs.map .str)) = xs.map .str from rfl, strs_all]; rfl, toS_strs xs, List.length_map ..⟩
/-- texts as keys -/
theorem dist_keys (xs : List Str) : dist (xs.map (Sum.inr : Str → Key)) = dist xs := dist_map _ (fun a b h => Sum.inr.inj h) xs
/-! a list repeated -/
theorem rep_map {α β : Type} (f : α → β) (u : List α) : ∀ m : Nat, (List.replicate m (u.map f)).flatten = ((List.replicate m u).flatten).map f
  | 0 => rfl
  | m + 1 => by rw [List.replicate_succ, List.replicate_succ, List.flatten_cons, List.flatten_cons, List.map_append, rep_map f u m]
theorem rep_mem {α : Type} {u : List α} {x : α} : ∀ {m : Nat}, x ∈ (List.replicate m u).flatten → x ∈ u
  | 0, h => by simp at h
  | m + 1, h => by
    rw [List.replicate_succ, List.flatten_cons, List.mem_append] at h
    exact h.elim id rep_mem
end Q


set_option Elab.async false
set_option linter.all false
set_option maxRecDepth 100000
set_option maxHeartbeats 2000000
set_option autoImplicit false
/-! Q34: lengths of borders. -/
namespace Q
open PySem PySem.Spec PyProof.Rows L2
def upto1 (n : Nat) : List Int := (List.range n).map fun i : Nat => 1 + (i : Int)
theorem ranged_upto1 (n : Nat) : ranged 1 n = (upto1 n).map .int := by
  apply List.ext_getElem?
  intro i
  rcases Nat.lt_or_ge i n with h | h
  · have h2 : i < (ranged 1 n).length := by rw [ranged_length]; exact h
    have := (ranged_get (List.getElem?_eq_getElem h2)).2
    rw [List.getElem?_eq_getElem h2, this]
    unfold upto1
    rw [List.getElem?_map, List.getElem?_map, List.getElem?_range h]; rfl
  · rw [List.getElem?_eq_none (by rw [ranged_length]; exact h), List.getElem?_eq_none (by unfold upto1; simpa using h)]
theorem upto1_length (n : Nat) : (upto1 n).length = n := by unfold upto1; simp
theorem upto1_get {n i : Nat} {v : Int} (h : (upto1 n)[i]? = some v) : v = 1 + (i : Nat) ∧ i < n := by
  have hl := (List.getElem?_eq_some_iff.mp h).1
  rw [upto1_length] at hl
  unfold upto1 at h
  rw [List.getElem?_map, List.getElem?_range hl] at h
  exact ⟨(Option.some.inj h).symm, hl⟩
theorem upto1_mem {n : Nat} {v : Int} (h : v ∈ upto1 n) : 1 ≤ v ∧ v ≤ n := by
  obtain ⟨i, hi⟩ := List.mem_iff_getElem?.mp h
  obtain ⟨rfl, h2⟩ := upto1_get hi
  omega
/-- the program's borders, the law's -/
def bordI (ns : List Int) : List Int := (upto1 (ns.length - 1)).filter fun l => decide (winI ns ((ns.length : Int) - l) (ns.take l.toNat).length = ns.take l.toNat)
def bordW (w : List Int) : List Int := (upto1 (w.length - 1)).filter fun l => decide (dist (w.take l.toNat) = dist (w.drop ((w.length : Int) - l).toNat))
theorem bord_dist (w : List Int) : bordI (dist w) = bordW w := by
  unfold bordI bordW
  rw [dist_length]
  apply List.filter_congr
  intro l hl
  have hb := upto1_mem hl
  have e1 : ((dist w).take l.toNat).length = l.toNat := by rw [List.length_take, dist_length]; omega
  rw [e1, win_dist, ← dist_take, List.take_of_length_le (by rw [List.length_drop]; omega)]
  exact decide_eq_decide.mpr ⟨Eq.symm, Eq.symm⟩
theorem bordI_mem {ns : List Int} {e : Int} (h : e ∈ bordI ns) : 1 ≤ e ∧ e ≤ ns.length := by
  have := upto1_mem (List.mem_filter.mp h).1
  omega
theorem bordI_length (ns : List Int) : (bordI ns).length ≤ ns.length := by
  have := List.length_filter_le (fun l => decide (winI ns ((ns.length : Int) - l) (ns.take l.toNat).length = ns.take l.toNat)) (upto1 (ns.length - 1))
  rw [upto1_length] at this
  unfold bordI
  omega
end Q


set_option Elab.async false
set_option linter.all false
set_option maxRecDepth 100000
set_option maxHeartbeats 2000000
set_option autoImplicit false
/-! Q35: xs[:] = a new list. -/
namespace Q
open PySem PySem.Spec PyProof.Rows L2
section
variable {prog : Program} {w : World} {A : Around} {E : Value → Shared → Prop} {s : Shared}
set_option maxRecDepth 100000 in
theorem setItem_all {l b sl : Addr} {items new : Array Value} {n n2 : Nat} {vl vu : Value} {Q : Unit → Shared → Prop}
    (e : s.heap.get? l = some { cls := .type "list", data := .seq items n }) (e2 : s.heap.get? b = some { cls := .type "list", data := .seq new n2 }) (hne : l ≠ b)
    (hs : s.heap.IsSliceOf sl vl vu .none) (pl : IsPart vl none) (pu : IsPart vu none)
    (hsz : items.size + new.size ≤ sizeLine) (h : Q () { s with heap := s.heap.update l (Obj.mapSeq fun xs => xs.extract 0 0 ++ new ++ xs.extract items.size xs.size) }) :
    wpAny (model prog w) A (setItem (.ref l) (.ref sl) (.ref b)) Q E s := by
  have hl : s.heap.IsList l items := PySem.IsL.isList e
  have hb : s.heap.IsList b new := PySem.IsL.isList e2
  obtain ⟨os, hos, hcs, hds⟩ := id hs
  have hTs : s.TypeIs (.ref sl) "slice" := ⟨os, hos, hcs⟩
  have hstep : ¬ ((rawPart none == rawInt 0) = true) := Bool.false_ne_true
  have hsame : Builtin.List.listSameRef (.ref l) (.ref b) = false := by
    unfold Builtin.List.listSameRef
    exact beq_eq_false_iff_ne.mpr hne
  have hz' : ((fun xs : Array Value => xs.extract 0 0 ++ new ++ xs.extract items.size xs.size) items).size ≤ sizeLine + 1 := by
    simp only [Array.size_append, Array.size_extract]
    omega
  have hbnd : sliceBounds none none none items.size = ((0 : Int), ((items.size : Nat) : Int), 1) := by
    have hb3 := slice_bounds none none items.size
    simp only [HT.sIx] at hb3
    obtain ⟨h1, h2, h3⟩ := hb3
    exact Prod.ext h1 (Prod.ext h2 h3)
  unfold setItem
  try with_reducible refine wpAny_holding ?_
  first | refine wpAny_bind (wpAny_pure ?_) | skip
  refine wpAny_bind (wpAny_sequenceKey hl.typeIs (by decide) ?_)
  refine wpAny_bind (wpAny_callSpecial?_slot (name := Str.ofString "__setitem__") hl.typeIs slot_list_setitem
    (wpAny_call_entry slot_list_setitem hl.typeIs entry_list_setitem ?_ (args_list_setitem _ _ _)))
  show wpAny _ _ (Builtin.List.listSubscript? (.ref sl) >>= _) _ _ s
  refine wpAny_bind ?_
  unfold Builtin.List.listSubscript?
  refine wpAny_bind (wpAny_specialOf hTs slice_no_index ?_)
  simp only [Option.isNone_none, if_true]
  refine wpAny_pure ?_
  show wpAny _ _ (typeOf (.ref sl) >>= _) _ _ s
  refine wpAny_bind (wpAny_typeOf hTs ?_)
  first
    | rw [if_neg (by decide)]
    | refine PySem.W.KFB.if_not (by decide) ?_
  rw [listSliceParts_eq]
  refine wpAny_bind (wpAny_bind (wpAny_field hos hds (x := .none) rfl (wpAny_bind (wpAny_listPart .none ?_))))
  rw [if_neg hstep]
  refine wpAny_bind (wpAny_field hos hds (x := vl) rfl (wpAny_bind (wpAny_listPart pl ?_)))
  refine wpAny_bind (wpAny_field hos hds (x := vu) rfl (wpAny_bind (wpAny_listPart pu (wpAny_pure ?_))))
  first
    | simp only [hsame, Bool.false_eq_true, if_false]
    | refine PySem.W.KFB.if_not hsame ?_
    | (dsimp only
       rw [if_neg (by rw [hsame]; exact Bool.false_ne_true)])
  refine wpAny_bind (m := Builtin.List.listAllItems (.ref b) "must assign iterable to extended slice") ?_
  unfold Builtin.List.listAllItems
  refine wpAny_bind (wpAny_typeOf hb.typeIs ?_)
  first
    | refine PySem.W.KFB.if_so (by decide) ?_
    | rw [if_pos (by decide)]
    | simp only [beq_self_eq_true, Bool.true_or, if_true]
  unfold Builtin.List.listItems
  refine wpAny_bind (wpAny_seqItems e2 rfl (wpAny_pure ?_))
  refine wpAny_bind (wpAny_bind (wpAny_seqItems e rfl (wpAny_pure ?_)))
  refine wpAny_bind (wpAny_of_eq ((sliceIndices_raw none none none items.size (by simp)).trans (congrArg (pure : Int × Int × Int → Sem (Int × Int × Int)) hbnd)) ?_)
  show wpAny _ _ (if ((1 : Int) == 1) = true then _ else _) _ _ s
  rw [if_pos (by decide)]
  refine wpAny_bind (wpAny_rule ?_)
  first
    | simp only [notLongL hsz, Bool.false_eq_true, if_false]
    | refine PySem.W.KFB.if_not (notLongL hsz) ?_
  first | refine wpAny_bind (wpAny_pure ?_) | skip
  show wpAny _ _ (updateSeq l (fun xs => xs.extract 0 ((0 : Int)).toNat ++ new ++ xs.extract (max (0 : Int) ((items.size : Nat) : Int)).toNat xs.size) >>= _) _ _ s
  rw [show (max (0 : Int) ((items.size : Nat) : Int)).toNat = items.size by omega, show (0 : Int).toNat = 0 from rfl]
  refine wpAny_bind (wpAny_updateSeq (hz := Nat.le_trans (Nat.le_add_right _ _) hsz) (_hz' := hz') e rfl ?_)
  refine wpAny_bind (wpAny_letGo ?_)
  first
    | exact wpAny_bind (wpAny_pure (wpAny_pure ⟨.none, rfl, wpAny_pure h⟩))
    | exact wpAny_pure ⟨.none, rfl, wpAny_pure h⟩
end
section
variable {X : Cx}
theorem set_all {pins : List (Addr × Obj)} {s : Shared} {σ : L2.St} {H : Hp} {l b sl : Addr} {xs ys : List V} {vl vu : Value} {Q : Unit → Shared → Prop} (I : Inv X pins σ H s)
    (hH : H l = some (.lst xs)) (hB : H b = some (.lst ys)) (hne : l ≠ b) (hs : s.heap.IsSliceOf sl vl vu .none) (pl : IsPart vl none) (pu : IsPart vu none)
    (hz : xs.length + ys.length ≤ sizeLine) (h : ∀ s', Inv X pins σ (upd H l (.lst ys)) s' → Q () s') :
    wpAny (model X.prog X.w) X.A (setItem (.ref l) (.ref sl) (.ref b)) Q X.xe s := by
  obtain ⟨z, its, n, r, hl, e⟩ := I.lstM hH
  obtain ⟨z2, its2, n2, r2, hl2, e2⟩ := I.lstM hB
  refine setItem_all e e2 hne hs pl pu (by rw [List.size_toArray, List.size_toArray]; omega) (h _ ?_)
  refine I.lset (its' := its2) (t' := s.toks) hH e ?_ r2 (by omega)
  apply Array.toList_inj.mp
  simp
end
def gAll (to : TE) : TG := fun v σ H Q => to σ H fun o H1 => ∃ l b xs ys, o = .ref l ∧ v = .ref b ∧ H1 l = some (.lst xs) ∧ H1 b = some (.lst ys) ∧ l ≠ b ∧ xs.length + ys.length ≤ sizeLine ∧ Q σ (upd H1 l (.lst ys))
def qLAll (i : Nat) (q : TNq) : TSq := fun DQ env => q env (fun r env1 => ∃ ds ds0, r = .own (.lst ds) ∧ env1[i]? = some (.own (.lst ds0)) ∧ ds0.length + ds.length < 10000000 ∧ DQ.nx (env1.set i (.own (.lst ds)))) DQ.ex
section
variable {X : Cx} {g : Gd} {W : WX} {a o : Expr} {ta to : TE} {qa : TNq} {p pos pos' p2 : Pos} {c : Cg}
theorem pg_all (ho : PE X o to)
    (ha : ∀ v, assign (.Subscript o (.Slice none none none p2) pos) X.env v = (do
      let ov ← holding [v] (eval o X.env)
      let iv ← holding [v, ov] (eval (.Slice none none none p2) X.env)
      standAt pos
      holding [v, ov, iv] (setItem ov iv v)
      release [iv, v, ov] []) := by intro _; rfl) : PG X (.Subscript o (.Slice none none none p2) pos) (gAll to) := by
  refine ⟨fun pins s σ H v u Q I r h => ?_⟩
  rw [ha]
  refine wpAny_bind (wpAny_holding (thn (ho.run pins s σ H _ I h) fun ov s1 ⟨x, H1, I1, r1, q1⟩ => ?_))
  obtain ⟨l, b, xs, ys, rfl, rfl, hl, hb, hne, hz, q⟩ := q1
  cases r1
  cases r
  refine wpAny_bind (wpAny_holding (wpAny_Slice ?_))
  rw [evalPart_none]
  refine wpAny_pure (wpAny_pure (wpAny_pure ?_))
  refine wpAny_bind (wpAny_standAt (wpAny_bind (wpAny_holding ?_)))
  have I4 : Inv X pins σ H1 { s1 with heap := s1.heap.push { cls := .type "slice", data := .fields #[.none, .none, .none] } } := I1.kept (t' := s1.toks) fun b ob q => Heap.get?_push_of_some _ q
  exact set_all I4 hl hb hne (Heap.IsSliceOf.new ..) .none .none hz fun s3 I3 => wpAny_release ⟨σ, _, I3, q⟩
theorem sm_lall {i : Nat} (hv : SmN c W ta qa) : SmS c W (tAsg ta (gAll (tVar i))) (qLAll i qa) := by
  intro F P S b σ H env DQ D R hq k
  refine hv F P S b σ H env _ _ _ R hq k.ex fun S1 H1 env1 w y R1 e1 o1 n1 h1 => ?_
  obtain ⟨ds, ds0, rfl, hi, hz, h3⟩ := h1
  obtain ⟨p, rfl, pP, pS, pb, ho⟩ := o1
  obtain ⟨v, hv, hs⟩ := R1.slot hi
  cases v with
  | none => exact hs.elim
  | some v =>
    obtain ⟨l, rfl, _⟩ := hs
    refine ⟨.ref l, hv, ?_⟩
    obtain ⟨a3, a4, a5, a6⟩ := R1.ownAt hv hi
    have ne : l ≠ p := fun z => n1 _ rfl i _ p rfl (z ▸ hv) hi
    cases a6 with
    | lst h r =>
      cases ho with
      | lst h2 r2 =>
        refine ⟨l, p, _, _, rfl, rfl, h, h2, ne, by rw [r.length, r2.length]; exact Nat.le_of_lt (size_lt hz), ?_⟩
        exact k.nx S1 σ _ _ (R1.write hv hi (.lst upd_same r2)) e1 h3
theorem qs_lall {i : Nat} {x : Str} (hN : X.N[i]? = some x) (hv : Vis X.env.scope x) (ha : QN X g W a ta qa) (hd : (x == ("__debug__" : Str)) = false := by decide) (hcd : (x == ("__classdict__" : Str)) = false := by decide)
    (hs : swapsWithSole [.Subscript (.Name x p) (.Slice none none none p2) pos'] a pos.line X.env = pure false := by rfl) (hw : swappedStores [.Subscript (.Name x p) (.Slice none none none p2) pos'] a X.env = pure none := by rfl)
    (h1 : (assignEach [.Subscript (.Name x p) (.Slice none none none p2) pos'] X.env).map (·.2) = [assign (.Subscript (.Name x p) (.Slice none none none p2) pos') X.env] := by rfl)
    (h2 : ∀ v, assign (.Subscript (.Name x p) (.Slice none none none p2) pos') X.env v = (do
      let ov ← holding [v] (eval (.Name x p) X.env)
      let iv ← holding [v, ov] (eval (.Slice none none none p2) X.env)
      standAt pos'
      holding [v, ov, iv] (setItem ov iv v)
      release [iv, v, ov] []) := by intro _; rfl) : QS X g W (.Assign [.Subscript (.Name x p) (.Slice none none none p2) pos'] a pos) (tAsg ta (gAll (tVar i))) (qLAll i qa) :=
  ⟨ps_asg ha.pe (pg_all (pe_var hN hv hd hcd) h2) hs hw h1, fun N => sm_lall (ha.sm N)⟩
end
theorem e_LAll {i : Nat} {q : TNq} {DQ : Ens} {env : En} : qLAll i q DQ env = q env (fun r env1 => rvO (dL fun ds => lk env1 i (sO (dL fun ds0 => ds0.length + ds.length < 10000000 ∧ st env1 i (.own (.lst ds)) DQ.nx))) r) DQ.ex := by
  unfold qLAll
  congr
  funext r env1
  apply propext
  constructor
  · rintro ⟨ds, ds0, rfl, h2, h3, q⟩
    show lk env1 i _
    rw [← lk_O]
    exact ⟨_, h2, h3, q⟩
  · intro h
    cases r with
    | sh d => exact h.elim
    | own d =>
      cases d <;> first | exact False.elim h | skip
      rename_i ds
      have h : lk env1 i _ := h
      rw [← lk_O] at h
      obtain ⟨d, h3, q⟩ := h
      cases d <;> first | exact False.elim q | exact ⟨ds, _, rfl, h3, q.1, q.2⟩
/-! written lists compared -/
section
variable {a : List Int} {i j l : Int} {k : D → Prop}
theorem f_eqW1 : fEq (.lst (a.map .int)) (.lst [.int i]) k = k (.bl (decide (a = [i]))) := f_eqIL (b := [i])
theorem f_eqW2 : fEq (.lst (a.map .int)) (.lst [.int i, .int j]) k = k (.bl (decide (a = [i, j]))) := f_eqIL (b := [i, j])
theorem f_eqW3 : fEq (.lst (a.map .int)) (.lst [.int i, .int j, .int l]) k = k (.bl (decide (a = [i, j, l]))) := f_eqIL (b := [i, j, l])
end
end Q


set_option Elab.async false
set_option linter.all false
set_option maxRecDepth 100000
set_option maxHeartbeats 2000000
set_option autoImplicit false
/-! Q36: sorted(set(ints)), any number of them. -/
namespace Q
open PySem PySem.Spec PyProof.Rows L2
section
variable {P : Program} {w : World} {A : Around} {E : Value → Shared → Prop} {s : Shared} {a : Addr}
set_option maxRecDepth 100000 in
set_option maxHeartbeats 3200000 in
theorem call_set_lstI {l : Addr} {items : Array Value} (ns : List Int) {Q : Value → Shared → Prop} (hh : A.handled = none) (hl : s.heap.IsList l items) (hit : IntsAre items.toList ns) (hb : ns.length + 1 < scanBound)
    (h : ∀ (h' : Heap) (tk c : Nat), SetR w h' s.heap.objs.size (fun j => decide (j ∈ ns)) c → c ≤ ns.length → (∀ b o, s.heap.get? b = some o → h'.get? b = some o) → Q (.ref s.heap.objs.size) { s with heap := h', toks := tk }) :
    wpAny (model P w) A (call (.type "set") [.ref l]) Q E s := by
  have hisz : items.size = ns.length := by
    have q := IntsAre.length hit
    rw [Array.length_toList] at q
    exact q
  obtain ⟨c, tl, hmro⟩ := F.called_set.mro
  have hmade := F.called_set.made
  have hsub := F.called_set.sub
  refine wpAny_call (codeAny_of_tree ?_)
  show wpAny _ _ (callAny (.type "set") _) _ _ _
  refine wpAny_pure ⟨Code.quiet_builtin _ (by decide +kernel), codeAny_builtin F.entry_type_call ?_⟩
  rw [Around.under_plain (weight_type_call_type "set" [.ref l] []) rfl]
  have h1 := F.called_set.notType
  have h2 := F.called_set.canCreate
  have hct := F.typeCall_set_1 (.ref l)
  repeat (any_goals (first | assumption | wp_step))

  refine codeAny_mono (code_set_led1 (.ref l) (E := E) (Q₁ := fun obj s₁ => obj = .ref s.heap.objs.size ∧ s₁ = { s with heap := s.heap.push { cls := .type "set", dict := none, data := .set #[] 0 (.fresh 0 0 (!w.params.followText "set-order")) } }) ⟨rfl, rfl⟩) fun r s₁ hr => ?_
  cases r with
  | error e => exact hr
  | ok fl =>
    cases fl with
    | ret obj =>
      obtain ⟨rfl, rfl⟩ := hr
      have hS : (s.heap.push { cls := .type "set", dict := none, data := .set #[] 0 (.fresh 0 0 (!w.params.followText "set-order")) }).get? s.heap.objs.size = some { cls := .type "set", dict := none, data := .set #[] 0 (.fresh 0 0 (!w.params.followText "set-order")) } := Heap.get?_push_size _ rfl
      have hT : Shared.TypeIs { s with heap := s.heap.push { cls := .type "set", dict := none, data := .set #[] 0 (.fresh 0 0 (!w.params.followText "set-order")) } } (.ref s.heap.objs.size) "set" := ⟨_, hS, rfl⟩
      have hli := F.called_set.init.lookup
      have hbi := F.called_set.init.bind (.ref s.heap.objs.size)
      repeat (any_goals (first | assumption | wp_step))

      refine codeAny_mono (codeAny_call_builtin (R := wants (fun r s₂ => r = .none ∧ ∃ h' tk c, s₂ = { s with heap := h', toks := tk } ∧ SetR w h' s.heap.objs.size (fun j => decide (j ∈ ns)) c ∧ c ≤ ns.length ∧
          (∀ b o, s.heap.get? b = some o → h'.get? b = some o)) E) F.called_set.init.plain F.entry_set_init (check_set_init_1 hT ?_)) fun r₂ s₂ hr₂ => ?_
      · obtain ⟨ol, hol, hcl, nl, hdl⟩ := hl
        obtain ⟨ocls, odict, odata, oslots⟩ := ol
        simp only at hcl hdl
        subst hcl; subst hdl
        have hol' : (s.heap.push { cls := .type "set", dict := none, data := .set #[] 0 (.fresh 0 0 (!w.params.followText "set-order")) }).get? l = some { cls := .type "list", dict := odict, data := .seq items nl, slots := oslots } := Heap.get?_push_of_some _ hol
        have hsls := F.sub_list_set
        have hslf := F.sub_list_frozenset
        have hne : (Value.type "list" == Value.type "dict") = false := by decide
        have hl1 : (s.heap.push { cls := .type "set", dict := none, data := .set #[] 0 (.fresh 0 0 (!w.params.followText "set-order")) }).IsList l items := ⟨_, hol', rfl, nl, rfl⟩
        unfold Builtin.«set.__init__» noKeywords Builtin.Frozenset.updateFrom
        generalize hPI : pyIter = PI
        wp_walk
        subst hPI

        refine wpAny_pyIter_list hl1 ?_
        refine wpAny_bind (wpAny_runValue ?_)
        have hlS : l < s.heap.objs.size := Heap.lt_size hol
        have hh3 : A.in1.in1.in1.handled = none := by simp [hh]
        have hz1 : (s.heap.push { cls := .type "set", dict := none, data := .set #[] 0 (.fresh 0 0 (!w.params.followText "set-order")) }).objs.size = s.heap.objs.size + 1 := Heap.size_push ..
        have hneI : l ≠ (s.heap.push { cls := .type "set", dict := none, data := .set #[] 0 (.fresh 0 0 (!w.params.followText "set-order")) }).objs.size := by
          rw [Heap.size_push]; exact Nat.ne_of_lt (Nat.lt_succ_of_lt hlS)
        have hSf : s.heap.objs.size ∉ [(s.heap.push { cls := .type "set", dict := none, data := .set #[] 0 (.fresh 0 0 (!w.params.followText "set-order")) }).objs.size, l] := by
          rw [Heap.size_push]; simp only [List.mem_cons, List.mem_singleton, List.not_mem_nil, or_false, not_or]
          exact ⟨Nat.ne_of_lt (Nat.lt_succ_self _), Nat.ne_of_gt hlS⟩
        have hval : ∀ (i : Nat) (v : Value), items[i]? = some v → ∃ k t, ns[i]? = some k ∧ v = .int k t := fun i v hv => by
          have hi : i < ns.length := by rw [← hisz]; exact (Array.getElem?_eq_some_iff.mp hv).1
          obtain ⟨t, e⟩ := PyProof.Rows.IntsAre.int_at hit i v (by rw [Array.getElem?_toList]; exact hv)
          refine ⟨ns[i], t, List.getElem?_eq_getElem hi, ?_⟩
          rw [e, List.getD_eq_getElem?_getD, List.getElem?_eq_getElem hi] <;> rfl
        refine set_update_ints ((Walks.list hh3 _ l hneI items).toS) s.heap.objs.size
          hSf ns hisz hb hval (items.size - 0) 0 _ (by omega) (Nat.zero_le _)
          ⟨⟨_, Heap.get?_push_size _ rfl, rfl, rfl⟩, (hl1.push _)⟩ ?hS0 ?hR
        case hS0 =>
          have hget : ((s.heap.push { cls := .type "set", dict := none, data := .set #[] 0 (.fresh 0 0 (!w.params.followText "set-order")) }).push { cls := .type "list_iterator", data := .fields #[.ref l, .int 0 0] }).get? s.heap.objs.size
              = some { cls := .type "set", dict := none, data := .set #[] 0 (.fresh 0 0 (!w.params.followText "set-order")) } := Heap.get?_push_of_some _ hS
          exact ⟨0, Nat.le_refl 0, setR_new_at hget⟩
        case hR =>
          intro s' c' hm hc' hS'
          obtain ⟨h', g2, d', tk', os'⟩ := s'
          have eg : g2 = s.gens := hm.gens
          have ed : d' = s.drawn := hm.drawn
          have eo : os' = s.os := hm.os
          subst eg; subst ed; subst eo
          show wpAny _ _ _ _ _ _
          refine wpAny_pure ?_
          show wpAny _ _ (ret Value.none) _ _ _
          rw [hisz] at hc'
          refine wpAny_pure ⟨rfl, h', tk', c', rfl, hS', hc', fun b o e => ?_⟩
          have hb0 : b < s.heap.objs.size := Heap.lt_size e
          have hb1 : b ≠ s.heap.objs.size := Nat.ne_of_lt hb0
          have hb2 : b ≠ (s.heap.push { cls := .type "set", dict := none, data := .set #[] 0 (.fresh 0 0 (!w.params.followText "set-order")) }).objs.size := by
            rw [Heap.size_push]; exact Nat.ne_of_lt (Nat.lt_succ_of_lt hb0)
          exact hm.heap b o (by simp only [List.mem_cons, List.mem_singleton, List.not_mem_nil, or_false, not_or]; exact ⟨hb1, hb2⟩) (Heap.get?_push_of_some _ (Heap.get?_push_of_some _ e))

      · cases r₂ with
        | error e => exact hr₂
        | ok fl₂ =>
          cases fl₂ with
          | ret r =>
            obtain ⟨rfl, h', tk, c', rfl, hS', hc', hk'⟩ := hr₂
            repeat (any_goals (first | assumption | wp_step))
            exact h _ _ _ hS' hc' hk'
          | _ => exact hr₂.elim
    | _ => exact hr.elim

theorem sorted_setAny {S : Int → Bool} {n : Nat} {Q : Value → Shared → Prop} (R : SetR w s.heap a S n) (hh : A.handled = none)
    (hQ : ∀ s' p (out : Array Value) (c : Nat) (ns : List Int), (∀ b o, s.heap.get? b = some o → s'.heap.get? b = some o) → s'.gens = s.gens → s'.os = s.os → s.heap.objs.size ≤ p →
      s'.heap.get? p = some (seqObj "list" out c) → IntsAre out.toList ns → ns.Pairwise (· < ·) → (∀ k, k ∈ ns ↔ S k = true) → ns.length = n → Q (.ref p) s') :
    wpAny (model P w) A (call (.builtin "sorted") [.ref a]) Q E s := by
  obtain ⟨o, es, ep, t, ho, hex, hd, g, nd, hm, hb, hf, hn, hr, hl⟩ := R
  refine Calls.call_function_entry kind_sorted plain_sorted entry_sorted (args_sorted1 _) ?_
  unfold Builtin.«sorted»
  refine wpAny_bind (m := checkCount "sorted" 1 1 _) (wpAny_pure ?_)
  refine wpAny_bind (collect_set (A := A.in1) hh ⟨o, ho, hex.1, hd⟩ hf hb hr hl fun s1 vs k1 hz g1 o1 pm => ?_)
  have hvl : vs.length = n := by rw [pm.length_eq, List.length_map, Array.length_toList]; exact hn
  have hI : IntsAre vs (vs.map Builtin.Re.reRawOf) := ints_of vs fun v hv => by
    obtain ⟨e, he, q⟩ := List.mem_map.mp (pm.mem_iff.mp hv)
    obtain ⟨k, tk, h1, _⟩ := g e he
    exact ⟨k, tk, by rw [← q]; exact h1⟩
  have pk : (vs.map Builtin.Re.reRawOf).Perm (es.toList.map keyOf) := by
    have q := pm.map Builtin.Re.reRawOf
    rw [List.map_map] at q
    exact q
  refine wpAny_bind (wpAny_newList ?_ (by rw [hvl]; have := hb; rw [hn] at this; unfold scanBound at this; rw [sizeLine_eq]; omega))
  have hoL : (s1.heap.push (seqObj "list" vs.toArray 0)).get? s1.heap.objs.size = some (seqObj "list" vs.toArray 0) := Heap.get?_push_size _ rfl
  refine wpAny_bind (wpAny_holding (wpAny_call_entry slot_list_sort ⟨_, hoL, rfl⟩ entry_list_sort (SrtO.list_sort_ord SrtO.swo_int hoL (by rw [hvl]; have := hb; rw [hn] at this; unfold scanBound at this; rw [sizeLine_eq]; omega) (fun h2 => SrtO.ints_sortable hI h2) fun outL hs1 hs2 => ⟨_, rfl, ?_⟩) (args_list_sort _)))
  obtain ⟨a1, a2, a3⟩ := SrtO.ints_out hI hs1 hs2
  obtain ⟨c, hc⟩ := sortedHeap_at (vs := vs) (out := outL.toArray) hoL
  have pn : (outL.map SrtO.iv).Perm (es.toList.map keyOf) := a2.trans pk
  refine wpAny_pure ⟨_, rfl, hQ _ s1.heap.objs.size outL.toArray c (outL.map SrtO.iv) (fun b u e => ?_) g1 o1 hz hc (by simpa using a1) (lt_of_le_nodup (outL.map SrtO.iv) a3 (pn.nodup_iff.mpr nd)) (fun k => by rw [pn.mem_iff, ← hm k]) ?_⟩
  · have q := k1 b u e
    have hlt := Heap.lt_size q
    show (sortedHeap (s1.heap.push (seqObj "list" vs.toArray 0)) s1.heap.objs.size vs outL.toArray).get? b = some u
    rw [sortedHeap_old (Nat.ne_of_lt hlt) (by rw [size_push']; exact Nat.lt_succ_of_lt hlt)]
    exact Heap.get?_push_of_some _ q
  · rw [pn.length_eq, List.length_map, Array.length_toList]; exact hn
end
section
variable {X : Cx} {g : Gd} {W : WX} {a : Expr} {ta : TE} {qa : TEq} {p p2 pos : Pos} {c : Cg}
def tSortSet (K : Fg) (ta : TE) : TE := fun σ H Q => ta σ H fun x H1 => ∃ (l : Addr) (ns : List Int), x = .ref l ∧ SqL K H1 l (ns.map V.int) ∧ ns.length ≤ 4000 ∧
  ∀ (ns' : List Int) (p : Addr), ns'.Pairwise (· < ·) → (∀ k : Int, k ∈ ns' ↔ k ∈ ns) → H1 p = none → Q (.ref p) (upd H1 p (.lst (ns'.map V.int)))
theorem pe_sortSet {q : Pos} (hg : Gl X "sorted") (hm : X.mg "sorted" = none) (hv : bootBuiltins "sorted" = some (.builtin "sorted")) (hg2 : Gl X "set") (hm2 : X.mg "set" = none) (ha : PE X a ta) (hc : X.calm = true) (na : starEach [a] X.env = (false, eval a X.env) :: starEach [] X.env) :
    PE X (.Call (.Name "sorted" p) [.Call (.Name "set" p2) [a] [] q] [] pos) (tSortSet X.K ta) := by
  constructor
  intro pins s σ H Q I h
  refine Call_ (ld_blt I hg hm hv (PyProof.Rows.callWith_builtin1 (PyProof.Rows.args_cons (Call_ (ld_blt I hg2 hm2 boot_set ?_)) rfl) rfl rfl))
  refine PyProof.Rows.callWith_type1 (PyProof.Rows.args_cons (thn (ha.run pins s σ H _ I h) fun v s1 ⟨x, H1, I1, r1, q1⟩ => PyProof.Rows.args_nil ?_) na) na rfl
  obtain ⟨l, ns, rfl, hq, hl, q1⟩ := q1
  obtain rfl : v = .ref l := r1
  obtain ⟨its, r, pl, hz⟩ := I1.list hq
  have hlen : its.toArray.size = ns.length := by rw [List.size_toArray, ← r.length, List.length_map]
  refine call_set_lstI ns (I1.ok.hd hc) pl.isList (by rw [show its.toArray.toList = its by simp]; exact RZ.intsAre_vals r) (by unfold scanBound; omega) fun h' tk c hR hcl hk => PyProof.Rows.args_nil ?_
  have I2 : Inv X pins σ H1 { s1 with heap := h', toks := tk } := I1.kept fun b o e => hk b o e
  refine sorted_setAny hR (I2.ok.hd hc) fun s' p out c' ns' k g o hp hgt hi hs hm hln => ?_
  have hlen : (ns'.map V.int).length ≤ sizeLine := by rw [List.length_map, hln, sizeLine_eq]; omega
  have hn : H1 p = none := I2.hok.fresh hp
  have J : Inv X pins σ (upd H1 p (.lst (ns'.map V.int))) { ({ s1 with heap := h', toks := tk } : Shared) with heap := s'.heap, gens := s'.gens, drawn := s'.drawn, toks := s'.toks } :=
    I2.call (ch := []) (Un.laid k hp hn) (I2.hok.laid k hp ⟨hlen, out.toList, c', vals_of_ints hi, hgt⟩) (by rw [g]; exact I2.bare) (fun _ z => nomatch z)
  have e : s' = { s1 with heap := s'.heap, gens := s'.gens, drawn := s'.drawn, toks := s'.toks } := by
    cases s'
    cases s1
    cases o
    rfl
  rw [e]
  exact ⟨.ref p, _, J, rfl, q1 ns' p hs (fun k => by rw [hm k, decide_eq_true_eq]) hn⟩
def qSortSet (qa : TEq) : TNq := fun env k x => qa env (fun y env1 => ∃ ns : List Int, res env1 y = some (.lst (ns.map .int)) ∧ ns.length ≤ 4000 ∧ ∀ ns' : List Int, ns'.Pairwise (· < ·) → (∀ k : Int, k ∈ ns' ↔ k ∈ ns) → k (.own (.lst (ns'.map .int))) env1) x
theorem own_new {c : Cg} {F P S H : Hp} {b : Option Addr} {σ : L2.St} {env : En} {k : Rv → En → Prop} {p : Addr} {o : HO} {d : D} (R : Rel c F P S b σ H env) (hn : H p = none) (ho : OwnAt c.K S (upd H p o) p d) {Q : VK}
    (hk : ∀ (S' H' : Hp) (env' : En) (v : V) (y : Rv), Rel c F P S' b σ H' env' → Ext P S S' → RvOk c.K P S' b H' v y → (∀ d, y = .own d → ∀ (i : Nat) (e : D) (p : Addr), v = .ref p → σ[i]? = some (some (.ref p)) → env'[i]? ≠ some (.own e)) → k y env' → Q v H') (h : k (.own d) env) : Q (.ref p) (upd H p o) := by
  obtain ⟨h1, h2, h3⟩ := R.new hn
  refine hk S _ env (.ref p) (.own d) (R.alloc hn) Ext.refl ⟨p, rfl, h1, h2, h3, ho⟩ (fun d' _ i e q hq h4 => ?_) h
  cases hq
  exact R.notOwn hn i e h4
theorem q_sortSet {q : Pos} (hg : Gl X "sorted") (hm : X.mg "sorted" = none) (hg2 : Gl X "set") (hm2 : X.mg "set" = none) (ha : QE X g W a ta qa) (hc : X.calm = true := by rfl) (hv : bootBuiltins "sorted" = some (.builtin "sorted") := by decide +kernel) (na : starEach [a] X.env = (false, eval a X.env) :: starEach [] X.env := by rfl) :
    QN X g W (.Call (.Name "sorted" p) [.Call (.Name "set" p2) [a] [] q] [] pos) (tSortSet X.K ta) (qSortSet qa) :=
  ⟨pe_sortSet hg hm hv hg2 hm2 ha.pe hc na, fun N F P S b σ H env k x Q R hq hx hk => by
    refine ha.sm N F P S b σ H env _ x _ R hq hx fun S1 H1 env1 v y R1 e1 r1 h1 => ?_
    obtain ⟨ns, hd, hl, h2⟩ := h1
    have z := R1.read r1 hd
    cases z with
    | lst h r =>
      refine ⟨_, ns, rfl, by rw [← r.ints]; exact SqL.of h, hl, fun ns' p hs hm hn => ?_⟩
      exact own_new R1 hn (.lst upd_same (Reps.of_ints ns')) (fun S' H' env' v y R' e' => hk S' H' env' v y R' (e1.trans e')) (h2 ns' hs hm)⟩
end
end Q


set_option Elab.async false
set_option linter.all false
set_option maxRecDepth 100000
set_option maxHeartbeats 2000000
set_option autoImplicit false
/-! Q37: list(zip(a, b)). -/
namespace Q
open PySem PySem.Spec PyProof.Rows L2
/-- a zip of two lists, turned i times; S: an object apart from it -/
def ZSt (h : Heap) (z TI TO i1 i2 l1 l2 : Addr) (xs ys : Array Value) (S : Addr) (i : Nat) : Prop :=
  IsPair h TI (.ref i1) (.ref i2) ∧ h.IsListIter i1 l1 i ∧ h.IsListIter i2 l2 i ∧ h.IsList l1 xs ∧ h.IsList l2 ys ∧
    ((IsZip h z TI TO .none ∧ ∃ a b, IsPair h TO a b) ∨ ∃ T f oT, IsZipHeld h z TI TO T f ∧ h.get? T = some oT ∧ T ≠ z ∧ T ≠ i1 ∧ T ≠ i2 ∧ T ≠ S)
structure ZOff (z TI TO i1 i2 l1 l2 S : Addr) : Prop where
  z : z ≠ S
  TI : TI ≠ S
  TO : TO ≠ S
  i1 : i1 ≠ S
  i2 : i2 ≠ S
  l1 : l1 ≠ S
  l2 : l2 ≠ S
section
variable {prog : Program} {w : World} {A : Around} {E : Value → Shared → Prop} {s : Shared} {z TI TO i1 i2 l1 l2 S : Addr} {xs ys : Array Value} {i : Nat}
theorem ZSt.keep {h h' : Heap} (x : ZSt h z TI TO i1 i2 l1 l2 xs ys S i) (D : ZOff z TI TO i1 i2 l1 l2 S) (hk : ∀ b o, b ≠ S → h.get? b = some o → h'.get? b = some o) : ZSt h' z TI TO i1 i2 l1 l2 xs ys S i := by
  obtain ⟨h1, h2, h3, h4, h5, h6⟩ := x
  refine ⟨hk _ _ D.TI h1, h2.at fun o e => hk _ o D.i1 e, h3.at fun o e => hk _ o D.i2 e, h4.at fun o e => hk _ o D.l1 e, h5.at fun o e => hk _ o D.l2 e, ?_⟩
  rcases h6 with ⟨hz, a, b, hTO⟩ | ⟨T, f, oT, hz, hT, r1, r2, r3, r4⟩
  · exact .inl ⟨hk _ _ D.z hz, a, b, hk _ _ D.TO hTO⟩
  · exact .inr ⟨T, f, oT, hk _ _ D.z hz, hk _ _ r4 hT, r1, r2, r3, r4⟩
theorem zst_item {x y : Value} {Q : Option Value → Shared → Prop} (D : ZipApart z TI TO i1 i2 l1 l2) (st : ZSt s.heap z TI TO i1 i2 l1 l2 xs ys S i) (hS : S < s.heap.objs.size) (ex : xs[i]? = some x) (ey : ys[i]? = some y)
    (hQ : ∀ h', ZSt h' z TI TO i1 i2 l1 l2 xs ys S (i + 1) → IsPair h' s.heap.objs.size x y → h'.objs.size = s.heap.objs.size + 1 → (∀ c o, c ∉ [z, TO, i1, i2] → s.heap.get? c = some o → h'.get? c = some o) → Q (some (.ref s.heap.objs.size)) { s with heap := h' }) :
    wpAny (model prog w) A (pyNext (.ref z)) Q E s := by
  obtain ⟨hTI, h1, h2, hl1, hl2, hz⟩ := st
  have lt : ∀ {c o}, s.heap.get? c = some o → s.heap.objs.size ≠ c := fun e => Nat.ne_of_gt (Heap.lt_size e)
  have n1 : s.heap.objs.size ≠ i1 := let ⟨_, e, _⟩ := h1; lt e
  have n2 : s.heap.objs.size ≠ i2 := let ⟨_, e, _⟩ := h2; lt e
  have nin : ∀ {c : Addr}, c ∉ [z, TO, i1, i2] → c ≠ z ∧ c ≠ TO ∧ c ≠ i1 ∧ c ≠ i2 := fun h => by simpa using h
  rcases hz with ⟨hz, a, b, hTO⟩ | ⟨T, f, oT, hz, hT, r1, r2, r3, r4⟩
  · refine wpAny_pyNext_zip_item D hz hTI hTO h1 h2 hl1 hl2 ex ey fun h' a1 a2 a3 a4 a5 a6 hk => ?_
    exact hQ h' ⟨hk _ _ D.TIz D.TITO D.TIi1 D.TIi2 hTI, a3, a4, hl1.at fun o e => hk _ o D.l1z D.l1TO D.l1i1 D.l1i2 e, hl2.at fun o e => hk _ o D.l2z D.l2TO D.l2i1 D.l2i2 e,
        .inr ⟨s.heap.objs.size, false, _, a1, a5, lt hz, n1, n2, Nat.ne_of_gt hS⟩⟩ a5 a6 fun c o hc e => by
      obtain ⟨c1, c2, c3, c4⟩ := nin hc
      exact hk c o c1 c2 c3 c4 e
  · refine wpAny_pyNext_zip_item_held D hz hT hTI h1 h2 hl1 hl2 ex ey fun h' a1 a3 a4 a5 a6 hk => ?_
    exact hQ h' ⟨hk _ _ D.TIz D.TIi1 D.TIi2 hTI, a3, a4, hl1.at fun o e => hk _ o D.l1z D.l1i1 D.l1i2 e, hl2.at fun o e => hk _ o D.l2z D.l2i1 D.l2i2 e,
        .inr ⟨T, true, oT, a1, hk _ _ r1 r2 r3 hT, r1, r2, r3, r4⟩⟩ a5 a6 fun c o hc e => by
      obtain ⟨c1, c2, c3, c4⟩ := nin hc
      exact hk c o c1 c3 c4 e
theorem zst_done {Q : Option Value → Shared → Prop} (hh : A.handled = none) (D : ZipApart z TI TO i1 i2 l1 l2) (st : ZSt s.heap z TI TO i1 i2 l1 l2 xs ys S i) (hend : xs[i]? = none ∨ ys[i]? = none)
    (hQ : ∀ h', (∀ c o, c ∉ [z, TO, i1, i2] → s.heap.get? c = some o → h'.get? c = some o) → Q none { s with heap := h' }) : wpAny (model prog w) A (pyNext (.ref z)) Q E s := by
  obtain ⟨hTI, h1, h2, hl1, hl2, hz⟩ := st
  have nin : ∀ {c : Addr}, c ∉ [z, TO, i1, i2] → c ≠ z ∧ c ≠ TO ∧ c ≠ i1 ∧ c ≠ i2 := fun h => by simpa using h
  rcases hz with ⟨hz, a, b, hTO⟩ | ⟨T, f, oT, hz, hT, r1, r2, r3, r4⟩
  · exact wpAny_pyNext_zip_end hh D hz hTI hTO h1 h2 hl1 hl2 hend fun h' hk => hQ h' fun c o hc e => by
      obtain ⟨c1, c2, c3, c4⟩ := nin hc
      exact hk c o c1 c2 c3 c4 e
  · exact wpAny_pyNext_zip_end_held hh D hz hT hTI h1 h2 hl1 hl2 hend fun h' hk => hQ h' fun c o hc e => by
      obtain ⟨c1, c2, c3, c4⟩ := nin hc
      exact hk c o c1 c3 c4 e
/-- the pairs made so far -/
structure ZG (xs ys : Array Value) (lo : Addr) (h : Heap) (as : List Addr) : Prop where
  rise : as.Pairwise (· < ·)
  above : ∀ a ∈ as, lo < a
  pairs : ∀ (j : Nat) (a : Addr), as[j]? = some a → ∃ x y, xs[j]? = some x ∧ ys[j]? = some y ∧ IsPair h a x y
theorem ZG.there {lo : Addr} {h : Heap} {as : List Addr} (g : ZG xs ys lo h as) {a : Addr} (ha : a ∈ as) : a < h.objs.size := by
  obtain ⟨j, hj⟩ := List.mem_iff_getElem?.mp ha
  obtain ⟨_, _, _, _, e⟩ := g.pairs j a hj
  exact Heap.lt_size e
theorem z_loop {n : Nat} (hh : A.handled = none) (D : ZipApart z TI TO i1 i2 l1 l2) (O : ZOff z TI TO i1 i2 l1 l2 S) (lo : ∀ c ∈ [z, TO, i1, i2], c < S) (hn : n = min xs.size ys.size) (hz : n ≤ sizeLine) (res : Value) {h₁ : Heap} {R : Result → Shared → Prop}
    (hR : ∀ h' tk acc c as, (∀ b o, b ≠ S → b ∉ [z, TO, i1, i2] → h₁.get? b = some o → h'.get? b = some o) → h'.get? S = some { cls := .type "list", dict := none, data := .seq acc c, slots := #[] } → as.length = n → ZG xs ys S h' as →
      acc.toList = as.map Value.ref → R (.ok (.ret res)) { s with heap := h', toks := tk }) :
    ∀ (k i : Nat) (h : Heap) (tk c : Nat) (acc : Array Value) (as : List Addr), n - i = k → i ≤ n → ZSt h z TI TO i1 i2 l1 l2 xs ys S i → (∀ b o, b ≠ S → b ∉ [z, TO, i1, i2] → h₁.get? b = some o → h.get? b = some o) →
      h.get? S = some { cls := .type "list", dict := none, data := .seq acc c, slots := #[] } → acc.toList = as.map Value.ref → as.length = i → ZG xs ys S h as →
      codeAny (model prog w) A (.builtin "list.extend.loop" ⟨[.ref S, .ref z, res], []⟩) R { s with heap := h, toks := tk } := by
  have offS : S ∉ [z, TO, i1, i2] := fun hm => absurd (lo S hm) (Nat.lt_irrefl _)
  have hi : ∀ {b : Addr}, S < b → b ∉ [z, TO, i1, i2] := fun hb hm => absurd (lo _ hm) (Nat.not_lt.mpr (Nat.le_of_lt hb))
  intro k
  induction k with
  | zero =>
    intro i h tk c acc as hk hi2 hst hkeep hS hacc hal hG
    have hin : i = n := by omega
    refine codeAny_builtin PySem.F.entry_extend_loop ?_
    rw [Around.under_plainId PySem.F.plain_extend_loop _]
    show wpAny _ A.in1 (pyNext (.ref z) >>= _) _ _ _
    have hend : xs[i]? = none ∨ ys[i]? = none := by
      rcases Nat.le_total xs.size ys.size with q | q
      · exact .inl (Array.getElem?_eq_none (by omega))
      · exact .inr (Array.getElem?_eq_none (by omega))
    refine wpAny_bind (zst_done (s := { s with heap := h, toks := tk }) (A := A.in1) hh D hst hend fun h' he => ?_)
    refine wpAny_pure (hR h' tk acc c as (fun b o h1 h2 e => he b o h2 (hkeep b o h1 h2 e)) (he S _ offS hS) (by omega) ⟨hG.rise, hG.above, fun j a hj => ?_⟩ hacc)
    obtain ⟨x, y, e1, e2, e3⟩ := hG.pairs j a hj
    exact ⟨x, y, e1, e2, he a _ (hi (hG.above a (List.mem_of_getElem? hj))) e3⟩
  | succ k ih =>
    intro i h tk c acc as hk hi2 hst hkeep hS hacc hal hG
    have hlt : i < n := by omega
    have hx := Array.getElem?_eq_getElem (show i < xs.size by omega)
    have hy := Array.getElem?_eq_getElem (show i < ys.size by omega)
    generalize xs[i] = x at hx
    generalize ys[i] = y at hy
    have hsz : acc.size = i := by rw [← Array.length_toList, hacc, List.length_map, hal]
    have hSl : S < h.objs.size := Heap.lt_size hS
    refine codeAny_builtin PySem.F.entry_extend_loop ?_
    rw [Around.under_plainId PySem.F.plain_extend_loop _]
    show wpAny _ A.in1 (pyNext (.ref z) >>= _) _ _ _
    refine wpAny_bind (zst_item (s := { s with heap := h, toks := tk }) (S := S) D hst hSl hx hy fun h' hst' ht hz' hkp => ?_)
    dsimp only at ht hz' hkp ⊢
    have hS' := hkp S _ offS hS
    have up : ∀ b o, b ≠ S → h'.get? b = some o → (h'.update S (Obj.mapSeq (·.push (Value.ref h.objs.size)))).get? b = some o := fun b o hb e => (Heap.get?_update_other _ _ (Ne.symm hb)).trans e
    show wpAny _ A.in1 (updateSeq S (·.push (Value.ref h.objs.size)) >>= _) _ _ _
    refine wpAny_bind ?_
    refine wpAny_updateSeq hS' rfl (wpAny_pure ⟨plainId_quiet PySem.F.plain_extend_loop _, ih (i + 1) _ tk _ (acc.push (Value.ref h.objs.size)) (as ++ [h.objs.size]) (by omega) hlt (hst'.keep O up)
      (fun b o h1 h2 e => up b o h1 (hkp b o h2 (hkeep b o h1 h2 e))) (Heap.get?_update_self _ hS' rfl) (by rw [Array.toList_push, hacc, List.map_append]; rfl) (by rw [List.length_append, hal]; rfl) ⟨?_, ?_, ?_⟩⟩) (by rw [hsz]; omega) (by show (acc.push (Value.ref h.objs.size)).size ≤ sizeLine + 1; rw [Array.size_push]; omega)
    · refine List.pairwise_append.mpr ⟨hG.rise, List.pairwise_singleton _ _, fun a ha b hb => ?_⟩
      rw [List.mem_singleton.mp hb]
      exact hG.there ha
    · intro a ha
      rcases List.mem_append.mp ha with ha | ha
      · exact hG.above a ha
      · rw [List.mem_singleton.mp ha]; exact hSl
    · intro j b hj
      rcases Nat.lt_trichotomy j as.length with h1 | h1 | h1
      · rw [List.getElem?_append_left h1] at hj
        obtain ⟨x', y', e1, e2, e3⟩ := hG.pairs j b hj
        have hb := hG.above b (List.mem_of_getElem? hj)
        exact ⟨x', y', e1, e2, up b _ (Nat.ne_of_gt hb) (hkp b _ (hi hb) e3)⟩
      · subst h1
        have hb : h.objs.size = b := by simpa using hj
        subst hb
        exact ⟨x, y, by rw [hal]; exact hx, by rw [hal]; exact hy, up _ _ (Nat.ne_of_gt hSl) ht⟩
      · have hnone : (as ++ [h.objs.size])[j]? = none := List.getElem?_eq_none (by rw [List.length_append, List.length_singleton]; omega)
        rw [hnone] at hj; cases hj
theorem zip_no_len : typeLookup (.type "zip") "__len__" = pure none := am_miss_of_fast (by decide +kernel)
theorem zip_no_hint : typeLookup (.type "zip") "__length_hint__" = pure none := am_miss_of_fast (by decide +kernel)
theorem z_hint {r : Addr} {Q : Bool → Shared → Prop} (hT : s.TypeIs (.ref r) "zip") (h : Q true s) : wpAny (model prog w) A (Builtin.List.listLengthHint (.ref r)) Q E s := by
  unfold Builtin.List.listLengthHint
  refine wpAny_bind (wpAny_specialOf hT zip_no_len ?_)
  show wpAny _ _ (specialOf (Value.ref r) (Str.ofString "__length_hint__") >>= _) _ _ _
  refine wpAny_bind (wpAny_specialOf hT zip_no_hint ?_)
  exact wpAny_pure h
theorem z_call {xs ys : Array Value} {Q : Value → Shared → Prop} (hh : A.handled = none) (D : ZipApart z TI TO i1 i2 l1 l2) (hz0 : IsZip s.heap z TI TO .none) (hp0 : IsPair s.heap TI (.ref i1) (.ref i2)) {a0 b0 : Value} (ht0 : IsPair s.heap TO a0 b0) (g2 : s.heap.IsListIter i1 l1 0) (g3 : s.heap.IsListIter i2 l2 0) (g4 : s.heap.IsList l1 xs) (g5 : s.heap.IsList l2 ys) (hsz : xs.size ≤ sizeLine)
    (hQ : ∀ h' tk acc c as, (∀ b o, b ∉ [z, TO, i1, i2] → s.heap.get? b = some o → h'.get? b = some o) → h'.get? s.heap.objs.size = some { cls := .type "list", dict := none, data := .seq acc c, slots := #[] } → as.length = min xs.size ys.size → ZG xs ys s.heap.objs.size h' as →
      acc.toList = as.map Value.ref → Q (.ref s.heap.objs.size) { s with heap := h', toks := tk }) :
    wpAny (model prog w) A (call (.type "list") [.ref z]) Q E s := by
  have st0 : ZSt s.heap z TI TO i1 i2 l1 l2 xs ys s.heap.objs.size 0 := ⟨hp0, g2, g3, g4, g5, .inl ⟨hz0, _, _, ht0⟩⟩
  have lz : ∀ {b o}, s.heap.get? b = some o → b < s.heap.objs.size := fun e => Heap.lt_size e
  have b1 : i1 < s.heap.objs.size := let ⟨_, e, _⟩ := g2; lz e
  have b2 : i2 < s.heap.objs.size := let ⟨_, e, _⟩ := g3; lz e
  have b3 : l1 < s.heap.objs.size := let ⟨_, e, _⟩ := g4; lz e
  have b4 : l2 < s.heap.objs.size := let ⟨_, e, _⟩ := g5; lz e
  have b5 : z < s.heap.objs.size := lz hz0
  have b6 : TI < s.heap.objs.size := lz hp0
  have b7 : TO < s.heap.objs.size := lz ht0
  have O : ZOff z TI TO i1 i2 l1 l2 s.heap.objs.size := ⟨Nat.ne_of_lt b5, Nat.ne_of_lt b6, Nat.ne_of_lt b7, Nat.ne_of_lt b1, Nat.ne_of_lt b2, Nat.ne_of_lt b3, Nat.ne_of_lt b4⟩
  have lo : ∀ c ∈ [z, TO, i1, i2], c < s.heap.objs.size := fun c hc => by
    simp only [List.mem_cons, List.not_mem_nil, or_false] at hc
    rcases hc with rfl | rfl | rfl | rfl <;> assumption
  refine callType_codes (Q₁ := fun obj s₁ => obj = .ref s.heap.objs.size ∧ s₁ = { s with heap := s.heap.push { cls := .type "list", data := .seq #[] } }) PySem.F.called_list (PySem.F.typeCall_list_1 _) PySem.F.entry_list_init
    (code_list_new _ ⟨rfl, rfl⟩) fun obj s₁ h₁ => ?_
  obtain ⟨rfl, rfl⟩ := h₁
  have hS : (s.heap.push { cls := .type "list", data := .seq #[] }).get? s.heap.objs.size = some { cls := .type "list", data := .seq #[] } := Heap.get?_push_size _ rfl
  refine ⟨⟨_, hS, rfl⟩, PySem.F.args_list_init_2 _ _, ?_⟩
  show wpAny _ _ (do let old ← Builtin.List.listItems (.ref s.heap.objs.size); Builtin.List.listUpdate (.ref s.heap.objs.size) (fun _ => #[]); letGo old.toList.reverse; Builtin.List.listExtendWith (.ref s.heap.objs.size) (.ref z) .none) _ _ _
  refine wpAny_bind ?_
  unfold Builtin.List.listItems
  refine wpAny_bind (wpAny_seqItems hS rfl (wpAny_pure ?_))
  show wpAny _ _ (updateSeq s.heap.objs.size (fun _ => #[]) >>= fun _ => letGo (#[] : Array Value).toList.reverse >>= fun _ => Builtin.List.listExtendWith (.ref s.heap.objs.size) (.ref z) .none) _ _ _
  refine wpAny_bind (wpAny_updateSeq hS rfl ?_)
  have hS₂ := Heap.get?_update_self (Obj.mapSeq (fun _ => (#[] : Array Value))) hS rfl
  have oth : ∀ b o, b ≠ s.heap.objs.size → s.heap.get? b = some o → ((s.heap.push { cls := .type "list", data := .seq #[] }).update s.heap.objs.size (Obj.mapSeq (fun _ => (#[] : Array Value)))).get? b = some o :=
    fun b o hb e => (Heap.get?_update_other _ _ (Ne.symm hb)).trans (Heap.get?_push_of_some _ e)
  refine wpAny_bind (wpAny_letGo ?_)
  generalize ((s.heap.push { cls := .type "list", data := .seq #[] }).update s.heap.objs.size (Obj.mapSeq (fun _ => (#[] : Array Value)))) = h2 at hS₂ oth
  have zT : ∀ {tk : Nat}, Shared.TypeIs { s with heap := h2, toks := tk } (.ref z) "zip" := ⟨_, oth _ _ O.z hz0, rfl⟩
  unfold Builtin.List.listExtendWith
  refine wpAny_bind (wpAny_typeOf (T := "zip") zT ?_)
  have h1 : Builtin.List.listSameRef (.ref s.heap.objs.size) (.ref z) = false := by simp [Builtin.List.listSameRef, Nat.ne_of_gt b5]
  have h2' : (Value.type "zip" == Value.type "list") = false := by decide
  have h3 : (Value.type "zip" == Value.type "tuple") = false := by decide
  simp only [h1, h2', h3, Bool.or_false, Bool.false_eq_true, if_false]
  have key : ∀ (h : Heap) (c₁ tk : Nat), (∀ b o, b ≠ s.heap.objs.size → s.heap.get? b = some o → h.get? b = some o) → h.get? s.heap.objs.size = some { cls := .type "list", data := .seq #[] c₁ } →
      codeAny (model prog w) A.in1 (.builtin "list.extend.loop" ⟨[.ref s.heap.objs.size, .ref z, .none], []⟩) (wants (fun r s₂ => r = .none ∧ Q (.ref s.heap.objs.size) s₂) E) { s with heap := h, toks := tk } := by
    intro h c₁ tk hk hS₁
    refine z_loop (S := s.heap.objs.size) (s := s) (h₁ := s.heap) (A := A.in1) (R := wants (fun r s₂ => r = .none ∧ Q (.ref s.heap.objs.size) s₂) E) (n := min xs.size ys.size) hh D O lo rfl (by omega) .none (fun h' tk' acc c as hk' hS' hl hG hacc => ⟨rfl, hQ h' tk' acc c as (fun b o hb e => hk' b o (Nat.ne_of_lt (lz e)) hb e) hS' hl hG hacc⟩)
      _ 0 h tk c₁ #[] [] rfl (Nat.zero_le _) (st0.keep O hk) (fun b o hb _ e => hk b o hb e) hS₁ rfl rfl ⟨List.Pairwise.nil, (fun _ ha => nomatch ha), (fun j a hj => by simp at hj)⟩
  have zI : ∀ {Q : Value → Shared → Prop} {E : Value → Shared → Prop} {A' : Around}, Q (.ref z) { s with heap := h2 } → wpAny (model prog w) A' (pyIter (.ref z)) Q E { s with heap := h2 } := fun {Q E A'} q => by
    exact wpAny_pyIter_zip (s := { s with heap := h2 }) (oth _ _ O.z hz0) q
  refine wpAny_bind (zI ?_)
  refine wpAny_bind (wpAny_holding (z_hint zT ?_))
  refine wpAny_ite_split (fun _ => ?_) (fun hab => absurd rfl hab)
  refine wpAny_bind (wpAny_rule ?_)
  refine wpAny_bind ?_
  show wpAny _ _ (updateSeq s.heap.objs.size (·.push .none) >>= fun _ => updateSeq s.heap.objs.size (·.pop)) _ _ _
  refine wpAny_bind (wpAny_updateSeq hS₂ rfl ?_)
  have hS3 := Heap.get?_update_self (Obj.mapSeq (·.push Value.none)) hS₂ rfl
  refine wpAny_updateSeq (hz := by seq_fits) hS3 rfl ?_
  have hS4 := Heap.get?_update_self (Obj.mapSeq (·.pop)) hS3 rfl
  refine wpAny_pure ⟨plainId_quiet PySem.F.plain_extend_loop _, key _ _ _ (fun b o hb e => ?_) hS4⟩
  exact (Heap.get?_update_other _ _ (Ne.symm hb)).trans ((Heap.get?_update_other _ _ (Ne.symm hb)).trans (oth b o hb e))
end
/-- tuples of two, tracked at their addresses -/
def putP : Hp → List Addr → List (V × V) → Hp
  | H, a :: as, p :: ps => putP (upd H a (.tup [p.1, p.2])) as ps
  | H, _, _ => H
theorem putP_off {b : Addr} : ∀ (as : List Addr) (ps : List (V × V)) (H : Hp), b ∉ as → putP H as ps b = H b
  | [], _, _, _ => rfl
  | _ :: _, [], _, _ => rfl
  | a :: as, p :: ps, H, h => by
    show putP (upd H a (.tup [p.1, p.2])) as ps b = H b
    rw [putP_off as ps _ (fun z => h (List.mem_cons_of_mem _ z)), upd_ne (fun z => h (by rw [z]; exact List.mem_cons_self))]
theorem putP_at : ∀ (as : List Addr) (ps : List (V × V)) (H : Hp), as.length = ps.length → as.Nodup → Paired (fun (t : Addr) (p : V × V) => putP H as ps t = some (.tup [p.1, p.2])) as ps
  | [], [], _, _, _ => .nil
  | [], _ :: _, _, h, _ => by cases h
  | _ :: _, [], _, h, _ => by cases h
  | a :: as, p :: ps, H, h, hn => by
    have hn' := List.nodup_cons.mp hn
    refine .cons ?_ (putP_at as ps (upd H a (.tup [p.1, p.2])) (Nat.succ.inj h) hn'.2)
    show putP (upd H a (.tup [p.1, p.2])) as ps a = some (.tup [p.1, p.2])
    rw [putP_off as ps _ hn'.1, upd_same]
def tListZip (K : Fg) (ta : TA) : TE := fun σ H Q => ta σ H fun vs H1 => ∃ a b xs ys, vs = [.ref a, .ref b] ∧ SqL K H1 a xs ∧ SqL K H1 b ys ∧
  ∀ (H' : Hp) (p : Addr) (ts : List Addr), (∀ b o, H1 b = some o → H' b = some o) → (∀ b, b ≠ p → b ∉ ts → H' b = H1 b) → H1 p = none → (∀ t ∈ ts, H1 t = none) → p ∉ ts → H' p = some (.lst (ts.map V.ref)) → Paired (fun (t : Addr) (q : V × V) => H' t = some (.tup [q.1, q.2])) ts (xs.zip ys) → Q (.ref p) H'
section
variable {X : Cx} {e e2 : Expr} {ta : TA} {p p2 pos q : Pos}
theorem pe_listZip (hc : X.calm = true) (hg : Gl X "list") (hm : X.mg "list" = none) (hv : bootBuiltins "list" = some (.type "list")) (hg2 : Gl X "zip") (hm2 : X.mg "zip" = none) (ha : PA X [e, e2] ta)
    (hs : starEach [e, e2] X.env = (false, eval e X.env) :: starEach [e2] X.env) (hpl : (backTo q (starEach [e2] X.env)).any (·.1) = false)
    (na : starEach [.Call (.Name "zip" p2) [e, e2] [] q] X.env = (false, eval (.Call (.Name "zip" p2) [e, e2] [] q) X.env) :: starEach [] X.env) :
    PE X (.Call (.Name "list" p) [.Call (.Name "zip" p2) [e, e2] [] q] [] pos) (tListZip X.K ta) := by
  refine ⟨fun pins s σ H Q I h => ?_⟩
  refine wpAny_Call_Name_kw (ld_blt I hg hm hv ?_)
  refine PyProof.Rows.callWith_type1 (PyProof.Rows.args_cons ?_ na) na rfl
  refine Call_ (ld_blt I hg2 hm2 PyProof.Rows.boot_zip (PyProof.Rows.callWith_type1 (thn (ha.run q pins s σ H _ I h) fun us s1 ⟨vs, H1, I1, r1, q1⟩ => ?_) hs hpl))
  obtain ⟨a, b, xs, ys, ex, hqx, hqy, qk⟩ := q1
  subst ex
  cases r1 with
  | cons r rr =>
    cases rr with
    | cons r' rr =>
      cases rr
      cases r
      cases r'
      obtain ⟨its, rv, p1, pz⟩ := I1.list hqx
      obtain ⟨its2, rv2, p2', _⟩ := I1.list hqy
      have la : a < s1.heap.objs.size := p1.lt
      have lb : b < s1.heap.objs.size := p2'.lt
      refine call_zip_2 p1.isList p2'.isList fun h' hz hTI hTO h1 h2 hsz hk => PyProof.Rows.args_nil ?_
      have I2 : Inv X pins σ H1 { s1 with heap := h' } := I1.kept (t' := s1.toks) hk
      refine z_call (s := { s1 with heap := h' }) (I2.ok.hd hc) (PySem.W.ktu_apart s1.heap.objs.size a b la lb) hz hTI hTO h1 h2 (p1.isList.at fun o e => hk _ o e) (p2'.isList.at fun o e => hk _ o e) (by rw [List.size_toArray, ← rv.length]; exact pz) fun h3 tk acc c as hk3 hS hl hG hacc => ?_
      dsimp only at hk3 hS hG ⊢
      have hzl : (its.zip its2).length = as.length := by rw [hl, List.length_zip, List.size_toArray, List.size_toArray]
      have hkk : ∀ b o, s1.heap.get? b = some o → h3.get? b = some o := fun b o e => hk3 b o (fun hm => by
        have lt := Heap.lt_size e
        simp only [List.mem_cons, List.not_mem_nil, or_false] at hm
        rcases hm with h | h | h | h
        · rw [h] at lt; exact absurd lt (Nat.not_lt.mpr (Nat.le_add_right _ _))
        · rw [h] at lt; exact absurd lt (Nat.not_lt.mpr (Nat.le_add_right _ _))
        · rw [h] at lt; exact absurd lt (Nat.lt_irrefl _)
        · rw [h] at lt; exact absurd lt (Nat.not_lt.mpr (Nat.le_add_right _ _))) (hk b o e)
      have hSge : s1.heap.objs.size ≤ h'.objs.size := by rw [hsz]; exact Nat.le_add_right _ _
      have hSn : h'.objs.size ∉ as := fun z => Nat.lt_irrefl _ (hG.above _ z)
      have nd : as.Nodup := List.Pairwise.imp (fun {a b} (h : a < b) => Nat.ne_of_lt h) hG.rise
      have newS : H1 h'.objs.size = none := I1.hok.fresh hSge
      have new : ∀ t ∈ as, H1 t = none := fun t ht => I1.hok.fresh (Nat.le_trans hSge (Nat.le_of_lt (hG.above t ht)))
      have ll : as.length = (xs.zip ys).length := by rw [← hzl, List.length_zip, List.length_zip, rv.length, rv2.length]
      have atP := putP_at as (xs.zip ys) (upd H1 h'.objs.size (.lst (as.map V.ref))) ll nd
      have off : ∀ b, b ∉ as → b ≠ h'.objs.size → putP (upd H1 h'.objs.size (.lst (as.map V.ref))) as (xs.zip ys) b = H1 b := fun b h1 h2 => by rw [putP_off as _ _ h1, upd_ne h2]
      have low : ∀ b o, s1.heap.get? b = some o → b ∉ as ∧ b ≠ h'.objs.size := fun b o e => ⟨fun z => absurd (Heap.lt_size e) (Nat.not_lt.mpr (Nat.le_trans hSge (Nat.le_of_lt (hG.above b z)))), Nat.ne_of_lt (Nat.lt_of_lt_of_le (Heap.lt_size e) hSge)⟩
      have kp : ∀ b u, H1 b = some u → (putP (upd H1 h'.objs.size (.lst (as.map V.ref))) as (xs.zip ys)) b = some u := fun b u e => by
        rw [off b (fun z => by rw [new b z] at e; cases e) (fun z => by rw [z, newS] at e; cases e)]
        exact e
      have eS : putP (upd H1 h'.objs.size (.lst (as.map V.ref))) as (xs.zip ys) h'.objs.size = some (.lst (as.map V.ref)) := by rw [putP_off as _ _ hSn, upd_same]
      refine ⟨.ref h'.objs.size, _, ?_, rfl, qk _ h'.objs.size as kp (fun b h1 h2 => off b h2 h1) newS new hSn eS atP⟩
      refine I1.call' (ch := []) rfl ⟨fun b o q _ _ _ => hkk b o q, fun b o q _ _ _ => ⟨o.slots, hkk b o q⟩, fun b o q n _ => ?_, fun b o q _ => ⟨o, hkk b o q⟩, fun b xs q => kp b _ q, fun b o u q => kp b _ q, fun b ps q => ⟨#[], by rw [kp b _ q]; simp⟩⟩ (fun b u q => ?_) I1.bare fun b z => by simp at z
      · obtain ⟨z1, z2⟩ := low b o q
        rw [off b z1 z2]
        exact n
      · by_cases hb : b ∈ as
        · obtain ⟨j, pk, e1, e2, e3⟩ := LiI.paired_ix atP hb
          rw [e3] at q
          cases q
          obtain ⟨x, y, f1, f2, f3⟩ := hG.pairs j b e1
          obtain ⟨e4, e5⟩ := List.getElem?_zip_eq_some.mp e2
          obtain ⟨u1, g1, g2⟩ := rv.get e4
          obtain ⟨u2, g3, g4⟩ := rv2.get e5
          rw [List.getElem?_toArray, g1] at f1
          rw [List.getElem?_toArray, g3] at f2
          cases f1
          cases f2
          exact ⟨by show 2 ≤ sizeLine; decide, [_, _], .cons g2 (.cons g4 .nil), ⟨_, f3, rfl, _, rfl⟩⟩
        · by_cases hb2 : b = h'.objs.size
          · rw [hb2] at q ⊢
            rw [eS] at q
            cases q
            refine ⟨by rw [List.length_map, ll, List.length_zip]; exact Nat.le_trans (Nat.min_le_left _ _) pz, acc.toList, c, by rw [hacc]; exact LiI.vals_refs as, ?_⟩
            rw [Array.toArray_toList]
            exact hS
          · rw [off b hb hb2] at q
            exact (I1.hok b u q).stay (fun d v _ y => hkk d v y) (fun d y => kp d _ y) fun d xs y => kp d _ y
end
end Q


set_option Elab.async false
set_option linter.all false
set_option maxRecDepth 100000
set_option maxHeartbeats 2000000
set_option autoImplicit false
/-! Q38: zip of two lists: walked, as a list; dict of a list of pairs. -/
namespace Q
open PySem PySem.Spec PyProof.Rows L2
def zipped (a b : List D) : List D := (a.zip b).map fun p => .tup [p.1, p.2]
theorem zipped_length (a b : List D) : (zipped a b).length = min a.length b.length := by unfold zipped; rw [List.length_map, List.length_zip]
theorem zipped_get {a b : List D} {i : Nat} {d : D} (h : (zipped a b)[i]? = some d) : ∃ x y, a[i]? = some x ∧ b[i]? = some y ∧ d = .tup [x, y] := by
  unfold zipped at h
  rw [List.getElem?_map] at h
  cases e : (a.zip b)[i]? with
  | none => rw [e] at h; cases h
  | some p =>
    rw [e] at h
    obtain ⟨h1, h2⟩ := List.getElem?_zip_eq_some.mp e
    exact ⟨p.1, p.2, h1, h2, (Option.some.inj h).symm⟩
theorem walk_zip2 {K : Fg} {S1 H1 : Hp} {a b : Addr} {xs ys : List V} {ds es : List D} {i : Nat} (h1 : SqL K H1 a xs) (h2 : SqL K H1 b ys) (r1 : Reps K S1 xs ds) (r2 : Reps K S1 ys es) :
    (∀ d, (zipped ds es)[i]? = some d → (Itz K a b).go i H1 ∧ ∀ v H2, (Itz K a b).yld i H1 v H2 → YldOk K S1 H1 v d H2) ∧ ((zipped ds es).length ≤ i → (Itz K a b).stop i H1) := by
  refine ⟨fun d hd => ?_, fun hl => ⟨xs, ys, h1, h2, ?_⟩⟩
  · obtain ⟨x, y, hx, hy, rfl⟩ := zipped_get hd
    obtain ⟨u, hu, ru⟩ := r1.get hx
    obtain ⟨v, hv, rv⟩ := r2.get hy
    refine ⟨⟨xs, ys, u, v, h1, h2, hu, hv⟩, fun w H2 q => ?_⟩
    obtain ⟨T, u', v', rfl, hT, rfl, q1, q2⟩ := q
    have e1 := q1 xs h1
    rw [hu] at e1; cases e1
    have e2 := q2 ys h2
    rw [hv] at e2; cases e2
    exact .inr ⟨T, _, _, rfl, rfl, hT, rfl, .cons ru (.cons rv .nil)⟩
  · rw [zipped_length, ← r1.length, ← r2.length] at hl
    omega
def sLst (f : List D → Prop) : Sl → Prop
  | .sh d => dL f d
  | .bor d => dL f d
  | _ => False
theorem f_sLstS {f : List D → Prop} {d : D} : sLst f (.sh d) = dL f d := rfl
theorem f_sLstB {f : List D → Prop} {d : D} : sLst f (.bor d) = dL f d := rfl
theorem dL_x {f : List D → Prop} {d : D} (h : dL f d) : ∃ ds, d = .lst ds ∧ f ds := by
  cases d <;> first | exact False.elim h | exact ⟨_, rfl, h⟩
section
variable {c : Cg} {X : Cx} {g : Gd} {W : WX} {e e2 a b : Expr} {es : List Expr} {ta tb : TE} {tl : TA} {qa qb : TEq} {ql : TAq} {p pos p2 tpos : Pos}
theorem as_lst {F P S H : Hp} {bb : Option Addr} {σ : L2.St} {env env2 : En} {v : V} {y : Va} {s : Sl} {f : List D → Prop} (R : Rel c F P S bb σ H env) (r : RV c.K S σ bb v y) (h : asV env y = some (s, env2)) (hf : sLst f s) :
    ∃ S2 ds, Rel c F P S2 bb σ H env2 ∧ Ext P S S2 ∧ f ds ∧ ∀ S1 H1, Same S2 S1 → Same S1 H1 → Same F H1 → ∃ p xs, v = .ref p ∧ SqL c.K H1 p xs ∧ Reps c.K S1 xs ds := by
  obtain ⟨S2, R2, e, ok, _, _⟩ := asV_ok R r h
  cases s with
  | no => exact hf.elim
  | bag _ => exact hf.elim
  | own d => exact hf.elim
  | sh d =>
    obtain ⟨ds, rfl, q⟩ := dL_x (show dL f d from hf)
    refine ⟨S2, ds, R2, e, q, fun S1 H1 s1 s2 _ => ?_⟩
    have r3 : Rep c.K S2 v (.lst ds) := ok
    cases (At.of_rep s2 (Rep.mono s1 r3)) with
    | lst h r => exact ⟨_, _, rfl, SqL.of h, r⟩
  | bor d =>
    obtain ⟨ds, rfl, q⟩ := dL_x (show dL f d from hf)
    refine ⟨S2, ds, R2, e, q, fun S1 H1 s1 s2 s3 => ?_⟩
    have r3 : At c.K S2 F v (.lst ds) := ok
    cases (At.mono s1 s3 r3) with
    | lst h r => exact ⟨_, _, rfl, SqL.of h, r⟩
def qZip (qa qb : TEq) : TIq := fun env k x => qa env (fun y env1 => qb env1 (fun z env2 => asC env2 y fun s1 env3 => asC env3 z fun s2 env4 => sLst (fun ds => sLst (fun es => k (zipped ds es) env4) s2) s1) x) x
theorem e_zip {env : En} {ki : List D → En → Prop} {x : XQ} : qZip qa qb env ki x = qa env (fun y env1 => qb env1 (fun z env2 => asC env2 y fun s1 env3 => asC env3 z fun s2 env4 => sLst (fun ds => sLst (fun es => ki (zipped ds es) env4) s2) s1) x) x := rfl
theorem qi_zip {elts : List Expr} {kk : Nat} (hg : Gl X "zip") (hm : X.mg "zip" = none) (ha : QE X g W a ta qa) (hb : QE X g W b tb qb)
    (hs : starEach [a, b] X.env = (false, eval a X.env) :: starEach [b] X.env := by rfl) (hs2 : starEach [b] X.env = (false, eval b X.env) :: starEach [] X.env := by rfl) (hpl : (backTo pos (starEach [b] X.env)).any (·.1) = false := by rfl) :
    QI X g W (.Tuple elts kk tpos) (.Call (.Name "zip" p) [a, b] [] pos) (iZip X.K (tCons ta (tCons tb tNil))) (qZip qa qb) :=
  ⟨pi_zip hg hm (pa_cons ha.pe (pa_cons hb.pe pa_nil hs2) hs) hs hpl, fun N F P S bb σ H env k x R Rl hq hx hk => by
    refine ha.sm N F P S bb σ H env _ x _ Rl hq hx fun S1 H1 env1 v y R1 e1 r1 h1 => ?_
    refine hb.sm N F P S1 bb σ H1 env1 _ x _ R1 h1 (hx.mono e1) fun S2 H2 env2 u z R2 e2 r2 h2 => ?_
    obtain ⟨s1, env3, g1, s2, env4, g2, h3⟩ := h2
    obtain ⟨S3, ds, R3, e3, h4, k1⟩ := as_lst R2 (r1.mono e2.1) g1 h3
    obtain ⟨S4, es, R4, e4, h5, k2⟩ := as_lst R3 (r2.mono e3.1) g2 h4
    obtain ⟨pa, xa, rfl, qa1, _⟩ := k1 S4 H2 e4.1 R4.sh R4.fh
    obtain ⟨pb, xb, rfl, qb1, _⟩ := k2 S4 H2 (Same.refl _) R4.sh R4.fh
    refine ⟨pa, pb, xa, xb, rfl, qa1, qb1, hk S4 H2 env4 _ _ R4 (e1.trans (e2.trans (e3.trans e4))) (fun i S5 H5 s1 s2 s3 => ?_) h5⟩
    obtain ⟨_, x1, z1, q1, r1⟩ := k1 S5 H5 (e4.1.trans s1) s2 s3
    obtain ⟨_, x2, z2, q2, r2⟩ := k2 S5 H5 s1 s2 s3
    cases z1
    cases z2
    exact walk_zip2 q1 q2 r1 r2⟩
/-- the same as a list -/
def fZipL : List D → (D → Prop) → Prop
  | [.lst ds, .lst es], k => k (.lst (zipped ds es))
  | _, _ => False
theorem f_zipL {ds es : List D} {k : D → Prop} : fZipL [.lst ds, .lst es] k = k (.lst (zipped ds es)) := rfl
theorem Rel.grow {F P S H H' : Hp} {bb : Option Addr} {σ : L2.St} {env : En} (R : Rel c F P S bb σ H env) (ts : List Addr) (kp : Same H H') (new : ∀ t ∈ ts, H t = none) (off : ∀ q, H q ≠ none → q ∉ ts → H' q = H q) :
    Rel c F P (fun b => if b ∈ ts then H' b else S b) bb σ H' env ∧ Ext P S (fun b => if b ∈ ts then H' b else S b) := by
  have hS : Same S (fun b => if b ∈ ts then H' b else S b) := fun a u e => by
    have : a ∉ ts := fun hm => by have := R.sh a u e; rw [new a hm] at this; cases this
    show (if a ∈ ts then _ else _) = _
    rw [if_neg this]; exact e
  have sp : ∀ p, H p ≠ none → S p = none → (if p ∈ ts then H' p else S p) = none := fun p h1 h2 => by
    rw [if_neg (fun hm => h1 (new p hm))]; exact h2
  refine ⟨R.to hS (R.ph.trans kp) (fun a u e => ?_) (fun i p d h1 h2 => ?_) (fun p e => ?_), hS, fun a h1 h2 => ?_⟩
  · have e : (if a ∈ ts then H' a else S a) = some u := e
    by_cases hm : a ∈ ts
    · rw [if_pos hm] at e; exact e
    · rw [if_neg hm] at e; exact kp a u (R.sh a u e)
  · obtain ⟨h3, h4, _, h6⟩ := R.ownAt h1 h2
    obtain ⟨o, h7⟩ := h6.some
    have hn : H p ≠ none := fun z => by rw [z] at h7; cases h7
    exact ⟨sp p hn h4, off p hn (fun hm => hn (new p hm))⟩
  · obtain ⟨_, h2, h3⟩ := R.bg p e
    obtain ⟨o, h7⟩ := h3.some
    have hn : H p ≠ none := fun z => by rw [z] at h7; cases h7
    exact ⟨sp p hn h2, h3.mono hS (off p hn (fun hm => hn (new p hm))) (Nat.le_refl _)⟩
  · exact sp a (fun z => h2 (R.ph.free z)) h1
theorem reps_pairs {K : Fg} {S : Hp} : ∀ {ts : List Addr} {xs ys : List V} {ds es : List D}, Paired (fun (t : Addr) (q : V × V) => S t = some (.tup [q.1, q.2])) ts (xs.zip ys) → Reps K S xs ds → Reps K S ys es → Reps K S (ts.map V.ref) (zipped ds es)
  | [], xs, ys, ds, es, h, r1, r2 => by
    have l := h.length
    have e : zipped ds es = [] := List.eq_nil_of_length_eq_zero (by rw [zipped_length, ← r1.length, ← r2.length, ← List.length_zip, ← l]; rfl)
    rw [e]; exact .nil
  | t :: ts, xs, ys, ds, es, h, r1, r2 => by
    cases r1 with
    | nil => rw [List.zip_nil_left] at h; cases h
    | cons a r1 =>
      cases r2 with
      | nil => rw [List.zip_nil_right] at h; cases h
      | cons b r2 =>
        rw [List.zip_cons_cons] at h
        cases h with
        | cons q h => exact .cons (.tup (.inl (.inl q)) (.cons a (.cons b .nil))) (reps_pairs h r1 r2)
theorem qn_listZip (hg : Gl X "list") (hm : X.mg "list" = none) (hg2 : Gl X "zip") (hm2 : X.mg "zip" = none) {q : Pos} (ha : QA X g W [e, e2] tl ql) (hc : X.calm = true := by rfl) (hv : bootBuiltins "list" = some (.type "list") := by decide +kernel)
    (hs : starEach [e, e2] X.env = (false, eval e X.env) :: starEach [e2] X.env := by rfl) (hpl : (backTo q (starEach [e2] X.env)).any (·.1) = false := by rfl)
    (na : starEach [.Call (.Name "zip" p2) [e, e2] [] q] X.env = (false, eval (.Call (.Name "zip" p2) [e, e2] [] q) X.env) :: starEach [] X.env := by rfl) :
    QN X g W (.Call (.Name "list" p) [.Call (.Name "zip" p2) [e, e2] [] q] [] pos) (tListZip X.K tl) (qCBN fZipL ql) :=
  ⟨pe_listZip hc hg hm hv hg2 hm2 ha.pa hs hpl na, fun N F P S bb σ H env k x Q R hq hx hk => by
    refine ha.sm N F P S bb σ H env _ x _ R hq hx fun S1 H1 env1 vs ys R1 e1 r1 h1 => ?_
    obtain ⟨ds, hd, hf⟩ := h1
    have at1 := R1.reads r1 hd
    unfold fZipL at hf
    split at hf
    · rename_i k' d1 d2
      cases at1 with
      | cons a1 at1 =>
        cases at1 with
        | cons a2 at1 =>
          cases at1
          cases a1 with
          | lst h1 q1 =>
            cases a2 with
            | lst h2 q2 =>
              refine ⟨_, _, _, _, rfl, SqL.of h1, SqL.of h2, fun H' p ts kp off hp new hpt hl hpr => ?_⟩
              obtain ⟨hP, hS, hb⟩ := R1.new hp
              have off2 : ∀ q, H1 q ≠ none → q ∉ ts → H' q = H1 q := fun q hq hm => off q (fun z => hq (z ▸ hp)) hm
              obtain ⟨R2, e2⟩ := R1.grow ts kp new off2
              have hS2 : (if p ∈ ts then H' p else S1 p) = none := by rw [if_neg hpt]; exact hS
              have rp : Reps X.K (fun b => if b ∈ ts then H' b else S1 b) (ts.map V.ref) (zipped d1 d2) := by
                refine reps_pairs ?_ (q1.mono e2.1) (q2.mono e2.1)
                have hin : ∀ {l : List Addr} {m : List (V × V)}, (∀ t ∈ l, t ∈ ts) → Paired (fun (t : Addr) (q : V × V) => H' t = some (.tup [q.1, q.2])) l m → Paired (fun (t : Addr) (q : V × V) => (if t ∈ ts then H' t else S1 t) = some (.tup [q.1, q.2])) l m := by
                  intro l m hlm hp
                  induction hp with
                  | nil => exact .nil
                  | cons h t ih => exact .cons (by rw [if_pos (hlm _ List.mem_cons_self)]; exact h) (ih fun t ht => hlm t (List.mem_cons_of_mem _ ht))
                exact hin (fun _ h => h) hpr
              refine hk _ H' env1 (.ref p) (.own (.lst (zipped d1 d2))) R2 (e1.trans e2) ⟨p, rfl, hP, hS2, hb, .lst hl rp⟩ (fun _ _ i e q hq h3 h4 => ?_) hf
              cases hq
              exact R1.notOwn hp i e h3 h4
    · exact hf.elim⟩
end
end Q


set_option Elab.async false
set_option linter.all false
set_option maxRecDepth 100000
set_option maxHeartbeats 2000000
set_option autoImplicit false
/-! Q39: dict of a list of pairs, or of a dict; sorted ints. -/
namespace Q
open PySem PySem.Spec PyProof.Rows L2
def pairD : D → Option (Key × D)
  | .tup [a, b] => (keyD a).map fun k => (k, b)
  | _ => none
def pairsD : List D → Option (List (Key × D))
  | [] => some []
  | d :: ds => (pairD d).bind fun p => (pairsD ds).map fun ps => p :: ps
def mergeD (kvs more : List (Key × D)) : List (Key × D) := more.foldl (fun acc kv => pD acc kv.1 kv.2) kvs
def fDictP : List D → (Rv → Prop) → Prop
  | [.lst ds], k => ∃ kvs, pairsD ds = some kvs ∧ k (.own (.dct (mergeD [] kvs)))
  | [.dct kvs], k => k (.own (.dct kvs))
  | _, _ => False
theorem f_dictP {ds : List D} {k : Rv → Prop} : fDictP [.lst ds] k = ∃ kvs, pairsD ds = some kvs ∧ k (.own (.dct (mergeD [] kvs))) := rfl
theorem f_dictD {kvs : List (Key × D)} {k : Rv → Prop} : fDictP [.dct kvs] k = k (.own (.dct kvs)) := rfl
section
variable {K : Fg} {S H : Hp}
theorem RepK.merge : ∀ {more : List (Key × V)} {mored : List (Key × D)} {kvs : List (Key × V)} {ds : List (Key × D)}, RepK K S more mored → RepK K S kvs ds → RepK K S (mergeK kvs more) (mergeD ds mored)
  | _, _, _, _, .nil, h => h
  | _, _, kvs, ds, .cons (k := k) (v := v) (d := d) a t, h => (RepK.merge t (RepK.put a h) : RepK K S (mergeK (putK kvs k v) _) (mergeD (pD ds k d) _))
theorem rep_key {v : V} {d : D} {k : Key} (r : Rep K S v d) (h : keyD d = some k) : v = kV k := by
  cases d <;> simp [keyD] at h
  · subst h; cases r; rfl
  · subst h; cases r; rfl
theorem reps_pairsD (s : Same S H) : ∀ {vs : List V} {ds : List D} {kvs : List (Key × D)}, Reps K S vs ds → pairsD ds = some kvs → ∃ (ps : List Addr) (kv2 : List (Key × V)), vs = ps.map V.ref ∧ Paired (fun p kv => SqT K H p [kV kv.1, kv.2]) ps kv2 ∧ RepK K S kv2 kvs
  | _, _, _, .nil, h => by cases h; exact ⟨[], [], rfl, .nil, .nil⟩
  | _, _, kvs, .cons (v := v) (d := d) (ds := ds) r rs, h => by
    unfold pairsD at h
    cases e : pairD d with
    | none => rw [e] at h; cases h
    | some q =>
      rw [e] at h
      cases e2 : pairsD ds with
      | none => rw [e2] at h; cases h
      | some qs =>
        rw [e2] at h
        cases h
        obtain ⟨ps, kv2, rfl, hp, hr⟩ := reps_pairsD s rs e2
        cases r with
        | @tup a xs es ht hx =>
          match es, hx, e with
          | [x, y], hx, e =>
            have e : (keyD x).map (fun k => (k, y)) = some q := e
            cases ek : keyD x with
            | none => rw [ek] at e; cases e
            | some k =>
              rw [ek] at e
              cases e
              cases hx with
              | cons hx1 hx =>
                cases hx with
                | cons hx2 hx =>
                  cases hx
                  have := rep_key hx1 ek
                  subst this
                  exact ⟨a :: ps, (k, _) :: kv2, rfl, .cons (Same.sqt s ht) hp, .cons hx2 hr⟩
        | _ => cases e
theorem c_dictP : CbR K (fun xs H Q => (∃ (a : Addr) (ps : List Addr) (kvs : List (Key × V)), xs = [.ref a] ∧ SqL K H a (ps.map V.ref) ∧ Paired (fun p kv => SqT K H p [kV kv.1, kv.2]) ps kvs ∧ ∀ p, H p = none → Q (.ref p) (upd H p (.dK (mergeK [] kvs)))) ∨
    ∃ (a : Addr) (kvs : List (Key × V)), xs = [.ref a] ∧ Rd H a (.dK kvs) ∧ ∀ p, H p = none → Q (.ref p) (upd H p (.dK kvs))) fDictP := by
  intro S H vs ds k Q s a hf o
  unfold fDictP at hf
  split at hf
  · obtain ⟨kvs, hk, q⟩ := hf
    obtain ⟨v, rfl, a1⟩ := ats1 a
    cases a1 with
    | lst h r =>
      obtain ⟨ps, kv2, rfl, hp, hr⟩ := reps_pairsD s r hk
      exact .inl ⟨_, ps, kv2, rfl, SqL.of h, hp, fun p hp => o.new p _ _ hp (.dct upd_same (RepK.merge hr .nil)) q⟩
  · obtain ⟨v, rfl, a1⟩ := ats1 a
    cases a1 with
    | dct h r => exact .inr ⟨_, _, rfl, h, fun p hp => o.new p _ _ hp (.dct upd_same r) hf⟩
  · exact hf.elim
theorem call_dict {X : Cx} (hc : X.calm = true) : CallR X (.type "dict") (fun xs H Q => (∃ (a : Addr) (ps : List Addr) (kvs : List (Key × V)), xs = [.ref a] ∧ SqL X.K H a (ps.map V.ref) ∧ Paired (fun p kv => SqT X.K H p [kV kv.1, kv.2]) ps kvs ∧ ∀ p, H p = none → Q (.ref p) (upd H p (.dK (mergeK [] kvs)))) ∨
    ∃ (a : Addr) (kvs : List (Key × V)), xs = [.ref a] ∧ Rd H a (.dK kvs) ∧ ∀ p, H p = none → Q (.ref p) (upd H p (.dK kvs))) := by
  intro pins s σ H xs us Q I r q
  rcases q with q | q
  · exact call_dictP hc pins s σ H xs us Q I r q
  · exact call_dictD pins s σ H xs us Q I r q
/-! sorted ints -/
def fSortI : List D → (Rv → Prop) → Prop
  | [.lst ds], k => ∃ ns : List Int, ds = ns.map .int ∧ ∀ ns' : List Int, ns'.Perm ns → ns'.Pairwise (· ≤ ·) → k (.own (.lst (ns'.map .int)))
  | _, _ => False
theorem f_sortI {ns : List Int} {k : Rv → Prop} : fSortI [.lst (ns.map .int)] k = ∀ ns' : List Int, ns'.Perm ns → ns'.Pairwise (· ≤ ·) → k (.own (.lst (ns'.map .int))) := propext ⟨fun ⟨ms, e, h⟩ => by
  have e := (List.map_inj_right (fun a b h => by cases h; rfl)).mp e
  subst e; exact h, fun h => ⟨ns, rfl, h⟩⟩
theorem c_sortI : CbR K (rSortedI K) fSortI := by
  intro S H vs ds k Q s a hf o
  unfold fSortI at hf
  split at hf
  · obtain ⟨ns, rfl, q⟩ := hf
    obtain ⟨v, rfl, a1⟩ := ats1 a
    cases a1 with
    | lst h r =>
      have := r.ints
      subst this
      exact ⟨_, ns, rfl, SqL.of h, fun ns' p h1 h2 hp => o.new p _ _ hp (.lst upd_same (Reps.of_ints ns')) (q ns' h1 h2)⟩
  · exact hf.elim
end
end Q


set_option Elab.async false
set_option linter.all false
set_option maxRecDepth 100000
set_option maxHeartbeats 2000000
set_option autoImplicit false
/-! Q40: signs replaced. -/
namespace Q
open PySem PySem.Spec PyProof.Rows L2
def replI (ns : List Int) (p : Nat) (s : Int) : List Int := dist ((idsD ns).take p ++ [s] ++ (idsD ns).drop (p + 1))
theorem Alike.snoc {α β : Type} {N : List α} {L : List β} {a : α} {b : β} (h : Alike N L) (hs : ∀ j, j < N.length → (N[j]? = some a ↔ L[j]? = some b)) : Alike (N ++ [a]) (L ++ [b]) := by
  have hl := h.1
  refine ⟨by rw [List.length_append, List.length_append, hl]; rfl, fun i j hi hj => ?_⟩
  rw [List.length_append, List.length_singleton] at hi hj
  have at_ : ∀ {γ : Type} {M : List γ} {c : γ} {n : Nat}, n = M.length → (M ++ [c])[n]? = some c := fun {γ M c n} e => by rw [e, List.getElem?_append_right (Nat.le_refl _), Nat.sub_self]; rfl
  rcases Nat.lt_or_ge i N.length with g | g
  · rw [List.getElem?_append_left (l₁ := N) g, List.getElem?_append_left (l₁ := L) (show i < L.length by omega)]
    rcases Nat.lt_or_ge j N.length with g2 | g2
    · rw [List.getElem?_append_left (l₁ := N) g2, List.getElem?_append_left (l₁ := L) (show j < L.length by omega)]
      exact h.2 i j g g2
    · rw [at_ (show j = N.length by omega), at_ (show j = L.length by omega)]
      exact hs i g
  · rw [at_ (show i = N.length by omega), at_ (show i = L.length by omega)]
    rcases Nat.lt_or_ge j N.length with g2 | g2
    · rw [List.getElem?_append_left (l₁ := N) g2, List.getElem?_append_left (l₁ := L) (show j < L.length by omega)]
      exact ⟨fun e => ((hs j g2).mp e.symm).symm, fun e => ((hs j g2).mpr e.symm).symm⟩
    · rw [at_ (show j = N.length by omega), at_ (show j = L.length by omega)]
      exact ⟨fun _ => rfl, fun _ => rfl⟩
theorem ins_get {α : Type} (M : List α) (c : α) {p : Nat} (hp : p ≤ M.length) (i : Nat) (hi : i ≤ M.length) : (M.take p ++ [c] ++ M.drop p)[i]? = (M ++ [c])[if i < p then i else if i = p then M.length else i - 1]? := by
  have lt : (M.take p).length = p := by rw [List.length_take]; omega
  by_cases h1 : i < p
  · rw [if_pos h1, List.append_assoc, List.getElem?_append_left (by omega), List.getElem?_take_of_lt h1, List.getElem?_append_left (by omega)]
  · rw [if_neg h1, List.append_assoc, List.getElem?_append_right (by omega), lt]
    by_cases h2 : i = p
    · subst h2
      rw [if_pos rfl, Nat.sub_self, List.getElem?_append_right (Nat.le_refl _), Nat.sub_self]; rfl
    · rw [if_neg h2, List.getElem?_append_right (by simp; omega), List.length_singleton, List.getElem?_drop]
      rw [List.getElem?_append_left (l₁ := M) (show i - 1 < M.length by omega)]; congr 1; omega
theorem Alike.insert {α β : Type} {N : List α} {L : List β} {a : α} {b : β} (h : Alike N L) (hs : ∀ j, j < N.length → (N[j]? = some a ↔ L[j]? = some b)) {p : Nat} (hp : p ≤ N.length) :
    Alike (N.take p ++ [a] ++ N.drop p) (L.take p ++ [b] ++ L.drop p) := by
  have hl := h.1
  have h2 := h.snoc hs
  refine h2.pick (fun i => if i < p then i else if i = p then N.length else i - 1) (fun i hi => ⟨?_, ins_get N a hp i (by simp only [List.length_append, List.length_take, List.length_drop, List.length_singleton] at hi; omega)⟩) (fun i hi => ?_) ?_
  · simp only [List.length_append, List.length_take, List.length_drop, List.length_singleton] at hi ⊢
    split
    · omega
    · split <;> omega
  · rw [ins_get L b (by omega) i (by simp only [List.length_append, List.length_take, List.length_drop, List.length_singleton] at hi; omega), hl]
  · simp only [List.length_append, List.length_take, List.length_drop, List.length_singleton]
    omega
/-- a sign's number in the text, or the next free one -/
def laterI (L : List Int) (s : Int) : Int := if s ∈ L then (idsD (dist L)).getD (L.idxOf s) 0 else zc (dist L)
theorem later_alike (L : List Int) (s : Int) {p : Nat} (hp : p ≤ L.length) : Alike ((idsD (dist L)).take p ++ [laterI L s] ++ (idsD (dist L)).drop p) (L.take p ++ [s] ++ L.drop p) := by
  have hN : (idsD (dist L)).length = L.length := by rw [idsD_length, dist_length]
  refine (ids_alike L).insert (fun j hj => ?_) (by omega)
  unfold laterI
  by_cases hs : s ∈ L
  · rw [if_pos hs]
    have h1 := List.idxOf_lt_length_of_mem hs
    have h2 : L[L.idxOf s]? = some s := by rw [List.getElem?_eq_getElem h1, List.getElem_idxOf]
    have h3 := (ids_alike L).2 j (L.idxOf s) hj (by omega)
    rw [h2] at h3
    rw [← h3, List.getD_eq_getElem?_getD]
    obtain ⟨v, hv⟩ : ∃ v, (idsD (dist L))[L.idxOf s]? = some v := ⟨_, List.getElem?_eq_getElem (by omega)⟩
    rw [hv]; rfl
  · rw [if_neg hs]
    refine ⟨fun e => ?_, fun e => absurd (List.mem_of_getElem? e) hs⟩
    have := ids_lt L (List.mem_of_getElem? e)
    omega
theorem repl_insert {I : List Int} {p : Nat} (hp : p < I.length) (s : Int) : dist ((idsD (dist (I.take p ++ I.drop (p + 1)))).take p ++ [laterI (I.take p ++ I.drop (p + 1)) s] ++ (idsD (dist (I.take p ++ I.drop (p + 1)))).drop p) = dist (I.take p ++ [s] ++ I.drop (p + 1)) := by
  have lt : (I.take p).length = p := by rw [List.length_take]; omega
  rw [(later_alike _ s (by rw [List.length_append, lt]; omega)).dist]
  rw [List.take_left' lt, List.drop_left' lt]
theorem repl_same {I : List Int} {p : Nat} {s : Int} (h : I[p]? = some s) : I.take p ++ [s] ++ I.drop (p + 1) = I := by
  have hp : p < I.length := (List.getElem?_eq_some_iff.mp h).1
  have e : I[p] = s := by rw [List.getElem?_eq_getElem hp] at h; exact Option.some.inj h
  rw [List.append_assoc, ← e]
  show I.take p ++ (I[p] :: I.drop (p + 1)) = I
  rw [List.getElem_cons_drop, List.take_append_drop]
/-! a dict of pairs, looked up -/
theorem vD_merge {k : Key} {d0 : D} : ∀ (more : List (Key × D)) (kvs : List (Key × D)), (∀ p ∈ more, p.1 = k → p.2 = d0) → vD (mergeD kvs more) k = if (more.any fun p => decide (p.1 = k)) = true then some d0 else vD kvs k
  | [], kvs, _ => rfl
  | p :: more, kvs, h => by
    show vD (mergeD (pD kvs p.1 p.2) more) k = _
    rw [vD_merge more _ fun q hq => h q (List.mem_cons_of_mem _ hq), List.any_cons]
    by_cases e : p.1 = k
    · rw [decide_eq_true e, Bool.true_or, if_pos rfl]
      split
      · rfl
      · rw [e, vD_put, if_pos rfl, h p List.mem_cons_self e]
    · rw [decide_eq_false e, Bool.false_or]
      split
      · rfl
      · rw [vD_put, if_neg (fun z => e z.symm)]
theorem pairs_zip (xs ys : List Int) : pairsD (zipped (xs.map .int) (ys.map .int)) = some ((xs.zip ys).map fun p => ((Sum.inl p.1 : Key), D.int p.2)) := by
  have : ∀ l : List (Int × Int), pairsD (l.map fun p => .tup [.int p.1, .int p.2]) = some (l.map fun p => ((Sum.inl p.1 : Key), D.int p.2)) := by
    intro l
    induction l with
    | nil => rfl
    | cons p l ih => rw [List.map_cons, List.map_cons]; unfold pairsD; rw [ih]; rfl
  unfold zipped
  rw [← this, List.zip_map, List.map_map]; rfl
theorem later_dict (L : List Int) (s : Int) : (vD (mergeD [] ((L.zip (idsD (dist L))).map fun p => ((Sum.inl p.1 : Key), D.int p.2))) (.inl s)).getD (.int (zc (dist L))) = .int (laterI L s) := by
  have hN : (idsD (dist L)).length = L.length := by rw [idsD_length, dist_length]
  unfold laterI
  rw [vD_merge (d0 := .int ((idsD (dist L)).getD (L.idxOf s) 0)) _ _ fun q hq hk => ?_]
  · by_cases hs : s ∈ L
    · rw [if_pos hs, if_pos]
      · rfl
      · rw [List.any_eq_true]
        obtain ⟨i, hi⟩ := List.mem_iff_getElem?.mp hs
        have hil := (List.getElem?_eq_some_iff.mp hi).1
        refine ⟨(.inl s, .int ((idsD (dist L))[i]'(by omega))), List.mem_map.mpr ⟨(s, (idsD (dist L))[i]'(by omega)), ?_, rfl⟩, by simp⟩
        exact List.mem_iff_getElem?.mpr ⟨i, List.getElem?_zip_eq_some.mpr ⟨hi, List.getElem?_eq_getElem (by omega)⟩⟩
    · rw [if_neg hs, if_neg]
      · rfl
      · rw [List.any_eq_true]
        rintro ⟨q, hq, hk⟩
        obtain ⟨r, hr, rfl⟩ := List.mem_map.mp hq
        have hk : (Sum.inl r.1 : Key) = .inl s := of_decide_eq_true hk
        cases hk
        exact hs (List.of_mem_zip hr).1
  · obtain ⟨r, hr, rfl⟩ := List.mem_map.mp hq
    have hk : (Sum.inl r.1 : Key) = .inl s := hk
    cases hk
    obtain ⟨i, hi⟩ := List.mem_iff_getElem?.mp hr
    obtain ⟨h1, h2⟩ := List.getElem?_zip_eq_some.mp hi
    have hil := (List.getElem?_eq_some_iff.mp h1).1
    have hs := List.mem_of_getElem? h1
    have h3 := List.idxOf_lt_length_of_mem hs
    have h4 : L[L.idxOf r.1]? = some r.1 := by rw [List.getElem?_eq_getElem h3, List.getElem_idxOf]
    have h5 := ((ids_alike L).2 i (L.idxOf r.1) (by omega) (by omega)).mpr (h1.trans h4.symm)
    show D.int r.2 = _
    rw [List.getD_eq_getElem?_getD, ← h5, h2]; rfl
end Q


set_option Elab.async false
set_option linter.all false
set_option maxRecDepth 100000
set_option maxHeartbeats 2000000
set_option autoImplicit false
/-! Q41: {i: j}; showing dicts. -/
namespace Q
open PySem PySem.Spec PyProof.Rows L2
section
variable {X : Cx} {g : Gd} {W : WX} {pos p1 p2 : Pos}
def qDct1 (i j : Int) : TNq := fun env k _ => k (.own (.dct [(.inl i, .int j)])) env
theorem e_dct1 {i j : Int} {env : En} {k : Rv → En → Prop} {x : XQ} : qDct1 i j env k x = k (.own (.dct [(.inl i, .int j)])) env := rfl
theorem qn_dct1 {i j : Int} {a b : Nat} : QN X g W (.Dict [some (.Constant (.int i) a p1)] [.Constant (.int j) b p2] pos) (tDisp [(tC (.int i), tC (.int j))]) (qDct1 i j) :=
  ⟨pe_disp (pps_cons pe_int pe_int pps_nil) rfl rfl (by simp) (by simp), fun N F P S b σ H env k x Q R hq _ hk => by
  intro p hp
  refine ⟨upd_same, [(.inl i, .int j)], rfl, by simp, ?_⟩
  rw [L2.upd_upd]
  exact own_new R hp (.dct upd_same (.cons (.int j) .nil)) hk hq⟩
end
theorem shw_dct0 : Shw (.dct []) 1 5 := ⟨rfl, by decide +kernel, by decide +kernel, by decide +kernel⟩
theorem shw_dct00 : Shw (.dct [(.inl 0, .int 0)]) 1 8 := ⟨rfl, by decide +kernel, by decide +kernel, by decide +kernel⟩
end Q


set_option Elab.async false
set_option linter.all false
set_option maxRecDepth 100000
set_option maxHeartbeats 2000000
set_option autoImplicit false
/-! Q42: a distance list judged by its targets. -/
namespace Q
open PySem PySem.Spec PyProof.Rows L2
theorem numbered_snoc (ds : List D) (e : D) : ∀ m : Nat, numbered m (ds ++ [e]) = numbered m ds ++ [.tup [.int ((m + ds.length : Nat) : Int), e]] := by
  induction ds with
  | nil => intro m; rfl
  | cons d ds ih =>
    intro m
    show D.tup _ :: numbered (m + 1) (ds ++ [e]) = D.tup _ :: (numbered (m + 1) ds ++ _)
    rw [ih, List.length_cons, show m + 1 + ds.length = m + (ds.length + 1) by omega]
theorem tgs_snoc (ds : List D) (e : D) : tgs (ds ++ [e]) = tgs ds ++ if toI e > 0 then [(ds.length : Int) - toI e] else [] := by
  unfold tgs
  rw [numbered_snoc, List.filter_append, List.map_append]
  congr 1
  by_cases h : toI e > 0
  · rw [if_pos h, List.filter_cons, if_pos (by rw [prB_e]; exact decide_eq_true h), List.filter_nil, List.map_cons, prI_e, Nat.zero_add]; rfl
  · rw [if_neg h, List.filter_cons, if_neg (by rw [prB_e]; simpa using h), List.filter_nil]; rfl
theorem okE_iff {ds : List D} : okE ds = true ↔ ∀ (n : Nat) (e : D), ds[n]? = some e → intIn 0 (.int n) e = true := by
  unfold okE
  rw [numbered_all]
theorem dd_nodup2 (u : List Int) : (dd u).Nodup := by
  have : ∀ l : List Int, (dd l.reverse).Nodup := by
    intro l
    induction l with
    | nil => exact List.nodup_nil
    | cons x l ih =>
      rw [List.reverse_cons, dd_snoc]
      split
      · exact ih
      · rename_i h
        exact List.nodup_append.mpr ⟨ih, List.nodup_cons.mpr ⟨List.not_mem_nil, List.nodup_nil⟩, fun a ha b hb e => h (by rw [List.mem_singleton] at hb; rw [← hb, ← e]; exact ha)⟩
  have := this u.reverse
  rwa [List.reverse_reverse] at this
theorem sorted_len {u ns : List Int} (h1 : ns.Pairwise (· < ·)) (h2 : ∀ k : Int, k ∈ ns ↔ k ∈ u) : ns.length = (dd u).length := by
  have n1 : ns.Nodup := h1.imp fun h => Int.ne_of_lt h
  have p : ns.Perm (dd u) := (List.perm_ext_iff_of_nodup n1 (dd_nodup2 u)).mpr fun k => by rw [h2, dd_mem]
  exact p.length_eq
theorem f_eqNN {k : D → Prop} : fEq (.lst []) (.lst []) k = k (.bl true) := f_eqIL (a := []) (b := [])
theorem e_sortSet {q : TEq} {env : En} {k : Rv → En → Prop} {x : XQ} : qSortSet q env k x = q env (fun y env1 => rd env1 y (dL fun l => ∃ ns : List Int, l = ns.map .int ∧ ns.length ≤ 4000 ∧ ∀ ns' : List Int, ns'.Pairwise (· < ·) → (∀ k : Int, k ∈ ns' ↔ k ∈ ns) → hold (fun r => k r env1) .mk (.own (.lst (ns'.map .int))))) x := by
  unfold qSortSet
  congr
  funext y env1
  apply propext
  constructor
  · rintro ⟨ns, h1, h2, q⟩
    exact ⟨_, h1, ns, rfl, h2, q⟩
  · rintro ⟨d, h1, q⟩
    cases d <;> first | exact False.elim q | skip
    obtain ⟨ns, rfl, h2, q⟩ := q
    exact ⟨ns, h1, h2, q⟩
end Q


set_option Elab.async false
set_option linter.all false
set_option maxRecDepth 100000
set_option maxHeartbeats 2000000
/-! Q43: len(set(texts)), any number of them. -/
def ddA {α : Type} [DecidableEq α] (xs : List α) : List α := xs.foldl (fun acc x => if x ∈ acc then acc else acc ++ [x]) []
theorem ddA_snoc {α : Type} [DecidableEq α] (xs : List α) (x : α) : ddA (xs ++ [x]) = if x ∈ ddA xs then ddA xs else ddA xs ++ [x] := by
  unfold ddA
  rw [List.foldl_append]; rfl
theorem ddA_mem {α : Type} [DecidableEq α] (xs : List α) (y : α) : y ∈ ddA xs ↔ y ∈ xs := by
  have : ∀ l : List α, y ∈ ddA l.reverse ↔ y ∈ l.reverse := by
    intro l
    induction l with
    | nil => exact Iff.rfl
    | cons x l ih =>
      rw [List.reverse_cons, ddA_snoc, List.mem_append, List.mem_singleton]
      split
      · rename_i h
        rw [ih]
        refine ⟨.inl, fun z => z.elim id fun e => ?_⟩
        rw [← ih, e]; exact h
      · rw [List.mem_append, List.mem_singleton, ih]
  have := this xs.reverse
  rwa [List.reverse_reverse] at this
theorem ddA_le {α : Type} [DecidableEq α] (xs : List α) : (ddA xs).length ≤ xs.length := by
  have : ∀ l : List α, (ddA l.reverse).length ≤ l.length := by
    intro l
    induction l with
    | nil => exact Nat.le_refl _
    | cons x l ih =>
      rw [List.reverse_cons, ddA_snoc, List.length_cons]
      split
      · omega
      · rw [List.length_append, List.length_singleton]; omega
  have := this xs.reverse
  rwa [List.reverse_reverse, List.length_reverse] at this
namespace SSq
open PySem PySem.Spec PyProof.Rows

theorem strs_at : ∀ {us : List Value} {xs : List Str}, StrsAre us xs → ∀ (i : Nat) (v : Value), us[i]? = some v → ∃ t, v = .str (xs.getD i Str.empty) t
  | _, _, .nil, i, v, h => by simp at h
  | _, _, .cons n t hr, 0, v, h => by simp at h; exact ⟨t, by rw [← h] <;> rfl⟩
  | _, _, .cons n t hr, i + 1, v, h => by
    simp only [List.getElem?_cons_succ] at h
    obtain ⟨t', e⟩ := strs_at hr i v h
    exact ⟨t', by rw [e] <;> rfl⟩

section
variable {prog : Program} {w : World} {A : Around} {R : Result → Shared → Prop} {I : Addr} {fp wr : List Addr} {G : Array GenState → Array GenState → Prop} {n : Nat} {P : Nat → Value → Prop} {St : Nat → Shared → Prop}
theorem loopStr (W : WalksS prog w A.in1 I fp wr G n P St) (S : Addr) (hSf : S ∉ fp) (xs : List Str) (hsz : xs.length = n) (hn1 : n + 1 < scanBound)
    (hval : ∀ i v, P i v → ∃ t, v = .str (xs.getD i Str.empty) t) :
    ∀ (k i : Nat) (s : Shared), n - i = k → i ≤ n → St i s →
      s.heap.SetOf (PySem.strKind prog w) S (fun k' => (xs.take i).any (· == k')) (ddA (xs.take i)).length →
      (∀ s', Moved (S :: wr) G s s' → s'.heap.SetOf (PySem.strKind prog w) S (fun k' => (xs.take n).any (· == k')) (ddA (xs.take n)).length → R (.ok (.ret .none)) s') →
      codeAny (model prog w) A (.builtin "set.update.loop" ⟨[.ref S, .ref I], []⟩) R s := by
  have hSw : S ∉ wr := fun h => hSf (W.sub _ h)
  have hsub : ∀ b ∈ wr, b ∈ S :: wr := fun b hb => List.mem_cons_of_mem _ hb
  intro k
  induction k with
  | zero =>
    intro i s hk hi hst hS hR
    have hin : i = n := by omega
    subst hin
    refine codeAny_builtin PyProof.Rows.F.entry_set_update_loop ?_
    rw [Around.under_plainId PyProof.Rows.F.plain_set_update_loop _]
    show wpAny _ A.in1 (pyNext (.ref I) >>= _) _ _ s
    refine wpAny_bind (W.done s _ _ hst fun s' hm => ?_)
    show wpAny _ A.in1 (ret Value.none) _ _ s'
    exact wpAny_pure (hR s' (hm.mono hsub) (by
      obtain ⟨o, es, ep, t, ho, rest⟩ := hS
      exact ⟨o, es, ep, t, hm.heap S _ hSw ho, rest⟩))
  | succ k ih =>
    intro i s hk hi hst hS hR
    have hlt : i < n := by omega
    refine codeAny_builtin PyProof.Rows.F.entry_set_update_loop ?_
    rw [Around.under_plainId PyProof.Rows.F.plain_set_update_loop _]
    show wpAny _ A.in1 (pyNext (.ref I) >>= _) _ _ s
    refine wpAny_bind (W.item i s _ _ hlt hst fun v s' hP hst' hm => ?_)
    obtain ⟨t, rfl⟩ := hval i v hP
    have hS' : s'.heap.SetOf (PySem.strKind prog w) S (fun k' => (xs.take i).any (· == k')) (ddA (xs.take i)).length := by
      obtain ⟨o, es, ep, tb, ho, rest⟩ := hS
      exact ⟨o, es, ep, tb, hm.heap S _ hSw ho, rest⟩
    show wpAny _ A.in1 (holding [Value.str (xs.getD i Str.empty) t] (setAdd S (.str (xs.getD i Str.empty) t)) >>= _) _ _ s'
    refine wpAny_bind (wpAny_holding ?_)
    unfold setAdd
    refine wpAny_holding ?_
    refine wpAny_bind ((PySem.strKind prog w).pyHash (k := xs.getD i Str.empty) (strKind_is _ _ _ _) ?_)
    refine wpAny_setAddHashed_of (knd := PySem.strKind prog w) (s := { s' with toks := s'.toks + 1 }) (strKind_is _ _ _ _) rfl hS' (by have := ddA_le (xs.take i); have := List.length_take_le i xs; omega) fun h' hsb hS2 => ?_
    have hxi : xs[i]? = some (xs.getD i Str.empty) := by
      rw [List.getD_eq_getElem?_getD, List.getElem?_eq_getElem (show i < xs.length by omega)]; rfl
    have htk : xs.take (i + 1) = xs.take i ++ [xs.getD i Str.empty] := by rw [List.take_add_one, hxi]; rfl
    generalize xs.getD i Str.empty = y at hxi htk hS2
    have hSi : h'.SetOf (PySem.strKind prog w) S (fun k' => (xs.take (i + 1)).any (· == k')) (ddA (xs.take (i + 1))).length := by
      refine SetOf_congr hS2 (fun k' => ?_) ?_
      · rw [htk, List.any_append]
        show (_ || decide (k' = _)) = (_ || ([y].any (· == k')))
        congr 1
        by_cases e : k' = y
        · subst e; simp
        · have e3 : ¬ y = k' := fun h' => e h'.symm
          simp [e, e3]
      · rw [htk, ddA_snoc]
        by_cases e : y ∈ xs.take i
        · have e2 : (xs.take i).any (· == y) = true := List.any_eq_true.mpr ⟨_, e, by simp⟩
          rw [if_pos ((ddA_mem _ _).mpr e)]
          simp [e2]
        · have e2 : (xs.take i).any (· == y) = false := by
            rw [Bool.eq_false_iff]
            intro h
            obtain ⟨z, hz, hq⟩ := List.any_eq_true.mp h
            have : z = y := by simpa using hq
            exact e (this ▸ hz)
          rw [if_neg (fun h => e ((ddA_mem _ _).mp h)), List.length_append, List.length_singleton]
          simp [e2]
    refine wpAny_pure ⟨plainId_quiet PyProof.Rows.F.plain_set_update_loop _, ih (i + 1) _ (by omega) hlt (W.frame _ s' _ _ hst' (Nat.le_succ _) fun b hb o e => ?_) hSi fun s'' hm'' hS'' => ?_⟩
    · rw [hsb.2 b (fun h : b = S => hSf (by rw [← h]; exact hb))]; exact e
    · refine hR s'' (Moved.trans W.gtrans ((hm.mono hsub).then_heap (Nat.le_succ _) fun b o hb e => ?_) hm'') hS''
      rw [hsb.2 b (fun h : b = S => hb (by rw [h]; exact List.mem_cons_self))]; exact e
end

section
variable {prog : Program} {w : World} {A : Around} {E : Value → Shared → Prop} {s : Shared}
set_option maxHeartbeats 3200000 in
theorem call_set_listS {l : Addr} {items : Array Value} {xs : List Str} {Q : Value → Shared → Prop}
    (hh : A.handled = none) (hl : s.heap.IsList l items) (hi : PyProof.Rows.StrsAre items.toList xs) (hn1 : xs.length + 1 < scanBound)
    (h : ∀ (h' : Heap) (tk : Nat), h'.SetOf (PySem.strKind prog w) s.heap.objs.size (fun k' => (xs.take items.size).any (· == k')) (ddA (xs.take items.size)).length →
      (∀ b o, b < s.heap.objs.size → s.heap.get? b = some o → h'.get? b = some o) → Q (.ref s.heap.objs.size) { s with heap := h', toks := tk }) :
    wpAny (model prog w) A (call (.type "set") [.ref l]) Q E s := by
  obtain ⟨c, tl, hmro⟩ := PySem.F.called_set.mro
  have hmade := PySem.F.called_set.made
  have hsub := PySem.F.called_set.sub
  refine wpAny_call (codeAny_of_tree ?_)
  show wpAny _ _ (callAny (.type "set") _) _ _ _
  refine wpAny_pure ⟨Code.quiet_builtin _ (by decide +kernel), codeAny_builtin PySem.F.entry_type_call ?_⟩
  rw [Around.under_plain (weight_type_call_type "set" [.ref l] []) rfl]
  have h1 := PySem.F.called_set.notType
  have h2 := PySem.F.called_set.canCreate
  have hct := PySem.F.typeCall_set_1 (.ref l)
  repeat (any_goals (first | assumption | wp_step))

  refine codeAny_mono (code_set_new_1 (.ref l) (E := E) (Q₁ := fun obj s₁ => ∃ led : Bool, obj = .ref s.heap.objs.size ∧ s₁ = { s with heap := s.heap.push { cls := .type "set", dict := none, data := .set #[] 0 (.fresh 0 0 led) } }) fun led => ⟨led, rfl, rfl⟩) fun r s₁ hr => ?_
  cases r with
  | error e => exact hr
  | ok fl =>
    cases fl with
    | ret obj =>
      obtain ⟨led, rfl, rfl⟩ := hr
      have hS : (s.heap.push { cls := .type "set", dict := none, data := .set #[] 0 (.fresh 0 0 led) }).get? s.heap.objs.size = some { cls := .type "set", dict := none, data := .set #[] 0 (.fresh 0 0 led) } := Heap.get?_push_size _ rfl
      have hT : Shared.TypeIs { s with heap := s.heap.push { cls := .type "set", dict := none, data := .set #[] 0 (.fresh 0 0 led) } } (.ref s.heap.objs.size) "set" := ⟨_, hS, rfl⟩
      have hli := PySem.F.called_set.init.lookup
      have hbi := PySem.F.called_set.init.bind (.ref s.heap.objs.size)
      repeat (any_goals (first | assumption | wp_step))

      refine codeAny_mono (codeAny_call_builtin (R := wants (fun r s₂ => r = .none ∧ ∃ h' tk, s₂ = { s with heap := h', toks := tk } ∧
          h'.SetOf (PySem.strKind prog w) s.heap.objs.size (fun k' => (xs.take items.size).any (· == k')) (ddA (xs.take items.size)).length ∧
          (∀ b o, b < s.heap.objs.size → s.heap.get? b = some o → h'.get? b = some o)) E) PySem.F.called_set.init.plain PySem.F.entry_set_init (check_set_init_1 hT ?_)) fun r₂ s₂ hr₂ => ?_
      · obtain ⟨ol, hol, hcl, nl, hdl⟩ := hl
        obtain ⟨ocls, odict, odata, oslots⟩ := ol
        simp only at hcl hdl
        subst hcl; subst hdl
        have hol' : (s.heap.push { cls := .type "set", dict := none, data := .set #[] 0 (.fresh 0 0 led) }).get? l = some { cls := .type "list", dict := odict, data := .seq items nl, slots := oslots } := Heap.get?_push_of_some _ hol
        have hsls := PySem.F.sub_list_set
        have hslf := PySem.F.sub_list_frozenset
        have hne : (Value.type "list" == Value.type "dict") = false := by decide
        have hl1 : (s.heap.push { cls := .type "set", dict := none, data := .set #[] 0 (.fresh 0 0 led) }).IsList l items := ⟨_, hol', rfl, nl, rfl⟩
        unfold Builtin.«set.__init__» noKeywords Builtin.Frozenset.updateFrom
        generalize hPI : pyIter = PI
        wp_walk
        subst hPI

        refine wpAny_pyIter_list hl1 ?_
        refine wpAny_bind (wpAny_runValue ?_)
        have hlS : l < s.heap.objs.size := Heap.lt_size hol
        have hh3 : A.in1.in1.in1.handled = none := by simp [hh]
        have hneI : l ≠ (s.heap.push { cls := .type "set", dict := none, data := .set #[] 0 (.fresh 0 0 led) }).objs.size := by
          rw [Heap.size_push]; exact Nat.ne_of_lt (Nat.lt_succ_of_lt hlS)
        have hSf : s.heap.objs.size ∉ [(s.heap.push { cls := .type "set", dict := none, data := .set #[] 0 (.fresh 0 0 led) }).objs.size, l] := by
          rw [Heap.size_push]; simp only [List.mem_cons, List.mem_singleton, List.not_mem_nil, or_false, not_or]
          exact ⟨Nat.ne_of_lt (Nat.lt_succ_self _), Nat.ne_of_gt hlS⟩
        have hsz : xs.length = items.size := by rw [← StrsAre.len_eq hi, Array.length_toList]
        have hval : ∀ (i : Nat) (v : Value), items[i]? = some v → ∃ t, v = .str (xs.getD i Str.empty) t := fun i v hv => strs_at hi i v (by rw [Array.getElem?_toList]; exact hv)
        refine loopStr ((Walks.list hh3 _ l hneI items).toS) s.heap.objs.size
          hSf xs hsz (by rw [← hsz]; exact hn1) hval (items.size - 0) 0 _ (by omega) (Nat.zero_le _)
          ⟨⟨_, Heap.get?_push_size _ rfl, rfl, rfl⟩, (hl1.push _)⟩ ?hS0 ?hR
        case hS0 =>
          have hget : ((s.heap.push { cls := .type "set", dict := none, data := .set #[] 0 (.fresh 0 0 led) }).push { cls := .type "list_iterator", data := .fields #[.ref l, .int 0 0] }).get? s.heap.objs.size
              = some { cls := .type "set", dict := none, data := .set #[] 0 (.fresh 0 0 led) } := Heap.get?_push_of_some _ hS
          exact PyProof.Rows.SetOf_congr ((PyProof.Rows.setObjOf_fresh (knd := PySem.strKind prog w) led).setOf hget (by unfold scanBound; omega)) (fun _ => rfl) rfl
        case hR =>
          intro s' hm hS'
          obtain ⟨h', g', d', tk', os'⟩ := s'
          have eg : g' = s.gens := hm.gens
          have ed : d' = s.drawn := hm.drawn
          have eo : os' = s.os := hm.os
          subst eg; subst ed; subst eo
          show wpAny _ _ _ _ _ _
          refine wpAny_pure ?_
          show wpAny _ _ (ret Value.none) _ _ _
          refine wpAny_pure ⟨rfl, h', tk', rfl, hS', fun b o hb e => ?_⟩
          have hb1 : b ≠ s.heap.objs.size := Nat.ne_of_lt hb
          have hb2 : b ≠ (s.heap.push { cls := .type "set", dict := none, data := .set #[] 0 (.fresh 0 0 led) }).objs.size := by
            rw [Heap.size_push]; exact Nat.ne_of_lt (Nat.lt_succ_of_lt hb)
          exact hm.heap b o (by simp only [List.mem_cons, List.mem_singleton, List.not_mem_nil, or_false, not_or]; exact ⟨hb1, hb2⟩) (Heap.get?_push_of_some _ (Heap.get?_push_of_some _ e))

      · cases r₂ with
        | error e => exact hr₂
        | ok fl₂ =>
          cases fl₂ with
          | ret r =>
            obtain ⟨rfl, h', tk, rfl, hS', hk'⟩ := hr₂
            repeat (any_goals (first | assumption | wp_step))
            exact h _ _ hS' hk'
          | _ => exact hr₂.elim
    | _ => exact hr.elim

set_option maxHeartbeats 3200000 in
theorem call_set_tupleS {l : Addr} {items : Array Value} {xs : List Str} {Q : Value → Shared → Prop}
    (hh : A.handled = none) (hl : s.heap.IsTuple l items) (hi : PyProof.Rows.StrsAre items.toList xs) (hn1 : xs.length + 1 < scanBound)
    (h : ∀ (h' : Heap) (tk : Nat), h'.SetOf (PySem.strKind prog w) s.heap.objs.size (fun k' => (xs.take items.size).any (· == k')) (ddA (xs.take items.size)).length →
      (∀ b o, b < s.heap.objs.size → s.heap.get? b = some o → h'.get? b = some o) → Q (.ref s.heap.objs.size) { s with heap := h', toks := tk }) :
    wpAny (model prog w) A (call (.type "set") [.ref l]) Q E s := by
  obtain ⟨c, tl, hmro⟩ := PySem.F.called_set.mro
  have hmade := PySem.F.called_set.made
  have hsub := PySem.F.called_set.sub
  refine wpAny_call (codeAny_of_tree ?_)
  show wpAny _ _ (callAny (.type "set") _) _ _ _
  refine wpAny_pure ⟨Code.quiet_builtin _ (by decide +kernel), codeAny_builtin PySem.F.entry_type_call ?_⟩
  rw [Around.under_plain (weight_type_call_type "set" [.ref l] []) rfl]
  have h1 := PySem.F.called_set.notType
  have h2 := PySem.F.called_set.canCreate
  have hct := PySem.F.typeCall_set_1 (.ref l)
  repeat (any_goals (first | assumption | wp_step))

  refine codeAny_mono (code_set_new_1 (.ref l) (E := E) (Q₁ := fun obj s₁ => ∃ led : Bool, obj = .ref s.heap.objs.size ∧ s₁ = { s with heap := s.heap.push { cls := .type "set", dict := none, data := .set #[] 0 (.fresh 0 0 led) } }) fun led => ⟨led, rfl, rfl⟩) fun r s₁ hr => ?_
  cases r with
  | error e => exact hr
  | ok fl =>
    cases fl with
    | ret obj =>
      obtain ⟨led, rfl, rfl⟩ := hr
      have hS : (s.heap.push { cls := .type "set", dict := none, data := .set #[] 0 (.fresh 0 0 led) }).get? s.heap.objs.size = some { cls := .type "set", dict := none, data := .set #[] 0 (.fresh 0 0 led) } := Heap.get?_push_size _ rfl
      have hT : Shared.TypeIs { s with heap := s.heap.push { cls := .type "set", dict := none, data := .set #[] 0 (.fresh 0 0 led) } } (.ref s.heap.objs.size) "set" := ⟨_, hS, rfl⟩
      have hli := PySem.F.called_set.init.lookup
      have hbi := PySem.F.called_set.init.bind (.ref s.heap.objs.size)
      repeat (any_goals (first | assumption | wp_step))

      refine codeAny_mono (codeAny_call_builtin (R := wants (fun r s₂ => r = .none ∧ ∃ h' tk, s₂ = { s with heap := h', toks := tk } ∧
          h'.SetOf (PySem.strKind prog w) s.heap.objs.size (fun k' => (xs.take items.size).any (· == k')) (ddA (xs.take items.size)).length ∧
          (∀ b o, b < s.heap.objs.size → s.heap.get? b = some o → h'.get? b = some o)) E) PySem.F.called_set.init.plain PySem.F.entry_set_init (check_set_init_1 hT ?_)) fun r₂ s₂ hr₂ => ?_
      · obtain ⟨ol, hol, hcl, nl, hdl⟩ := hl
        obtain ⟨ocls, odict, odata, oslots⟩ := ol
        simp only at hcl hdl
        subst hcl; subst hdl
        have hol' : (s.heap.push { cls := .type "set", dict := none, data := .set #[] 0 (.fresh 0 0 led) }).get? l = some { cls := .type "tuple", dict := odict, data := .seq items nl, slots := oslots } := Heap.get?_push_of_some _ hol
        have hsls := PySem.F.sub_tuple_set
        have hslf := PySem.F.sub_tuple_frozenset
        have hne : (Value.type "tuple" == Value.type "dict") = false := by decide
        have hl1 : (s.heap.push { cls := .type "set", dict := none, data := .set #[] 0 (.fresh 0 0 led) }).IsTuple l items := ⟨_, hol', rfl, nl, rfl⟩
        unfold Builtin.«set.__init__» noKeywords Builtin.Frozenset.updateFrom
        generalize hPI : pyIter = PI
        wp_walk
        subst hPI

        refine wpAny_pyIter_tuple hl1 ?_
        refine wpAny_bind (wpAny_runValue ?_)
        have hlS : l < s.heap.objs.size := Heap.lt_size hol
        have hh3 : A.in1.in1.in1.handled = none := by simp [hh]
        have hneI : l ≠ (s.heap.push { cls := .type "set", dict := none, data := .set #[] 0 (.fresh 0 0 led) }).objs.size := by
          rw [Heap.size_push]; exact Nat.ne_of_lt (Nat.lt_succ_of_lt hlS)
        have hSf : s.heap.objs.size ∉ [(s.heap.push { cls := .type "set", dict := none, data := .set #[] 0 (.fresh 0 0 led) }).objs.size, l] := by
          rw [Heap.size_push]; simp only [List.mem_cons, List.mem_singleton, List.not_mem_nil, or_false, not_or]
          exact ⟨Nat.ne_of_lt (Nat.lt_succ_self _), Nat.ne_of_gt hlS⟩
        have hsz : xs.length = items.size := by rw [← StrsAre.len_eq hi, Array.length_toList]
        have hval : ∀ (i : Nat) (v : Value), items[i]? = some v → ∃ t, v = .str (xs.getD i Str.empty) t := fun i v hv => strs_at hi i v (by rw [Array.getElem?_toList]; exact hv)
        refine loopStr ((Walks.tuple hh3 _ l hneI items).toS) s.heap.objs.size
          hSf xs hsz (by rw [← hsz]; exact hn1) hval (items.size - 0) 0 _ (by omega) (Nat.zero_le _)
          ⟨⟨_, Heap.get?_push_size _ rfl, rfl, rfl⟩, (hl1.push _)⟩ ?hS0 ?hR
        case hS0 =>
          have hget : ((s.heap.push { cls := .type "set", dict := none, data := .set #[] 0 (.fresh 0 0 led) }).push { cls := .type "tuple_iterator", data := .fields #[.ref l, .int 0 0] }).get? s.heap.objs.size
              = some { cls := .type "set", dict := none, data := .set #[] 0 (.fresh 0 0 led) } := Heap.get?_push_of_some _ hS
          exact PyProof.Rows.SetOf_congr ((PyProof.Rows.setObjOf_fresh (knd := PySem.strKind prog w) led).setOf hget (by unfold scanBound; omega)) (fun _ => rfl) rfl
        case hR =>
          intro s' hm hS'
          obtain ⟨h', g', d', tk', os'⟩ := s'
          have eg : g' = s.gens := hm.gens
          have ed : d' = s.drawn := hm.drawn
          have eo : os' = s.os := hm.os
          subst eg; subst ed; subst eo
          show wpAny _ _ _ _ _ _
          refine wpAny_pure ?_
          show wpAny _ _ (ret Value.none) _ _ _
          refine wpAny_pure ⟨rfl, h', tk', rfl, hS', fun b o hb e => ?_⟩
          have hb1 : b ≠ s.heap.objs.size := Nat.ne_of_lt hb
          have hb2 : b ≠ (s.heap.push { cls := .type "set", dict := none, data := .set #[] 0 (.fresh 0 0 led) }).objs.size := by
            rw [Heap.size_push]; exact Nat.ne_of_lt (Nat.lt_succ_of_lt hb)
          exact hm.heap b o (by simp only [List.mem_cons, List.mem_singleton, List.not_mem_nil, or_false, not_or]; exact ⟨hb1, hb2⟩) (Heap.get?_push_of_some _ (Heap.get?_push_of_some _ e))

      · cases r₂ with
        | error e => exact hr₂
        | ok fl₂ =>
          cases fl₂ with
          | ret r =>
            obtain ⟨rfl, h', tk, rfl, hS', hk'⟩ := hr₂
            repeat (any_goals (first | assumption | wp_step))
            exact h _ _ hS' hk'
          | _ => exact hr₂.elim
    | _ => exact hr.elim

end
end SSq


set_option Elab.async false
set_option linter.all false
set_option maxRecDepth 100000
set_option maxHeartbeats 2000000
set_option autoImplicit false
/-! Q44: len(set(texts)). -/
namespace Q
open PySem PySem.Spec PyProof.Rows L2
section
variable {X : Cx} {g : Gd} {W : WX} {a : Expr} {ta : TE} {qa : TEq} {p p2 pos : Pos} {c : Cg}
def tLenSetS (K : Fg) (ta : TE) : TE := fun σ H Q => ta σ H fun x H1 => ∃ (l : Addr) (xs : List Str), x = .ref l ∧ (SqL K H1 l (xs.map V.str) ∨ SqT K H1 l (xs.map V.str)) ∧ xs.length ≤ 4000 ∧ Q (.int ((ddA xs).length : Nat)) H1
theorem pe_lenSetS {q : Pos} (hg : Gl X "len") (hm : X.mg "len" = none) (hg2 : Gl X "set") (hm2 : X.mg "set" = none) (ha : PE X a ta) (hc : X.calm = true) (na : starEach [a] X.env = (false, eval a X.env) :: starEach [] X.env) :
    PE X (.Call (.Name "len" p) [.Call (.Name "set" p2) [a] [] q] [] pos) (tLenSetS X.K ta) := by
  constructor
  intro pins s σ H Q I h
  refine Call_ (ld_blt I hg hm boot_len ?_)
  refine PyProof.Rows.callWith_builtin1 (PyProof.Rows.args_cons ?_ rfl) rfl rfl
  refine Call_ (ld_blt I hg2 hm2 boot_set ?_)
  refine PyProof.Rows.callWith_type1 (PyProof.Rows.args_cons (thn (ha.run pins s σ H _ I h) fun v s1 ⟨x, H1, I1, r1, q1⟩ => PyProof.Rows.args_nil ?_) na) na rfl
  obtain ⟨l, xs, rfl, hq, h1, q1⟩ := q1
  cases r1
  have fin : ∀ (its : List Value), Vals (xs.map V.str) its → ∀ (h' : Heap) (tk : Nat), h'.SetOf (PySem.strKind X.prog X.w) s1.heap.objs.size (fun k' => (xs.take its.toArray.size).any (· == k')) (ddA (xs.take its.toArray.size)).length →
      (∀ b o, b < s1.heap.objs.size → s1.heap.get? b = some o → h'.get? b = some o) →
      wpAny (model X.prog X.w) X.A (spliced (backTo pos (starEach [] X.env))) (fun vs s₂ => wpAny (model X.prog X.w) X.A (call (.builtin "len") (Value.ref s1.heap.objs.size :: vs)) (EP X pins σ Q) X.xe s₂) X.xe { s1 with heap := h', toks := tk } := fun its r h' tk hS hk => by
    refine PyProof.Rows.args_nil ?_
    have hl : its.toArray.size = xs.length := by rw [List.size_toArray, ← r.length, List.length_map]
    rw [hl, List.take_of_length_le (Nat.le_refl _)] at hS
    obtain ⟨o, es, ep, t, ho, hex, hd, _, _, _, hf, hn⟩ := hS
    have I2 : Inv X pins σ H1 { s1 with heap := h', toks := tk } := I1.kept fun b o e => hk b o (Heap.lt_size e) e
    have := ddA_le xs
    exact call_len_set ho hex hd hf (by
      rw [hn]
      have z : ((ddA xs).length : Int) < 2 ^ 63 := by omega
      exact z) ⟨.int (ddA xs).length, H1, I2.tok _, ⟨_, by rw [hn]⟩, q1⟩
  have hsb : xs.length + 1 < scanBound := by unfold scanBound; omega
  rcases hq with hq | hq
  · obtain ⟨its, r, pl, hz⟩ := I1.list hq
    exact SSq.call_set_listS (I1.ok.hd hc) pl.isList (by simpa using strsAre_of r) hsb fun h' tk hS hk => fin its r h' tk hS hk
  · obtain ⟨its, r, pl, hz⟩ := I1.tuple hq
    exact SSq.call_set_tupleS (I1.ok.hd hc) pl (by simpa using strsAre_of r) hsb fun h' tk hS hk => fin its r h' tk hS hk
def dSeqS (f : List Str → Prop) (d : D) : Prop := ∃ xs : List Str, (d = .lst (xs.map .str) ∨ d = .tup (xs.map .str)) ∧ f xs
theorem strs_inj2 {xs ys : List Str} (h : xs.map D.str = ys.map D.str) : xs = ys := (List.map_inj_right (fun a b h => by cases h; rfl)).mp h
theorem f_dSeqL {f : List Str → Prop} {xs : List Str} : dSeqS f (.lst (xs.map .str)) = f xs := by
  apply propext
  constructor
  · rintro ⟨ys, h | h, q⟩
    · have e := strs_inj2 (D.lst.inj h)
      subst e; exact q
    · cases h
  · exact fun q => ⟨xs, .inl rfl, q⟩
theorem f_dSeqT {f : List Str → Prop} {xs : List Str} : dSeqS f (.tup (xs.map .str)) = f xs := by
  apply propext
  constructor
  · rintro ⟨ys, h | h, q⟩
    · cases h
    · have e := strs_inj2 (D.tup.inj h)
      subst e; exact q
  · exact fun q => ⟨xs, .inr rfl, q⟩
def qLenSetS (qa : TEq) : TEq := fun env k x => qa env (fun y env1 => rd env1 y (dSeqS fun xs => xs.length ≤ 4000 ∧ hold (fun n : Int => k (.d (.int n)) env1) .mk ((ddA xs).length : Nat))) x
theorem e_lenSetS {env : En} {k : Va → En → Prop} {x : XQ} : qLenSetS qa env k x = qa env (fun y env1 => rd env1 y (dSeqS fun xs => xs.length ≤ 4000 ∧ hold (fun n : Int => k (.d (.int n)) env1) .mk ((ddA xs).length : Nat))) x := rfl
theorem q_lenSetS {q : Pos} (hg : Gl X "len") (hm : X.mg "len" = none) (hg2 : Gl X "set") (hm2 : X.mg "set" = none) (ha : QE X g W a ta qa) (hc : X.calm = true := by rfl) (na : starEach [a] X.env = (false, eval a X.env) :: starEach [] X.env := by rfl) :
    QE X g W (.Call (.Name "len" p) [.Call (.Name "set" p2) [a] [] q] [] pos) (tLenSetS X.K ta) (qLenSetS qa) :=
  ⟨pe_lenSetS hg hm hg2 hm2 ha.pe hc na, fun N F P S b σ H env k x Q R hq hx hk => by
    refine ha.sm N F P S b σ H env _ x _ R hq hx fun S1 H1 env1 v y R1 e1 r1 h1 => ?_
    obtain ⟨d, hd, xs, hx2, hl, h2⟩ := h1
    have z := R1.read r1 hd
    rcases hx2 with rfl | rfl
    · cases z with
      | lst h r => exact ⟨_, xs, rfl, .inl (by rw [← r.strs]; exact SqL.of h), hl, hk S1 H1 env1 _ (.d _) R1 e1 (Rep.int _) h2⟩
    · cases z with
      | tup h r => exact ⟨_, xs, rfl, .inr (by rw [← r.strs]; exact h), hl, hk S1 H1 env1 _ (.d _) R1 e1 (Rep.int _) h2⟩⟩
end
def notScr : D → Bool
  | .scr _ => false
  | _ => true
theorem f_notScrL {xs : List D} : notScr (.lst xs) = true := rfl
theorem f_notScrT {xs : List D} : notScr (.tup xs) = true := rfl
def okNames (ns : List Int) (s : D) : Bool := isStrs s && decide ((ddA (strsOf s)).length = (strsOf s).length) && decide (((strsOf s).length : Int) = zc ns)
def namesI (ns : List Int) (xs : List Str) : List Str := (idsD ns).map fun i => xs.getD i.toNat ""
theorem ids_lt2 (ns : List Int) (h : ∀ (n : Nat) (e : Int), ns[n]? = some e → 0 ≤ e ∧ e ≤ n) : ∀ e ∈ idsD ns, 0 ≤ e ∧ e < zc ns := by
  have : ∀ l : List Int, (∀ (n : Nat) (e : Int), l.reverse[n]? = some e → 0 ≤ e ∧ e ≤ n) → ∀ e ∈ idsD l.reverse, 0 ≤ e ∧ e < zc l.reverse := by
    intro l
    induction l with
    | nil => intro _ e he; simp [idsD] at he
    | cons x l ih =>
      intro h
      rw [List.reverse_cons] at h ⊢
      have ih := ih fun n e he => h n e (by rw [List.getElem?_append_left (List.getElem?_eq_some_iff.mp he).1]; exact he)
      have hx := h l.reverse.length x (by rw [List.getElem?_append_right (Nat.le_refl _), Nat.sub_self]; rfl)
      have z0 := zc_nonneg l.reverse
      intro e he
      rw [idsD_snoc, List.mem_append, List.mem_singleton] at he
      rw [zc_snoc]
      rcases he with he | rfl
      · have := ih e he
        split <;> omega
      · by_cases h0 : x = 0
        · rw [if_pos h0, if_pos h0]; omega
        · rw [if_neg h0, if_neg h0]
          have hm : (idsD l.reverse).getD ((l.reverse.length : Int) - x).toNat 0 ∈ idsD l.reverse := by
            rw [List.getD_eq_getElem?_getD]
            obtain ⟨v, hv⟩ : ∃ v, (idsD l.reverse)[((l.reverse.length : Int) - x).toNat]? = some v := ⟨_, List.getElem?_eq_getElem (by rw [idsD_length]; omega)⟩
            rw [hv]; exact List.mem_of_getElem? hv
          have := ih _ hm
          omega
  have := this ns.reverse
  rw [List.reverse_reverse] at this
  exact this h
theorem okE_ints {ns : List Int} (h : okE (ns.map .int) = true) : ∀ (n : Nat) (e : Int), ns[n]? = some e → 0 ≤ e ∧ e ≤ n := fun n e he => by
  obtain ⟨i, h1, h2, h3⟩ := okE_get h (n := n) (e := .int e) (by rw [List.getElem?_map, he]; rfl)
  cases h1
  exact ⟨h2, h3⟩
end Q


set_option Elab.async false
set_option linter.all false
set_option maxRecDepth 100000
set_option maxHeartbeats 2000000
set_option autoImplicit false
/-! Q45: a text repeated. -/
namespace Q
open PySem PySem.Spec PyProof.Rows L2
def strRep (x : Str) (n : Nat) : Str := ⟨(List.replicate n x.cps).foldl (· ++ ·) #[]⟩
theorem rep_size (c : Array Nat) : ∀ (n : Nat) (acc : Array Nat), ((List.replicate n c).foldl (· ++ ·) acc).size = acc.size + n * c.size
  | 0, acc => by simp
  | n + 1, acc => by
    rw [List.replicate_succ, List.foldl_cons, rep_size c n, Array.size_append, Nat.succ_mul]; omega
theorem strRep_length (x : Str) (n : Nat) : (strRep x n).length = n * x.length := by
  show ((List.replicate n x.cps).foldl (· ++ ·) #[]).size = _
  rw [rep_size]; simp [Str.length]
def rMulS : R2 := fun x y H Q => ∃ (a : Str) (n : Int), x = .str a ∧ y = .int n ∧ 2 ≤ n ∧ n ≤ 1000000 ∧ 0 < a.length ∧ a.length ≤ 10 ∧ Q (.str (strRep a n.toNat)) H
theorem op_mulS {X : Cx} : OpR X (binaryOp .Mult) rMulS := by
  intro pins s σ H x y v u Q I rx ry h
  obtain ⟨a, n, rfl, rfl, h1, h2, h3, h4, q⟩ := h
  obtain ⟨t, rfl⟩ := rx
  obtain ⟨t2, rfl⟩ := ry
  have c1 : (n == 1 || a.length == 0) = false := by
    rw [beq_eq_false_iff_ne.mpr (show n ≠ 1 by omega), beq_eq_false_iff_ne.mpr (show a.length ≠ 0 by omega)]; rfl
  have c2 : ¬ n < 1 := by omega
  refine PySem.P.mul_str ?_ (fun _ _ => ?_) (fun _ _ => ?_) ?_
  · rw [decide_eq_false (show ¬ n < -(2 ^ 63 : Int) by omega), decide_eq_false (show ¬ n ≥ 2 ^ 63 by omega)]; rfl
  · have : (a.length : Int) ≤ (2 ^ 63 - 1) / n := Int.le_ediv_of_mul_le (by omega) (by
      have := Int.mul_le_mul (show (a.length : Int) ≤ 10 by omega) h2 (by omega) (by omega)
      omega)
    omega
  · show decide (_ > sizeLine) = false
    have := Nat.mul_le_mul h4 (show n.toNat ≤ 1000000 by omega)
    have hs : (10000000 : Nat) ≤ sizeLine := by decide
    exact decide_eq_false (by omega)
  · rw [if_neg c2, c1]
    simp only [Bool.false_eq_true, if_false]
    refine ⟨?_, .str _, H, I.tok _, ⟨s.toks, rfl⟩, q⟩
    have := Nat.mul_le_mul (show n.toNat ≤ 1000000 by omega) h4
    have hs : (10000000 : Nat) ≤ sizeLine := by decide
    have e : (strRep a n.toNat).length ≤ sizeLine := by rw [strRep_length]; omega
    exact e
def fMulS : D → D → (D → Prop) → Prop
  | .str a, .int n, k => 2 ≤ n ∧ n ≤ 1000000 ∧ 0 < a.length ∧ a.length ≤ 10 ∧ k (.str (strRep a n.toNat))
  | _, _, _ => False
theorem f_mulS {a : Str} {n : Int} {k : D → Prop} : fMulS (.str a) (.int n) k = (2 ≤ n ∧ n ≤ 1000000 ∧ 0 < a.length ∧ a.length ≤ 10 ∧ k (.str (strRep a n.toNat))) := rfl
theorem o_mulS {K : Fg} : Op2 K rMulS fMulS := by
  intro S H v u d e k Q s a b hf hk
  unfold fMulS at hf
  split at hf
  · obtain ⟨h1, h2, h3, h4, h5⟩ := hf
    cases a
    cases b
    exact ⟨_, _, rfl, rfl, h1, h2, h3, h4, hk _ _ (.str _) h5⟩
  · exact hf.elim
end Q


set_option Elab.async false
set_option linter.all false
set_option maxRecDepth 100000
set_option maxHeartbeats 2000000
set_option autoImplicit false
/-! Q46: names. -/
namespace Q
open PySem PySem.Spec PyProof.Rows L2
theorem str_nat_inj {m n : Nat} (h : Str.ofString (toString (m : Int)) = Str.ofString (toString (n : Int))) : m = n := by
  have e1 := PySem.W.KIN.signs_num m
  have e2 := PySem.W.KIN.signs_num n
  rw [h, e2] at e1
  have := congrArg PySem.NumText.digitsVal e1
  rw [PySem.W.KIN.val_back, PySem.W.KIN.val_back] at this
  exact this.symm
theorem str_app_inj {a b c : Str} (h : a ++ b = a ++ c) : b = c := by
  have h1 : (a ++ b).cps = (a ++ c).cps := by rw [h]
  have h2 : a.cps ++ b.cps = a.cps ++ c.cps := h1
  have h3 := (Array.append_right_inj a.cps).mp h2
  cases b
  cases c
  cases h3
  rfl
theorem str_app_list (a b : Str) : (a ++ b).cps.toList = a.cps.toList ++ b.cps.toList := by
  show (a.cps ++ b.cps).toList = _
  rw [Array.toList_append]
/-- s0, s1, .. -/
def sName (p : Str) (i : Int) : Str := p ++ Str.ofString (toString i)
theorem sName_inj {p : Str} {m n : Nat} (h : sName p m = sName p n) : m = n := str_nat_inj (str_app_inj h)
theorem sName_cps (p : Str) (m : Nat) : (sName p m).cps.toList = p.cps.toList ++ (Nat.toDigits 10 m).map Char.toNat := by
  unfold sName
  rw [str_app_list, PySem.W.KIN.signs_num]
theorem sName_len (p : Str) {m : Nat} (h : m < 10 ^ 4) : (sName p m).length ≤ p.length + 5 := by
  have := str_len (m : Int) (k := 4) (by decide) (by omega)
  show (p.cps ++ _).size ≤ _
  rw [Array.size_append]
  have e : (Str.ofString (toString (m : Int))).cps.size = (Str.ofString (toString (m : Int))).length := rfl
  rw [e]
  show p.cps.size + _ ≤ p.cps.size + 5
  omega
theorem sName_shw (p : Str) (hp : ∀ c ∈ p.cps.toList, c < 16 ^ 8) {m : Nat} (h : m < 10 ^ 4) : Shw (.str (sName p m)) 0 (10 * (p.length + 5) + 2) := by
  refine shw_str (sName_len p h) fun c hc => ?_
  rw [sName_cps, List.mem_append] at hc
  rcases hc with hc | hc
  · exact hp c hc
  · obtain ⟨ch, _, rfl⟩ := List.mem_map.mp hc
    have : ch.val.toNat < 4294967296 := UInt32.toNat_lt ch.val
    exact this
theorem sNames_nodup (p : Str) (n : Nat) : ((List.range n).map fun i : Nat => sName p i).Nodup := by
  refine List.Pairwise.map _ (fun a b h e => h (sName_inj e)) (List.nodup_range)
/-! the law's pool of names -/
def longX (c : Str) : Str := strRep "x" 3999 ++ c
def pool0 : List Str := ["", " ", "\n", "a", "A", "aa", "a ", " a", "0", "00", "-1", "~", "none", strRep "x" 60]
def poolX : List Str := pool0 ++ [longX "a", longX "b"]
theorem poolX_nodup : poolX.Nodup := by decide +kernel
theorem repr_plain (x : Str) (h : ∀ c ∈ x.cps.toList, c = 120 ∨ c = 97 ∨ c = 98) : (reprText x).length ≤ x.length + 2 := by
  rw [← reprLen_eq]
  have hq : reprQuote x = 34 ∨ reprQuote x = 39 := by unfold reprQuote; split <;> simp
  generalize reprQuote x = q at hq
  rw [← Array.foldl_toList]
  have key : ∀ (l : List Nat) (n : Nat), (∀ c ∈ l, c = 120 ∨ c = 97 ∨ c = 98) → l.foldl (fun n c => n + (Builtin.Str.reprChar q c).length) n ≤ n + l.length := by
    intro l
    induction l with
    | nil => intro n _; exact Nat.le_refl _
    | cons c l ih =>
      intro n hl
      have h1 : (Builtin.Str.reprChar q c).length ≤ 1 := by
        have hc := hl c List.mem_cons_self
        rcases hq with rfl | rfl <;> rcases hc with rfl | rfl | rfl <;> decide +kernel
      have h2 := ih (n + (Builtin.Str.reprChar q c).length) fun c hc => hl c (List.mem_cons_of_mem _ hc)
      rw [List.foldl_cons, List.length_cons]
      omega
  have := key x.cps.toList 2 h
  have e : x.cps.toList.length = x.length := Array.length_toList
  omega
theorem rep_mem2 (c : Array Nat) : ∀ (n : Nat) (acc : Array Nat), ∀ y ∈ ((List.replicate n c).foldl (· ++ ·) acc).toList, y ∈ acc.toList ∨ y ∈ c.toList
  | 0, acc, y, h => .inl (by simpa using h)
  | n + 1, acc, y, h => by
    rw [List.replicate_succ, List.foldl_cons] at h
    rcases rep_mem2 c n _ y h with h | h
    · rw [Array.toList_append, List.mem_append] at h
      exact h
    · exact .inr h
theorem longX_chars (c : Str) (hc : ∀ d ∈ c.cps.toList, d = 97 ∨ d = 98) : ∀ d ∈ (longX c).cps.toList, d = 120 ∨ d = 97 ∨ d = 98 := fun d hd => by
  unfold longX at hd
  rw [str_app_list, List.mem_append] at hd
  rcases hd with hd | hd
  · rcases rep_mem2 _ _ _ d hd with hd | hd
    · simp at hd
    · have : d ∈ [120] := hd
      simp at this
      exact .inl this
  · exact .inr (hc d hd)
theorem longX_ok (c : Str) (hc : ∀ d ∈ c.cps.toList, d = 97 ∨ d = 98) : PyData.strOk (longX c) = true := by
  unfold PyData.strOk
  rw [Array.all_eq_true_iff_forall_mem]
  intro d hd
  have := longX_chars c hc d (Array.mem_toList_iff.mpr hd)
  exact decide_eq_true (by omega)
theorem longX_repr (c : Str) (hc : ∀ d ∈ c.cps.toList, d = 97 ∨ d = 98) (hl : c.length = 1) : (reprText (longX c)).length ≤ 4100 := by
  have h := longX_chars c hc
  have h1 := repr_plain _ h
  have h2 : (longX c).length = 4000 := by
    show ((strRep "x" 3999).cps ++ c.cps).size = 4000
    rw [Array.size_append]
    have e1 : (strRep "x" 3999).cps.size = 3999 * 1 := strRep_length "x" 3999
    have e2 : c.cps.size = 1 := hl
    omega
  omega
theorem pool0_ok : (pool0.all fun x => decide ((reprText x).length ≤ 4100) && PyData.strOk x) = true := by decide +kernel
theorem poolX_ok : (poolX.all fun x => decide (x.cps[0]? ≠ some 115) && decide (x ≠ "another string")) = true := by decide +kernel
def NmOk (x : Str) : Prop := Shw (.str x) 0 4100 ∧ x ≠ "another string" ∧ PyData.strOk x = true
theorem shw_str2 {x : Str} {n : Nat} (h : (reprText x).length ≤ n) : Shw (.str x) 0 n := ⟨rfl, by simp [toP, PyData.showable], by simp [toP, PyData.depth], by simp only [toP]; exact h⟩
theorem poolX_nm {x : Str} (h : x ∈ poolX) : NmOk x ∧ x.cps[0]? ≠ some 115 := by
  have hb := List.all_eq_true.mp poolX_ok x h
  rw [Bool.and_eq_true, decide_eq_true_eq, decide_eq_true_eq] at hb
  refine (fun (z : (reprText x).length ≤ 4100 ∧ PyData.strOk x = true) => ⟨⟨shw_str2 z.1, hb.2, z.2⟩, hb.1⟩) ?_
  unfold poolX at h
  rcases List.mem_append.mp h with h | h
  · have := List.all_eq_true.mp pool0_ok x h
    rw [Bool.and_eq_true, decide_eq_true_eq] at this
    exact this
  · simp only [List.mem_cons, List.not_mem_nil, or_false] at h
    rcases h with rfl | rfl
    · exact ⟨longX_repr _ (by decide +kernel) (by decide +kernel), longX_ok _ (by decide +kernel)⟩
    · exact ⟨longX_repr _ (by decide +kernel) (by decide +kernel), longX_ok _ (by decide +kernel)⟩
end Q


set_option Elab.async false
set_option linter.all false
set_option maxRecDepth 100000
set_option maxHeartbeats 2000000
set_option autoImplicit false
/-! Q47: signs written with names. -/
namespace Q
open PySem PySem.Spec PyProof.Rows L2
theorem ddA_zc {α : Type} [DecidableEq α] (u : List α) : ((ddA u).length : Int) = zc (dist u) := by
  suffices h : ∀ n (u : List α), u.length = n → ((ddA u).length : Int) = zc (dist u) from h _ u rfl
  intro n
  induction n with
  | zero => intro u hu; rw [List.eq_nil_of_length_eq_zero hu]; rfl
  | succ n ih =>
    intro u hu
    obtain ⟨v, y, rfl⟩ : ∃ v y, u = v ++ [y] := by
      refine ⟨u.dropLast, u.getLast (by intro e; rw [e] at hu; cases hu), ?_⟩
      rw [List.dropLast_concat_getLast]
    rw [ddA_snoc, dist_snoc, zc_snoc, ← ih v (by simpa using hu)]
    have hy : (v ++ [y])[v.length]? = some y := by rw [List.getElem?_append_right (Nat.le_refl _)]; simp
    by_cases h : y ∈ v
    · rw [if_pos ((ddA_mem v y).mpr h), if_neg]
      · omega
      · intro h0
        obtain ⟨m, hm⟩ := List.getElem?_of_mem h
        have hl : m < v.length := (List.getElem?_eq_some_iff.mp hm).1
        refine dAt_zero h0 m hl ?_
        rw [hy, List.getElem?_append_left hl, hm]
    · rw [if_neg (fun z => h ((ddA_mem v y).mp z)), if_pos]
      · simp
      · unfold dAt
        rw [lastIn_none.mpr]
        intro m hm
        rw [decide_eq_false_iff_not, hy, List.getElem?_append_left hm]
        intro e
        exact h (List.mem_of_getElem? e)
theorem ddA_nodup {α : Type} [DecidableEq α] {xs : List α} (h : xs.Nodup) : ddA xs = xs := by
  have : ∀ l : List α, l.reverse.Nodup → ddA l.reverse = l.reverse := by
    intro l
    induction l with
    | nil => intro _; rfl
    | cons x l ih =>
      rw [List.reverse_cons]
      intro h
      obtain ⟨h1, h2, h3⟩ := List.nodup_append.mp h
      rw [ddA_snoc, ih h1, if_neg (fun hm => h3 x hm x (List.mem_singleton.mpr rfl) rfl)]
  have := this xs.reverse
  rw [List.reverse_reverse] at this
  exact this h
/-- a list of numbers written with names -/
def wr (names : List Str) (I : List Int) : List Str := I.map fun i => names.getD i.toNat ""
theorem wr_length (names : List Str) (I : List Int) : (wr names I).length = I.length := List.length_map ..
theorem getD_inj {names : List Str} (hn : names.Nodup) {i j : Nat} (hi : i < names.length) (hj : j < names.length) (h : names.getD i "" = names.getD j "") : i = j := by
  rw [List.getD_eq_getElem?_getD, List.getD_eq_getElem?_getD, List.getElem?_eq_getElem hi, List.getElem?_eq_getElem hj] at h
  have hp := List.pairwise_iff_getElem.mp hn
  rcases Nat.lt_trichotomy i j with g | g | g
  · exact absurd h (hp i j hi hj g)
  · exact g
  · exact absurd h.symm (hp j i hj hi g)
theorem wr_dist {names : List Str} {I : List Int} (hn : names.Nodup) (hI : ∀ e ∈ I, 0 ≤ e ∧ e < names.length) : dist (wr names I) = dist I := by
  have : Alike (I.map fun i => names.getD i.toNat "") (I.map id) := Alike.maps fun x hx y hy => by
    refine ⟨fun h => ?_, fun h => by rw [show x = y from h]⟩
    have h1 := hI x hx
    have h2 := hI y hy
    have := getD_inj hn (show x.toNat < names.length by omega) (show y.toNat < names.length by omega) h
    show x = y
    omega
  have := this.dist
  rwa [List.map_id] at this
theorem names_wr (ns : List Int) (names : List Str) : namesI ns names = wr names (idsD ns) := rfl
theorem okNames_ok {ns : List Int} {s : D} {names : List Str} (hs : s = .lst (names.map .str) ∨ s = .tup (names.map .str)) (hn : names.Nodup) (hl : (names.length : Int) = zc ns) : okNames ns s = true := by
  obtain ⟨h1, h2, _⟩ := isStrs_seq hs
  unfold okNames
  rw [h1, h2, ddA_nodup hn, decide_eq_true rfl, decide_eq_true hl]; rfl
theorem wr_shw {names : List Str} {I : List Int} (h : ∀ x ∈ names, NmOk x) (hI : ∀ e ∈ I, 0 ≤ e ∧ e < names.length) (hl : I.length ≤ 400) : Shws ((wr names I).map .str) 0 (4102 * 400) := by
  have := shws_map (f := D.str) (xs := wr names I) (k := 0) (n := 4100) fun x hx => by
    obtain ⟨i, hi, rfl⟩ := List.mem_map.mp hx
    have hb := hI i hi
    refine (h _ ?_).1
    rw [List.getD_eq_getElem?_getD]
    obtain ⟨v, hv⟩ : ∃ v, names[i.toNat]? = some v := ⟨_, List.getElem?_eq_getElem (by omega)⟩
    rw [hv]; exact List.mem_of_getElem? hv
  rw [wr_length] at this
  exact this.mono (Nat.le_refl _) (Nat.mul_le_mul_left _ hl)
theorem nm_shw {names : List Str} (h : ∀ x ∈ names, NmOk x) (hl : names.length ≤ 400) : Shws (names.map .str) 0 (4102 * 400) :=
  (shws_map fun x hx => (h x hx).1).mono (Nat.le_refl _) (Nat.mul_le_mul_left _ hl)
theorem wr_dropLast (names : List Str) (I : List Int) : (wr names I).dropLast = wr names I.dropLast := by unfold wr; rw [List.map_dropLast]
/-- the first ones of the names suffice for the first ones of the numbers -/
theorem wr_take {names : List Str} {I : List Int} {n : Nat} (hI : ∀ e ∈ I, 0 ≤ e ∧ e < n) : wr (names.take n) I = wr names I := by
  unfold wr
  refine List.map_congr_left fun i hi => ?_
  have := hI i hi
  rw [List.getD_eq_getElem?_getD, List.getD_eq_getElem?_getD, List.getElem?_take_of_lt (by omega)]
end Q


set_option Elab.async false
set_option linter.all false
set_option maxRecDepth 100000
set_option maxHeartbeats 2000000
set_option autoImplicit false
/-! Q48: lists of texts compared. -/
namespace Q
open PySem PySem.Spec PyProof.Rows L2
theorem toPs_strs : ∀ ns : List Str, toPs (ns.map .str) = ns.map PyData.str
  | [] => rfl
  | n :: r => by rw [List.map_cons, List.map_cons, ← toPs_strs r]; rfl
theorem ev_strs : ∀ ns ms : List Str, PyData.eqvAll (ns.map PyData.str) (ms.map PyData.str) = decide (ns = ms)
  | [], [] => by simp [PyData.eqvAll]
  | [], _ :: _ => by simp [PyData.eqvAll]
  | _ :: _, [] => by simp [PyData.eqvAll]
  | a :: r, b :: t => by
    simp only [List.map_cons, PyData.eqvAll, PyData.eqv, ev_strs r t]
    by_cases h : a = b <;> by_cases h' : r = t <;> simp [h, h']
def okS (l : List Str) : Prop := ∀ x ∈ l, PyData.strOk x = true
theorem cl_strs : ∀ ns : List Str, PyData.canLayAll0 (ns.map PyData.str) = true ↔ okS ns
  | [] => ⟨fun _ x hx => (nomatch hx), fun _ => rfl⟩
  | a :: r => by
    have := cl_strs r
    simp only [List.map_cons, PyData.canLayAll0, PyData.canLay0, Bool.and_eq_true, this]
    unfold okS
    simp
theorem dp_strs0 : ∀ ns : List Str, PyData.depthAll (ns.map PyData.str) = 0
  | [] => rfl
  | _ :: r => by simp [PyData.depthAll, PyData.depth, dp_strs0 r]
theorem shp_sl (ns : List Str) : SeqAt.shaped (toP (.lst (ns.map .str))) = true ↔ okS ns := by
  unfold toP
  rw [toPs_strs]
  simp [SeqAt.shaped, PyData.canLay0, PyData.depth, cl_strs, dp_strs0]
theorem ev_sl (a b : List Str) : PyData.eqv (toP (.lst (a.map .str))) (toP (.lst (b.map .str))) = decide (a = b) := by
  unfold toP
  rw [toPs_strs, toPs_strs, PyData.eqv]
  exact ev_strs a b
section
variable {a b : List Str} {x : Str} {k : D → Prop}
theorem f_eqSL : fEq (.lst (a.map .str)) (.lst (b.map .str)) k = (okS a ∧ okS b ∧ k (.bl (decide (a = b)))) := by
  show (SeqAt.shaped _ = true ∧ SeqAt.shaped _ = true ∧ k (.bl (PyData.eqv _ _))) = _
  rw [ev_sl]
  exact propext (by rw [shp_sl, shp_sl])
theorem f_neSL : fNe (.lst (a.map .str)) (.lst (b.map .str)) k = (okS a ∧ okS b ∧ k (.bl (!decide (a = b)))) := by
  show (SeqAt.shaped _ = true ∧ SeqAt.shaped _ = true ∧ k (.bl (!PyData.eqv _ _))) = _
  rw [ev_sl]
  exact propext (by rw [shp_sl, shp_sl])
theorem okS_nil : okS [] := fun _ h => nomatch h
theorem f_eqSNil : fEq (.lst (a.map .str)) (.lst []) k = (okS a ∧ k (.bl (decide (a = [])))) := by
  have := f_eqSL (a := a) (b := []) (k := k)
  rw [List.map_nil] at this
  rw [this]
  exact propext ⟨fun h => ⟨h.1, h.2.2⟩, fun h => ⟨h.1, okS_nil, h.2⟩⟩
theorem f_neSNil : fNe (.lst (a.map .str)) (.lst []) k = (okS a ∧ k (.bl (!decide (a = [])))) := by
  have := f_neSL (a := a) (b := []) (k := k)
  rw [List.map_nil] at this
  rw [this]
  exact propext ⟨fun h => ⟨h.1, h.2.2⟩, fun h => ⟨h.1, okS_nil, h.2⟩⟩
theorem f_neNN : fNe (.lst []) (.lst []) k = k (.bl false) := f_neIL (a := []) (b := [])
end
theorem sName_ok (p : Str) (hp : PyData.strOk p = true) (m : Nat) : PyData.strOk (sName p m) = true := by
  unfold PyData.strOk at *
  rw [Array.all_eq_true_iff_forall_mem] at *
  intro c hc
  rw [← Array.mem_toList_iff, sName_cps, List.mem_append] at hc
  rcases hc with hc | hc
  · exact hp c (Array.mem_toList_iff.mp hc)
  · obtain ⟨ch, hch, rfl⟩ := List.mem_map.mp hc
    have r := digit_range (Nat.isDigit_of_mem_toDigits (by decide) (by decide) hch)
    exact decide_eq_true (by omega)
end Q


set_option Elab.async false
set_option linter.all false
set_option maxRecDepth 100000
set_option maxHeartbeats 2000000
set_option autoImplicit false
/-! Q49: one name exchanged. -/
namespace Q
open PySem PySem.Spec PyProof.Rows L2
theorem getD_mem {names : List Str} {n : Nat} (h : n < names.length) : names.getD n "" ∈ names := by
  rw [List.getD_eq_getElem?_getD, List.getElem?_eq_getElem h]
  exact List.getElem_mem h
theorem wr_mem {names : List Str} {I : List Int} (hI : ∀ e ∈ I, 0 ≤ e ∧ e < names.length) {x : Str} (hx : x ∈ wr names I) : x ∈ names := by
  obtain ⟨i, hi, rfl⟩ := List.mem_map.mp hx
  have := hI i hi
  exact getD_mem (by omega)
theorem wr_okS {names : List Str} {I : List Int} (h : ∀ x ∈ names, NmOk x) (hI : ∀ e ∈ I, 0 ≤ e ∧ e < names.length) : okS (wr names I) :=
  fun x hx => (h x (wr_mem hI hx)).2.2
theorem set0_nodup {names : List Str} {s : Str} (hn : names.Nodup) (h : s ∉ names) : (names.set 0 s).Nodup := by
  cases names with
  | nil => exact hn
  | cons a r =>
    rw [List.nodup_cons] at hn
    rw [List.set_cons_zero, List.nodup_cons]
    exact ⟨fun hm => h (List.mem_cons_of_mem _ hm), hn.2⟩
theorem wr_set0 {names : List Str} {I : List Int} {s e : Str} (hn : names.Nodup) (hI : ∀ e ∈ I, 0 ≤ e ∧ e < names.length) (he : names[0]? = some e) :
    wr (names.set 0 s) I = (wr names I).map fun x => if x = e then s else x := by
  unfold wr
  rw [List.map_map]
  refine List.map_congr_left fun i hi => ?_
  have hb := hI i hi
  have he0 : names.getD 0 "" = e := by rw [List.getD_eq_getElem?_getD, he]; rfl
  show (names.set 0 s).getD i.toNat "" = if names.getD i.toNat "" = e then s else names.getD i.toNat ""
  by_cases h0 : i.toNat = 0
  · rw [h0, he0, if_pos rfl, List.getD_eq_getElem?_getD, List.getElem?_set_self (by omega)]; rfl
  · have hne : names.getD i.toNat "" ≠ e := fun h => h0 (getD_inj hn (by omega) (by omega) (h.trans he0.symm))
    rw [if_neg hne, List.getD_eq_getElem?_getD, List.getD_eq_getElem?_getD, List.getElem?_set_ne (fun h => h0 h.symm)]
def toSt : D → Str | .str x => x | _ => ""
theorem strs_get {xs : List Str} {n : Nat} {d : D} (h : (xs.map D.str)[n]? = some d) : ∃ x, xs[n]? = some x ∧ d = .str x := by
  rw [List.getElem?_map] at h
  cases hx : xs[n]? with
  | none => rw [hx] at h; cases h
  | some x => rw [hx] at h; cases h; exact ⟨x, rfl, rfl⟩
theorem comp_strs {g : TGq} {tt : TTq} {te : TEq} {vs : List Nat} {xs : List Str} {env : En} {k : List D → En → Prop} (f : Str → Str)
    (hs : ∀ (n : Nat) (x : Str) (acc : List D) (X : List D → En → Prop), xs[n]? = some x → acc.length ≤ n → X (acc ++ [.str (f x)]) env → compStep g tt te vs acc X (.str x) env)
    (he : k ((xs.map f).map .str) env) : compQ g tt te vs (xs.map .str) [] env k := by
  refine comp_pure (fun _ => true) (fun d => .str (f (toSt d))) (fun n d acc X hd hl hX => ?_) ?_
  · obtain ⟨x, hx, rfl⟩ := strs_get hd
    exact hs n x acc X hx hl hX
  · rw [show (xs.map D.str).filter (fun _ => true) = xs.map D.str from List.filter_eq_self.mpr fun _ _ => rfl, List.map_map]
    rw [List.map_map] at he
    exact he
end Q


set_option Elab.async false
set_option linter.all false
set_option maxRecDepth 100000
set_option maxHeartbeats 2000000
set_option autoImplicit false
/-! Q50: texts alike; first occurrences; two dicts that follow a renaming. -/
namespace Q
open PySem PySem.Spec PyProof.Rows L2
section
variable {α β : Type} [DecidableEq α] [DecidableEq β]
theorem alike_ids (u : List α) : Alike u (idsD (dist u)) := by
  have h : Alike (u.map id) (u.map fun x => (u.idxOf x : Int)) := Alike.maps fun x hx y hy =>
    ⟨fun e => by rw [show x = y from e], fun e => idx_inj hx (Int.ofNat.inj e)⟩
  rw [List.map_id] at h
  have h2 := (ids_alike (u.map fun x => (u.idxOf x : Int))).symm
  rw [← h.dist] at h2
  exact h.trans h2
theorem alike_of_dist {u : List α} {w : List β} (h : dist u = dist w) : Alike u w := by
  have h1 := alike_ids u
  rw [h] at h1
  exact h1.trans (alike_ids w).symm
theorem dist_ids2 (u : List α) : dist (idsD (dist u)) = dist u := (alike_ids u).dist.symm
theorem ids_lt3 (u : List α) : ∀ e ∈ idsD (dist u), 0 ≤ e ∧ e < zc (dist u) := fun e he => by
  have := ids_lt (idsD (dist u)) (e := e)
  rw [dist_ids2] at this
  exact this he
end
theorem wr_snoc (names : List Str) (I : List Int) (i : Int) : wr names (I ++ [i]) = wr names I ++ [names.getD i.toNat ""] := by
  unfold wr; rw [List.map_append]; rfl
theorem wr_more {names : List Str} {I : List Int} (x : Str) (hI : ∀ e ∈ I, 0 ≤ e ∧ e < names.length) : wr (names ++ [x]) I = wr names I := by
  have := wr_take (names := names ++ [x]) (I := I) (n := names.length) hI
  rw [List.take_left' rfl] at this
  exact this.symm
theorem wr_get {names : List Str} {I : List Int} {n : Nat} {i : Int} (h : I[n]? = some i) : (wr names I)[n]? = some (names.getD i.toNat "") := by
  unfold wr; rw [List.getElem?_map, h]; rfl
theorem wr_firsts (u : List Str) : wr (ddA u) (idsD (dist u)) = u := by
  suffices h : ∀ n (u : List Str), u.length = n → wr (ddA u) (idsD (dist u)) = u from h _ u rfl
  intro n
  induction n with
  | zero => intro u hu; rw [List.eq_nil_of_length_eq_zero hu]; rfl
  | succ n ih =>
    intro u hu
    obtain ⟨v, y, rfl⟩ : ∃ v y, u = v ++ [y] := by
      refine ⟨u.dropLast, u.getLast (by intro e; rw [e] at hu; cases hu), ?_⟩
      rw [List.dropLast_concat_getLast]
    have hv := ih v (by simpa using hu)
    have hb : ∀ e ∈ idsD (dist v), 0 ≤ e ∧ e < (ddA v).length := fun e he => by
      have := ids_lt3 v e he
      have := ddA_zc v
      omega
    have hA := alike_ids (v ++ [y])
    rw [dist_snoc, idsD_snoc] at hA ⊢
    have hy : (v ++ [y])[v.length]? = some y := by rw [List.getElem?_append_right (Nat.le_refl _)]; simp
    have hIl : (idsD (dist v)).length = v.length := by rw [idsD_length, dist_length]
    generalize hi : (if dAt (v ++ [y]) v.length = 0 then zc (dist v) else (idsD (dist v)).getD (((dist v).length : Int) - dAt (v ++ [y]) v.length).toNat 0) = i at hA ⊢
    rw [wr_snoc, ddA_snoc]
    by_cases h : y ∈ v
    · rw [if_pos ((ddA_mem v y).mpr h), hv]
      obtain ⟨m, hm⟩ := List.getElem?_of_mem h
      have hl : m < v.length := (List.getElem?_eq_some_iff.mp hm).1
      have h2 := (hA.2 m v.length (by simp; omega) (by simp)).mp (by rw [hy, List.getElem?_append_left hl, hm])
      rw [List.getElem?_append_left (by omega), List.getElem?_append_right (by omega), hIl] at h2
      simp only [Nat.sub_self, List.getElem?_cons_zero] at h2
      have h3 := wr_get (names := ddA v) h2
      rw [hv, hm] at h3
      rw [← Option.some.inj h3]
    · rw [if_neg (fun z => h ((ddA_mem v y).mp z)), wr_more y hb, hv]
      have h0 : dAt (v ++ [y]) v.length = 0 := by
        unfold dAt
        rw [lastIn_none.mpr]
        intro m hm
        rw [decide_eq_false_iff_not, hy, List.getElem?_append_left hm]
        intro e
        exact h (List.mem_of_getElem? e)
      rw [if_pos h0, ← ddA_zc v] at hi
      rw [← hi, Int.toNat_natCast, List.getD_eq_getElem?_getD, List.getElem?_append_right (Nat.le_refl _)]
      simp
theorem ddA_nd {α : Type} [DecidableEq α] (u : List α) : (ddA u).Nodup := by
  suffices h : ∀ n (u : List α), u.length = n → (ddA u).Nodup from h _ u rfl
  intro n
  induction n with
  | zero => intro u hu; rw [List.eq_nil_of_length_eq_zero hu]; exact List.nodup_nil
  | succ n ih =>
    intro u hu
    obtain ⟨v, y, rfl⟩ : ∃ v y, u = v ++ [y] := by
      refine ⟨u.dropLast, u.getLast (by intro e; rw [e] at hu; cases hu), ?_⟩
      rw [List.dropLast_concat_getLast]
    have hv := ih v (by simpa using hu)
    rw [ddA_snoc]
    split
    · exact hv
    · rename_i h
      refine List.nodup_append.mpr ⟨hv, by simp, fun a ha b hb e => h ?_⟩
      rw [List.mem_singleton.mp hb] at e
      exact e ▸ ha
/-! two dicts -/
def DA (u w : List Str) (m : Nat) (kt kb : List (Key × D)) : Prop :=
  kt.length ≤ m ∧ kb.length ≤ m ∧ (∀ i x y, i < m → u[i]? = some x → w[i]? = some y → vD kt (.inr x) = some (.str y) ∧ vD kb (.inr y) = some (.str x)) ∧
  (∀ x, (∀ i, i < m → u[i]? ≠ some x) → vD kt (.inr x) = none) ∧ (∀ y, (∀ i, i < m → w[i]? ≠ some y) → vD kb (.inr y) = none)
theorem DA_nil (u w : List Str) : DA u w 0 [] [] := ⟨Nat.le_refl _, Nat.le_refl _, fun _ _ _ h => absurd h (Nat.not_lt_zero _), fun _ _ => rfl, fun _ _ => rfl⟩
section
variable {u w : List Str} {m : Nat} {kt kb : List (Key × D)} {x y : Str}
theorem DA_there (h : DA u w m kt kb) (hl : u.length = w.length) {d : D} (hd : vD kt (.inr x) = some d) : ∃ i y', i < m ∧ u[i]? = some x ∧ w[i]? = some y' ∧ d = .str y' := by
  obtain ⟨_, _, h1, h2, _⟩ := h
  by_cases e : ∃ i, i < m ∧ u[i]? = some x
  · obtain ⟨i, hi, hu⟩ := e
    have hil := (List.getElem?_eq_some_iff.mp hu).1
    have hw : w[i]? = some (w[i]'(by omega)) := List.getElem?_eq_getElem _
    have := (h1 i x _ hi hu hw).1
    rw [hd] at this
    exact ⟨i, _, hi, hu, hw, Option.some.inj this⟩
  · rw [h2 x fun i hi hu => e ⟨i, hi, hu⟩] at hd
    cases hd
theorem DA_back (h : DA u w m kt kb) (hl : u.length = w.length) {d : D} (hd : vD kb (.inr y) = some d) : ∃ i x', i < m ∧ w[i]? = some y ∧ u[i]? = some x' ∧ d = .str x' := by
  obtain ⟨_, _, h1, _, h2⟩ := h
  by_cases e : ∃ i, i < m ∧ w[i]? = some y
  · obtain ⟨i, hi, hw⟩ := e
    have hil := (List.getElem?_eq_some_iff.mp hw).1
    have hu : u[i]? = some (u[i]'(by omega)) := List.getElem?_eq_getElem _
    have := (h1 i _ y hi hu hw).2
    rw [hd] at this
    exact ⟨i, _, hi, hw, hu, Option.some.inj this⟩
  · rw [h2 y fun i hi hu => e ⟨i, hi, hu⟩] at hd
    cases hd
theorem not_alike {i j : Nat} {x y x' y' : Str} (h1 : u[i]? = some x) (h2 : u[j]? = some y) (h3 : w[i]? = some x') (h4 : w[j]? = some y') (h : ¬ (x = y ↔ x' = y')) : decide (dist u = dist w) = false := by
  refine decide_eq_false fun e => h ?_
  have := (alike_of_dist e).2 i j (List.getElem?_eq_some_iff.mp h1).1 (List.getElem?_eq_some_iff.mp h2).1
  rw [h1, h2, h3, h4] at this
  simpa using this
theorem DA_step (h : DA u w m kt kb) (hl : u.length = w.length) (hu : u[m]? = some x) (hw : w[m]? = some y)
    (ht : ∀ d, vD kt (.inr x) = some d → d = .str y) (hb : ∀ d, vD kb (.inr y) = some d → d = .str x) : DA u w (m + 1) (pD kt (.inr x) (.str y)) (pD kb (.inr y) (.str x)) := by
  obtain ⟨l1, l2, h1, h2, h3⟩ := h
  have p1 := pD_length kt (.inr x) (.str y)
  have p2 := pD_length kb (.inr y) (.str x)
  refine ⟨by omega, by omega, fun i a b hi ha hb' => ?_, fun a ha => ?_, fun b hb' => ?_⟩
  · rw [vD_put, vD_put]
    by_cases him : i = m
    · subst him
      rw [hu] at ha; rw [hw] at hb'
      cases ha; cases hb'
      rw [if_pos rfl, if_pos rfl]
      exact ⟨rfl, rfl⟩
    · obtain ⟨g1, g2⟩ := h1 i a b (by omega) ha hb'
      constructor
      · split
        · rename_i e
          cases e
          rw [← ht _ g1]
        · exact g1
      · split
        · rename_i e
          cases e
          rw [← hb _ g2]
        · exact g2
  · rw [vD_put, if_neg, h2 a fun i hi => ha i (by omega)]
    intro e
    cases e
    exact ha m (by omega) hu
  · rw [vD_put, if_neg, h3 b fun i hi => hb' i (by omega)]
    intro e
    cases e
    exact hb' m (by omega) hw
theorem DA_end (h : DA u w m kt kb) (hl : u.length = w.length) (hm : m = u.length) : decide (dist u = dist w) = true := by
  obtain ⟨_, _, h1, _, _⟩ := h
  refine decide_eq_true (Alike.dist ⟨hl, fun i j hi hj => ?_⟩)
  have a1 : u[i]? = some u[i] := List.getElem?_eq_getElem hi
  have a2 : u[j]? = some u[j] := List.getElem?_eq_getElem hj
  have a3 : w[i]? = some (w[i]'(by omega)) := List.getElem?_eq_getElem _
  have a4 : w[j]? = some (w[j]'(by omega)) := List.getElem?_eq_getElem _
  obtain ⟨b1, b2⟩ := h1 i _ _ (by omega) a1 a3
  obtain ⟨b3, b4⟩ := h1 j _ _ (by omega) a2 a4
  rw [a1, a2, a3, a4]
  constructor
  · intro e
    rw [Option.some.inj e, b3] at b1
    injection b1 with b1
    injection b1 with b1
    rw [b1]
  · intro e
    rw [Option.some.inj e, b4] at b2
    injection b2 with b2
    injection b2 with b2
    rw [b2]
end
end Q


set_option Elab.async false
set_option linter.all false
set_option maxRecDepth 100000
set_option maxHeartbeats 2000000
set_option autoImplicit false
/-! Q51: signs named by a dict. -/
namespace Q
open PySem PySem.Spec PyProof.Rows L2
theorem pairs_IS : ∀ l : List (Int × Str), pairsD (l.map fun p => .tup [.int p.1, .str p.2]) = some (l.map fun p => ((Sum.inl p.1 : Key), D.str p.2))
  | [] => rfl
  | p :: l => by rw [List.map_cons, List.map_cons]; unfold pairsD; rw [pairs_IS l]; rfl
theorem pairs_named (S : List Int) (names : List Str) : pairsD (S.mapIdx fun n i => .tup [.int i, .str (names.getD n "")]) = some (S.mapIdx fun n i => ((Sum.inl i : Key), D.str (names.getD n ""))) := by
  have := pairs_IS (S.mapIdx fun n i => (i, names.getD n ""))
  have e : ∀ {γ : Type} (g : Int × Str → γ), (S.mapIdx fun n i => (i, names.getD n "")).map g = S.mapIdx fun n i => g (i, names.getD n "") := fun g =>
    List.ext_getElem? fun n => by rw [List.getElem?_map, List.getElem?_mapIdx, List.getElem?_mapIdx]; cases S[n]? <;> rfl
  rw [e, e] at this
  exact this
theorem vD_named {S : List Int} {names : List Str} {e : Int} (hn : S.Nodup) (he : e ∈ S) : vD (mergeD [] (S.mapIdx fun n i => ((Sum.inl i : Key), D.str (names.getD n "")))) (.inl e) = some (.str (names.getD (S.idxOf e) "")) := by
  have hl := List.idxOf_lt_length_of_mem he
  have hg : S[S.idxOf e]? = some e := by rw [List.getElem?_eq_getElem hl, List.getElem_idxOf]
  rw [vD_merge (d0 := .str (names.getD (S.idxOf e) "")) _ _ fun q hq hk => ?_, if_pos]
  · rw [List.any_eq_true]
    refine ⟨(.inl e, .str (names.getD (S.idxOf e) "")), List.mem_iff_getElem?.mpr ⟨S.idxOf e, ?_⟩, by simp⟩
    rw [List.getElem?_mapIdx, hg]; rfl
  · obtain ⟨n, hq⟩ := List.mem_iff_getElem?.mp hq
    rw [List.getElem?_mapIdx] at hq
    cases hs : S[n]? with
    | none => rw [hs] at hq; cases hq
    | some i =>
      rw [hs] at hq
      have hq := Option.some.inj hq
      subst hq
      have hk : (Sum.inl i : Key) = .inl e := hk
      cases hk
      have hnl := (List.getElem?_eq_some_iff.mp hs).1
      have : n = S.idxOf e := by
        rcases Nat.lt_trichotomy n (S.idxOf e) with g | g | g
        · exact absurd hs (idxOf_first g)
        · exact g
        · have hp := List.pairwise_iff_getElem.mp hn _ _ hl hnl g
          refine absurd ?_ hp
          rw [List.getElem_idxOf]
          rw [List.getElem?_eq_getElem hnl] at hs
          exact (Option.some.inj hs).symm
      show D.str (names.getD n "") = _
      rw [this]
end Q


set_option Elab.async false
set_option linter.all false
set_option maxRecDepth 100000
set_option maxHeartbeats 2000000
set_option autoImplicit false
/-! Q52: renamed texts have the same distances. -/
namespace Q
open PySem PySem.Spec PyProof.Rows L2
theorem dist_inj {l : List Int} {f : Int → Str} (h : ∀ e ∈ l, ∀ e' ∈ l, f e = f e' → e = e') : dist (l.map f) = dist l := by
  have : Alike (l.map f) (l.map id) := Alike.maps fun x hx y hy => ⟨fun e => h x hx y hy e, fun e => by rw [show x = y from e]⟩
  have := this.dist
  rwa [List.map_id] at this
theorem sName_inj2 {p : Str} {m n : Int} (hm : 0 ≤ m) (hn : 0 ≤ n) (h : sName p m = sName p n) : m = n := by
  obtain ⟨a, rfl⟩ := Int.eq_ofNat_of_zero_le hm
  obtain ⟨b, rfl⟩ := Int.eq_ofNat_of_zero_le hn
  rw [sName_inj h]
theorem sName_ok2 (p : Str) (hp : PyData.strOk p = true) {m : Int} (hm : 0 ≤ m) : PyData.strOk (sName p m) = true := by
  obtain ⟨a, rfl⟩ := Int.eq_ofNat_of_zero_le hm
  exact sName_ok p hp a
theorem dist_sName {l : List Int} (p : Str) (h : ∀ e ∈ l, 0 ≤ e) : dist (l.map (sName p)) = dist l :=
  dist_inj fun e he e' he' hh => sName_inj2 (h e he) (h e' he') hh
theorem ids_same {u w : List Int} : (idsD (dist u) = idsD (dist w)) = (dist u = dist w) := propext ⟨fun h => by rw [← dist_ids u, ← dist_ids w, h], fun h => by rw [h]⟩
theorem comp_items {g : TGq} {tt : TTq} {te : TEq} {vs : List Nat} {a b : List D} {env : En} {k : List D → En → Prop} (h : a = b) (q : compQ g tt te vs b [] env k) : compQ g tt te vs a [] env k := h ▸ q
end Q


set_option Elab.async false
set_option linter.all false
set_option maxRecDepth 100000
set_option maxHeartbeats 2000000
set_option autoImplicit false
/-! Q53: edits of a text of numbers in order of first occurrence, and of the text reversed. -/
namespace Q
open PySem PySem.Spec PyProof.Rows L2
def insI (ns : List Int) (p : Nat) (s : Int) : List Int := dist ((idsD ns).take p ++ [s] ++ (idsD ns).drop p)
def delI (ns : List Int) (p : Nat) : List Int := dist ((idsD ns).take p ++ (idsD ns).drop (p + 1))
theorem ids_hit (w : List Int) {s : Int} (h0 : 0 ≤ s) : ∀ n, n ≤ w.length → s < zc ((dist w).take n) → s ∈ idsD (dist w)
  | 0, _, h => by
    rw [List.take_zero] at h
    exact absurd (show s < 0 from h) (by omega)
  | n + 1, hn, h => by
    have e : (dist w).take (n + 1) = (dist w).take n ++ [dAt w n] := by
      rw [List.take_add_one, dist_get w (by omega)]; rfl
    rw [e, zc_snoc] at h
    by_cases g : s < zc ((dist w).take n)
    · exact ids_hit w h0 n (by omega) g
    · by_cases d : dAt w n = 0
      · rw [if_pos d] at h
        have := ids_get w n (by omega)
        rw [if_pos d, show zc ((dist w).take n) = s by omega] at this
        exact List.mem_of_getElem? this
      · rw [if_neg d] at h
        omega
theorem ids_all (w : List Int) {s : Int} (h0 : 0 ≤ s) (h1 : s < zc (dist w)) : s ∈ idsD (dist w) :=
  ids_hit w h0 w.length (Nat.le_refl _) (by rw [List.take_of_length_le (by rw [dist_length]; exact Nat.le_refl _)]; exact h1)
theorem zc_rev (w : List Int) : zc (dist w.reverse) = zc (dist w) := by
  rw [← dd_zc, ← dd_zc]
  have p : (dd w.reverse).Perm (dd w) := (List.perm_ext_iff_of_nodup (dd_nodup2 _) (dd_nodup2 _)).mpr fun k => by rw [dd_mem, dd_mem, List.mem_reverse]
  rw [p.length_eq]
theorem put_erase {α : Type} (N : List α) (a : α) {p : Nat} (hp : p < N.length) : (N.take p ++ [a] ++ N.drop p).take (p + 1) ++ (N.take p ++ [a] ++ N.drop p).drop (p + 1 + 1) = N.take p ++ [a] ++ N.drop (p + 1) := by
  have hA : (N.take p ++ [a]).length = p + 1 := by rw [List.length_append, List.length_take, List.length_singleton]; omega
  rw [List.take_left' hA, List.drop_append, List.drop_eq_nil_of_le (by omega), List.nil_append, hA, List.drop_drop]
  congr 2; omega
theorem Alike.put {α β : Type} {N : List α} {L : List β} {a : α} {b : β} {p : Nat} (hp : p < N.length) (hl : N.length = L.length) (h : Alike (N.take p ++ [a] ++ N.drop p) (L.take p ++ [b] ++ L.drop p)) :
    Alike (N.take p ++ [a] ++ N.drop (p + 1)) (L.take p ++ [b] ++ L.drop (p + 1)) := by
  have := h.erase (p + 1) (by simp only [List.length_append, List.length_take, List.length_drop, List.length_singleton]; omega)
  rwa [put_erase N a hp, put_erase L b (by omega)] at this
theorem rev_ins {α : Type} (I : List α) (s : α) {p q : Nat} (h : p + q = I.length) : I.reverse.take q ++ [s] ++ I.reverse.drop q = (I.take p ++ [s] ++ I.drop p).reverse := by
  rw [List.take_reverse, List.drop_reverse, show I.length - q = p by omega]
  simp
theorem rev_put {α : Type} (I : List α) (s : α) {p q : Nat} (h : p + q + 1 = I.length) : I.reverse.take q ++ [s] ++ I.reverse.drop (q + 1) = (I.take p ++ [s] ++ I.drop (p + 1)).reverse := by
  rw [List.take_reverse, List.drop_reverse, show I.length - q = p + 1 by omega, show I.length - (q + 1) = p by omega]
  simp
theorem rev_era {α : Type} (I : List α) {p q : Nat} (h : p + q + 1 = I.length) : I.reverse.take q ++ I.reverse.drop (q + 1) = (I.take p ++ I.drop (p + 1)).reverse := by
  rw [List.take_reverse, List.drop_reverse, show I.length - q = p + 1 by omega, show I.length - (q + 1) = p by omega]
  simp
/-- the sign that stands in an edited text: one of before, or the fresh one -/
def frI (I : List Int) (n s : Int) : Int := if s < zc (dist I) then s else n
section
variable {I : List Int} {n s : Int} {p q : Nat}
theorem can_lt (hI : idsD (dist I) = I) {e : Int} (h : e ∈ I) : 0 ≤ e ∧ e < zc (dist I) := ids_lt I (by rw [hI]; exact h)
theorem can_mem (hI : idsD (dist I) = I) (h0 : 0 ≤ s) (h1 : s < zc (dist I)) : s ∈ I := by
  have := ids_all I h0 h1
  rwa [hI] at this
theorem fr_alike (hI : idsD (dist I) = I) (hn : n ∉ I) (hs : s ≤ zc (dist I)) (hp : p ≤ I.length) : Alike (I.take p ++ [s] ++ I.drop p) (I.take p ++ [frI I n s] ++ I.drop p) := by
  unfold frI
  split
  · exact Alike.refl _
  · refine (Alike.refl I).insert (fun j hj => ⟨fun e => ?_, fun e => absurd (List.mem_of_getElem? e) hn⟩) hp
    have := can_lt hI (List.mem_of_getElem? e)
    omega
theorem ins_fr (hI : idsD (dist I) = I) (hn : n ∉ I) (hs : s ≤ zc (dist I)) (hp : p ≤ I.length) : insI (dist I) p s = dist (I.take p ++ [frI I n s] ++ I.drop p) := by
  unfold insI
  rw [hI]
  exact (fr_alike hI hn hs hp).dist
theorem repl_fr (hI : idsD (dist I) = I) (hn : n ∉ I) (hs : s ≤ zc (dist I)) (hp : p < I.length) : replI (dist I) p s = dist (I.take p ++ [frI I n s] ++ I.drop (p + 1)) := by
  unfold replI
  rw [hI]
  exact (Alike.put hp rfl (fr_alike hI hn hs (by omega))).dist
theorem del_can (hI : idsD (dist I) = I) : delI (dist I) p = dist (I.take p ++ I.drop (p + 1)) := by
  unfold delI
  rw [hI]
theorem merge_can (hI : idsD (dist I) = I) (a b : Int) : mergeI (dist I) a b = dist (I.map fun s => if s = b then a else s) := by
  unfold mergeI
  rw [hI]
theorem split_can (hI : idsD (dist I) = I) (hn : n ∉ I) : splitI (dist I) p = dist (reSign I p (I.getD p 0) n) := by
  unfold splitI
  rw [hI]
  exact (reSign_alike (fun h => by have := can_lt hI h; omega) hn).dist
/-! reversed -/
theorem ins_rev (hI : idsD (dist I) = I) (hn : n ∉ I) (hs : s ≤ zc (dist I)) (h : p + q = I.length) :
    insI (dist I.reverse) q (laterI I.reverse s) = dist (I.take p ++ [frI I n s] ++ I.drop p).reverse := by
  unfold insI
  rw [(later_alike I.reverse s (p := q) (by rw [List.length_reverse]; omega)).dist, rev_ins I s h]
  exact (fr_alike hI hn hs (by omega)).reverse.dist
theorem repl_rev (hI : idsD (dist I) = I) (hn : n ∉ I) (hs : s ≤ zc (dist I)) (h : p + q + 1 = I.length) :
    replI (dist I.reverse) q (laterI I.reverse s) = dist (I.take p ++ [frI I n s] ++ I.drop (p + 1)).reverse := by
  have hJ : (idsD (dist I.reverse)).length = I.reverse.length := by rw [idsD_length, dist_length]
  unfold replI
  rw [(Alike.put (by rw [hJ, List.length_reverse]; omega) hJ (later_alike I.reverse s (p := q) (by rw [List.length_reverse]; omega))).dist, rev_put I s h]
  exact (Alike.put (by omega) rfl (fr_alike hI hn hs (by omega))).reverse.dist
theorem del_rev (h : p + q + 1 = I.length) : delI (dist I.reverse) q = dist (I.take p ++ I.drop (p + 1)).reverse := by
  unfold delI
  rw [((ids_alike I.reverse).erase q (by rw [idsD_length, dist_length, List.length_reverse]; omega)).dist, rev_era I h]
theorem later_rev1 (hI : idsD (dist I) = I) (h0 : 0 ≤ s) (h1 : s < zc (dist I)) : s ∈ I.reverse ∧ laterI I.reverse s = (idsD (dist I.reverse)).getD (I.reverse.idxOf s) 0 := by
  have : s ∈ I.reverse := List.mem_reverse.mpr (can_mem hI h0 h1)
  refine ⟨this, ?_⟩
  unfold laterI
  rw [if_pos this]
theorem later_rev2 (hI : idsD (dist I) = I) (h1 : s = zc (dist I)) : laterI I.reverse s = s := by
  have : s ∉ I.reverse := fun h => by have := can_lt hI (List.mem_reverse.mp h); omega
  unfold laterI
  rw [if_neg this, zc_rev, h1]
theorem later_le (L : List Int) (s : Int) : 0 ≤ laterI L s ∧ laterI L s ≤ zc (dist L) := by
  unfold laterI
  split
  · rename_i hs
    have h3 := List.idxOf_lt_length_of_mem hs
    have := ids_lt L (e := (idsD (dist L)).getD (L.idxOf s) 0) (by
      rw [List.getD_eq_getElem?_getD]
      obtain ⟨v, hv⟩ : ∃ v, (idsD (dist L))[L.idxOf s]? = some v := ⟨_, List.getElem?_eq_getElem (by rw [idsD_length, dist_length]; omega)⟩
      rw [hv]; exact List.mem_of_getElem? hv)
    omega
  · exact ⟨zc_nonneg _, Int.le_refl _⟩
end
/-! what an edit gives -/
inductive EdArgs (I : List Int) : Str → D → D → List Int → Prop
  | ins {p s : Int} : 0 ≤ p → p ≤ I.length → 0 ≤ s → s ≤ zc (dist I) → EdArgs I "insert" (.int p) (.int s) (insI (dist I) p.toNat s)
  | del {p : Int} {b : D} : 0 ≤ p → p < I.length → EdArgs I "delete" (.int p) b (delI (dist I) p.toNat)
  | rep {p s : Int} : 0 ≤ p → p < I.length → 0 ≤ s → s ≤ zc (dist I) → EdArgs I "replace" (.int p) (.int s) (replI (dist I) p.toNat s)
  | mrg {a b : Int} : 0 ≤ a → a < zc (dist I) → 0 ≤ b → b < zc (dist I) → EdArgs I "merge" (.int a) (.int b) (mergeI (dist I) a b)
  | spl {p : Int} {b : D} : 0 ≤ p → p < I.length → EdArgs I "split" (.int p) b (splitI (dist I) p.toNat)
/-- a drawn edit of a text and the edited text -/
inductive EdOf (I : List Int) (n : Int) : Str → D → D → List Int → Prop
  | ins {p s : Int} : 0 ≤ p → p ≤ I.length → 0 ≤ s → s ≤ zc (dist I) → EdOf I n "insert" (.int p) (.int s) (I.take p.toNat ++ [frI I n s] ++ I.drop p.toNat)
  | del {p : Int} : 0 ≤ p → p < I.length → EdOf I n "delete" (.int p) .non (I.take p.toNat ++ I.drop (p.toNat + 1))
  | rep {p s : Int} : 0 ≤ p → p < I.length → 0 ≤ s → s ≤ zc (dist I) → EdOf I n "replace" (.int p) (.int s) (I.take p.toNat ++ [frI I n s] ++ I.drop (p.toNat + 1))
  | mrg {a b : Int} : 0 ≤ a → a < zc (dist I) → 0 ≤ b → b < zc (dist I) → EdOf I n "merge" (.int a) (.int b) (I.map fun s => if s = b then a else s)
  | spl {p : Int} : 0 ≤ p → p < I.length → EdOf I n "split" (.int p) .non (reSign I p.toNat (I.getD p.toNat 0) n)
theorem ed_args {I : List Int} {n : Int} {k : Str} {a b : D} {E : List Int} (hI : idsD (dist I) = I) (hn : n ∉ I) (h : EdOf I n k a b E) : EdArgs I k a b (dist E) := by
  cases h with
  | ins h1 h2 h3 h4 => rw [← ins_fr hI hn h4 (by omega)]; exact .ins h1 h2 h3 h4
  | del h1 h2 => rw [← del_can hI]; exact .del h1 h2
  | rep h1 h2 h3 h4 => rw [← repl_fr hI hn h4 (by omega)]; exact .rep h1 h2 h3 h4
  | mrg h1 h2 h3 h4 => rw [← merge_can hI]; exact .mrg h1 h2 h3 h4
  | spl h1 h2 => rw [← split_can hI hn]; exact .spl h1 h2
theorem ed_length {I : List Int} {n : Int} {k : Str} {a b : D} {E : List Int} (h : EdOf I n k a b E) : E.length ≤ I.length + 1 := by
  cases h with
  | spl => rw [reSign_length]; omega
  | _ => simp only [List.length_append, List.length_take, List.length_drop, List.length_singleton, List.length_map]; omega
end Q


set_option Elab.async false
set_option linter.all false
set_option maxRecDepth 100000
set_option maxHeartbeats 2000000
set_option autoImplicit false
/-! Q54: a text among a tuple of texts. -/
namespace Q
open PySem PySem.Spec PyProof.Rows L2
theorem f_notInST {i : Str} {ns : List Str} {k : D → Prop} : fNotIn (.str i) (.tup (ns.map .str)) k = k (.bl (!decide (i ∈ ns))) := by
  unfold fNotIn; rw [fInB_t rfl (flat_strs ns), inD_strs]; rfl
theorem f_notIn3 {i a b c : Str} {k : D → Prop} : fNotIn (.str i) (.tup [.str a, .str b, .str c]) k = k (.bl (!decide (i ∈ [a, b, c]))) := f_notInST (ns := [a, b, c])
theorem notIn3_f {i a b c : Str} {k : D → Prop} (h : i ∈ [a, b, c]) (q : k (.bl false)) : fNotIn (.str i) (.tup [.str a, .str b, .str c]) k := by
  rw [f_notIn3, decide_eq_true h]; exact q
theorem notIn3_t {i a b c : Str} {k : D → Prop} (h : i ∉ [a, b, c]) (q : k (.bl true)) : fNotIn (.str i) (.tup [.str a, .str b, .str c]) k := by
  rw [f_notIn3, decide_eq_false h]; exact q
end Q


set_option Elab.async false
set_option linter.all false
set_option maxRecDepth 100000
set_option maxHeartbeats 2000000
set_option autoImplicit false
/-! Q55: {k: v for x in xs}. -/
namespace Q
open PySem PySem.Spec PyProof.Rows L2

/-- the turns over the items, the dict so far -/
def compDQ (g : TGq) (tt : TTq) (tk tv : TEq) (vs : List Nat) : List D → List (Key × D) → En → (List (Key × D) → En → Prop) → Prop
  | [], acc, env, k => k acc env
  | d :: ds, acc, env, k => g d env fun env1 => tt env1 (fun y env2 => if y = true then tk env2 (fun w env3 => ∃ kk, (res env3 w).bind keyD = some kk ∧ tv env3 (fun y env4 => ∃ e env5, sh1 env4 y = some (e, env5) ∧ acc.length < 10000000 ∧
      compDQ g tt tk tv vs ds (pD acc kk e) (wipeE env5 vs) k) (fun _ _ _ => False)) (fun _ _ _ => False)
      else compDQ g tt tk tv vs ds acc (wipeE env2 vs) k) fun _ _ _ => False
def qDc (qi : TIq) (g : TGq) (tt : TTq) (tk tv : TEq) (vs : List Nat) : TNq := fun env k x => qi env (fun items env1 => compDQ g tt tk tv vs items [] (wipeE env1 vs) fun acc env2 => k (.own (.dct acc)) env2) x
theorem sm_dc {c : Cg} {W : WX} {ti : TI} {qi : TIq} {t : TG} {ix vs : List Nat} {q : TGq} {tt : TT} {qt : TTq} {tk te : TE} {qk qe : TEq} (hi : SmI c W ti qi) (hg : SmG c ix t q) (hx : ∀ i ∈ ix, i ∈ vs) (ht : SmT c W0 tt qt) (hky : Sm c W0 tk qk) (he : Sm c W0 te qe) :
    SmN c W (tDc ti t tt tk te vs) (qDc qi q qt qk qe vs) := by
  intro F P S b σ H env k x Q R hq hxx hk
  refine hi F P S b σ H env _ x _ R hq hxx fun S0 H0 env0 J items R0 e0 wk h0 => ?_
  intro D' hD
  have n0 := R0.new hD
  have hF : F D' = none := R0.fh.free hD
  have dn : ∀ (i : Nat) (s : Sl), (wipeE env0 vs)[i]? = some s → i ∈ vs → s = .no := fun i s h hm => by
    rcases wipeE_get env0 vs i s h with ⟨_, e⟩ | ⟨a, _⟩
    · exact e
    · exact absurd hm a
  let Iv (i : Nat) (H1 : Hp) : Prop := ∃ (S1 : Hp) (env1 : En) (acc : List (Key × V)) (accD : List (Key × D)), Rel c F (upd P D' (.dK acc)) S1 b (wipe σ vs) H1 env1 ∧ Ext P S0 S1 ∧ S1 D' = none ∧ RepK c.K S1 acc accD ∧ (∀ j ∈ vs, ∀ s, env1[j]? = some s → s = .no) ∧
      compDQ q qt qk qe vs (items.drop i) accD env1 fun acc env2 => k (.own (.dct acc)) env2
  refine ⟨fun i m H1 => m = items.length - i ∧ i ≤ items.length ∧ Iv i H1, ⟨_, rfl, Nat.zero_le _, S0, wipeE env0 vs, [], [], ?_, Ext.refl, n0.2.1, .nil, fun j hj s h => dn j s h hj, h0⟩, ?_⟩
  · exact (((R0.alloc hD).guard n0.1 upd_same n0.2.1 n0.2.2 (R0.notOwn hD)).wipe (vs := vs))
  rintro i m H1 ⟨rfl, hil, S1, env1, acc, accD, R1, e1, hS1, r1, hw, h1⟩
  have hH1 : H1 D' = some (.dK acc) := R1.ph D' _ upd_same
  obtain ⟨w1, w2⟩ := wk i S1 H1 e1.1 R1.sh R1.fh
  have extP : ∀ {o : HO} {A B : Hp}, Ext (upd P D' o) A B → Ext P A B := fun {o A B} z => ⟨z.1, fun a h1 h2 => z.2 a h1 (by
    by_cases e : a = D'
    · subst e; rw [upd_same]; simp
    · rw [upd_ne e]; exact h2)⟩
  by_cases hlt : i < items.length
  · obtain ⟨go, yld⟩ := w1 items[i] (List.getElem?_eq_getElem hlt)
    refine .inr ⟨go, Iv (i + 1), fun H2 w => ⟨items.length - (i + 1), by omega, rfl, hlt, w⟩, fun v H2 y => ?_⟩
    obtain ⟨S2, R2, e2, r2⟩ := R1.yield (yld v H2 y)
    have hS2 : S2 D' = none := e2.2 D' hS1 (by rw [upd_same]; simp)
    rw [List.drop_eq_getElem_cons hlt] at h1
    refine hg F _ S2 b (wipe σ vs) H2 env1 v _ _ _ R2 r2 h1 fun σ3 env3 R3 o3 h3 => ?_
    have we : wipe σ3 vs = wipe σ vs := wipe_eq (o3.mono hx)
    refine ⟨we, ?_⟩
    refine ht F _ S2 b σ3 H2 env3 _ _ _ R3 h3 XOk.no fun S4 H4 env4 y4 R4 e4 h4 => ?_
    have hS4 : S4 D' = none := e4.2 D' hS2 (by rw [upd_same]; simp)
    have fin : ∀ (E : En) (j : Nat), j ∈ vs → ∀ s, (wipeE E vs)[j]? = some s → s = .no := fun E j hj s h => by
      rcases wipeE_get E vs j s h with ⟨_, e⟩ | ⟨a, _⟩
      · exact e
      · exact absurd hj a
    cases y4 with
    | false =>
      rw [if_neg Bool.false_ne_true] at h4 ⊢
      exact ⟨S4, wipeE env4 vs, acc, accD, by rw [← we]; exact R4.wipe, e1.trans ((extP e2).trans (extP e4)), hS4, r1.mono (e2.1.trans e4.1), fin env4, h4⟩
    | true =>
      rw [if_pos rfl] at h4 ⊢
      refine hky F _ S4 b σ3 H4 env4 _ _ _ R4 h4 XOk.no fun SK HK envK vK yK RK eK rK hK => ?_
      obtain ⟨kk, hkk, hK⟩ := hK
      obtain ⟨dk, hdk, hdk2⟩ := res_bind hkk
      have ek : vK = kV kk := keyV (RK.read rK hdk) hdk2
      refine he F _ SK b σ3 HK envK _ _ _ RK hK XOk.no fun S5 H5 env5 v5 y5 R5 e5 r5 h5 => ?_
      obtain ⟨ed, env6, hs, hl, h6⟩ := h5
      obtain ⟨S6, R6, e6, r6⟩ := sh1_ok R5 r5 hs
      have hS6 : S6 D' = none := e6.2 D' (e5.2 D' (eK.2 D' hS4 (by rw [upd_same]; simp)) (by rw [upd_same]; simp)) (by rw [upd_same]; simp)
      have acc6 : RepK c.K S6 acc accD := r1.mono (e2.1.trans (e4.1.trans (eK.1.trans (e5.1.trans e6.1))))
      refine ⟨acc, kk, ek, R6.ph D' _ upd_same, by rw [acc6.length]; exact size_lt hl, S6, wipeE env6 vs, putK acc kk v5, pD accD kk ed, ?_, e1.trans ((extP e2).trans ((extP e4).trans ((extP eK).trans ((extP e5).trans (extP e6))))), hS6, RepK.put r6 acc6, fin env6, h6⟩
      rw [← we]
      exact (R6.reguard n0.1 hF hS6 n0.2.2).wipe
  · have e : i = items.length := by omega
    subst e
    rw [List.drop_length] at h1
    refine .inl ⟨w2 (Nat.le_refl _), ?_⟩
    have R2 : Rel c F P S1 b σ H1 env1 := (R1.unguard n0.1 R0.fp).unwipe hw
    refine hk S1 H1 env1 (.ref D') (.own (.dct accD)) R2 (e0.trans e1) ⟨D', rfl, n0.1, hS1, n0.2.2, .dct hH1 r1⟩ (fun d _ j ed p hp h2 h3 => ?_) h1
    cases hp
    have nj : j ∉ vs := fun z => by cases hw j z _ h3
    obtain ⟨a1, _⟩ := R1.ownAt (by rw [wipe_get σ vs j nj]; exact h2) h3
    rw [upd_same] at a1; cases a1
section
variable {X : Cx} {g : Gd} {W : WX} {tg iter kx vx : Expr} {ifs : List Expr} {scope : Scope} {own : List (Str × Nat)} {ti : TI} {qi : TIq} {q : TGq} {qt : TTq} {qk qe : TEq} {pos : Pos}
  {t : Shared → Hp → Addr → List (Str × Addr) → List Addr → TG} {tt : Shared → Hp → Addr → List (Str × Addr) → List Addr → TT} {tk te : Shared → Hp → Addr → List (Str × Addr) → List Addr → TE}
theorem qn_dcB (own : List (Str × Nat)) (hc : X.calm = true) (hN : X.N.Nodup) (hi : QI X g W tg iter ti qi) (ok : BlkOk X.N X.env.scope scope own)
    (hg : ∀ (s : Shared) (H : Hp) (C : Addr) (cl : List (Str × Addr)) (fp : List Addr), QG (X.blk s H scope (compEnvC scope cl C X.env) fp) g (own.map (·.2)) tg (t s H C cl fp) q) (ht : ∀ (s : Shared) (H : Hp) (C : Addr) (cl : List (Str × Addr)) (fp : List Addr), QTs (X.blk s H scope (compEnvC scope cl C X.env) fp) g ifs (tt s H C cl fp) qt)
    (hky : ∀ (s : Shared) (H : Hp) (C : Addr) (cl : List (Str × Addr)) (fp : List Addr), QE (X.blk s H scope (compEnvC scope cl C X.env) fp) g W0 kx (tk s H C cl fp) qk)
    (he : ∀ (s : Shared) (H : Hp) (C : Addr) (cl : List (Str × Addr)) (fp : List Addr), QE (X.blk s H scope (compEnvC scope cl C X.env) fp) g W0 vx (te s H C cl fp) qe) (hs : ∀ x, foldedSetIterable iter X.env x = pure x := by intro _; rfl)
    (e1 : ∀ s H C cl fp, t s H C cl fp = t X.s_0 X.H_0 0 [] [] := by intros; rfl) (e2 : ∀ s H C cl fp, tt s H C cl fp = tt X.s_0 X.H_0 0 [] [] := by intros; rfl) (e4 : ∀ s H C cl fp, tk s H C cl fp = tk X.s_0 X.H_0 0 [] [] := by intros; rfl) (e3 : ∀ s H C cl fp, te s H C cl fp = te X.s_0 X.H_0 0 [] [] := by intros; rfl) :
    QN X g W (.DictComp kx vx [⟨tg, iter, ifs, 0⟩] scope pos) (tDc ti (t X.s_0 X.H_0 0 [] []) (tt X.s_0 X.H_0 0 [] []) (tk X.s_0 X.H_0 0 [] []) (te X.s_0 X.H_0 0 [] []) (own.map (·.2))) (qDc qi q qt qk qe (own.map (·.2))) :=
  ⟨pe_dc hc hN hi.pi ok (fun s H C cl fp => e1 s H C cl fp ▸ (hg s H C cl fp).pg) (fun s H C cl fp => e2 s H C cl fp ▸ (ht s H C cl fp).pts) (fun s H C cl fp => e4 s H C cl fp ▸ (hky s H C cl fp).pe) (fun s H C cl fp => e3 s H C cl fp ▸ (he s H C cl fp).pe) hs,
    fun N => sm_dc (hi.sm N) ((hg X.s_0 X.H_0 0 [] []).sm N) (fun _ h => h) ((ht X.s_0 X.H_0 0 [] []).sm N) ((hky X.s_0 X.H_0 0 [] []).sm N) ((he X.s_0 X.H_0 0 [] []).sm N)⟩
end
theorem e_dc {qi : TIq} {g : TGq} {qt : TTq} {qk q : TEq} {vs : List Nat} {env : En} {kn : Rv → En → Prop} {x : XQ} : qDc qi g qt qk q vs env kn x = qi env (fun items env1 => wp env1 vs fun env2 => compDQ g qt qk q vs items [] env2 (hold (fun acc env3 => kn (.own (.dct acc)) env3) .mk)) x := rfl
def dcStep (g : TGq) (tt : TTq) (tk te : TEq) (vs : List Nat) (acc : List (Key × D)) (X : List (Key × D) → En → Prop) (d : D) (env : En) : Prop :=
  g d env fun env1 => tt env1 (fun y env2 => cIf y (hold (fun _ => tk env2 (fun w env3 => rd env3 w (dK fun kk => te env3 (fun y env3 => sh1C env3 y fun e env4 => acc.length < 10000000 ∧ wp env4 vs (X (pD acc kk e))) (fun _ _ _ => False))) (fun _ _ _ => False)) .mk) (hold (fun _ => wp env2 vs (X acc)) .mk)) fun _ _ _ => False
theorem dc_rule {α : Type} {g : TGq} {tt : TTq} {tk te : TEq} {vs : List Nat} {items : List D} {k : List (Key × D) → En → Prop} (E : α → En) (I : Nat → α → List (Key × D) → Prop) (a0 : α) (h0 : I 0 a0 [])
    (hs : ∀ n d a acc (X : List (Key × D) → En → Prop), items[n]? = some d → I n a acc → (∀ a' acc', I (n + 1) a' acc' → X acc' (E a')) → dcStep g tt tk te vs acc X d (E a))
    (he : ∀ a acc, I items.length a acc → k acc (E a)) : compDQ g tt tk te vs items [] (E a0) k := by
  have key : ∀ (ds : List D) (n : Nat) (a : α) (acc : List (Key × D)), items.drop n = ds → n ≤ items.length → I n a acc → compDQ g tt tk te vs ds acc (E a) k := by
    intro ds
    induction ds with
    | nil =>
      intro n a acc hd hn hI
      have hl : items.length - n = 0 := by rw [← List.length_drop, hd]; rfl
      have : n = items.length := by omega
      subst this
      exact he a acc hI
    | cons d ds ih =>
      intro n a acc hd hn hI
      have h1 : items[n]? = some d := by
        have : (items.drop n)[0]? = some d := by rw [hd]; rfl
        rw [List.getElem?_drop] at this
        simpa using this
      have h2 : items.drop (n + 1) = ds := by rw [← List.drop_drop, hd]; rfl
      have h3 : n < items.length := by
        rcases Nat.lt_or_ge n items.length with h | h
        · exact h
        · rw [List.getElem?_eq_none h] at h1; cases h1
      have q := hs n d a acc (fun acc' env' => compDQ g tt tk te vs ds acc' env' k) h1 hI fun a' acc' hI' => ih (n + 1) a' acc' h2 h3 hI'
      have e : ∀ env2, dcStep g tt tk te vs acc (fun acc' env' => compDQ g tt tk te vs ds acc' env' k) d env2 = compDQ g tt tk te vs (d :: ds) acc env2 k := fun env2 => by
        dsimp only [dcStep, hold]
        simp only [← rd_K]
        rfl
      rw [e] at q
      exact q
  exact key items 0 a0 [] rfl (Nat.zero_le _) h0
/-- pairs of numbers, as they stand -/
theorem dc_pure {g : TGq} {tt : TTq} {tk te : TEq} {vs : List Nat} {items : List D} {env : En} {k : List (Key × D) → En → Prop} (f : D → Key) (v : D → D)
    (hs : ∀ n d acc (X : List (Key × D) → En → Prop), items[n]? = some d → acc.length ≤ n → X (pD acc (f d) (v d)) env → dcStep g tt tk te vs acc X d env)
    (he : k (items.foldl (fun a d => pD a (f d) (v d)) []) env) : compDQ g tt tk te vs items [] env k := by
  have pl : ∀ (a : List (Key × D)) (kk : Key) (e : D), (pD a kk e).length ≤ a.length + 1 := fun a kk e => by
    unfold pD
    split
    · rw [List.length_map]; omega
    · simp
  have fl : ∀ (l : List D), (l.foldl (fun a d => pD a (f d) (v d)) []).length ≤ l.length := fun l => by
    have : ∀ (l : List D) (a : List (Key × D)), (l.foldl (fun a d => pD a (f d) (v d)) a).length ≤ a.length + l.length := fun l => by
      induction l with
      | nil => intro a; exact Nat.le_refl _
      | cons d l ih =>
        intro a
        have h1 := ih (pD a (f d) (v d))
        have h2 := pl a (f d) (v d)
        rw [List.foldl_cons, List.length_cons]
        omega
    have := this l []
    simpa using this
  refine dc_rule (fun _ : Unit => env) (fun n _ acc => acc = (items.take n).foldl (fun a d => pD a (f d) (v d)) []) () (by simp) (fun n d a acc X hd hI hX => ?_) fun a acc h => ?_
  · refine hs n d acc X hd ?_ ?_
    · rw [hI]
      have := fl (items.take n)
      rw [List.length_take] at this
      omega
    · refine hX () _ ?_
      rw [hI, List.take_add_one, hd]
      simp
  · rw [List.take_length] at h
    rw [h]
    exact he
end Q


set_option Elab.async false
set_option linter.all false
set_option maxRecDepth 100000
set_option maxHeartbeats 2000000
set_option autoImplicit false
/-! Q56: list(range(n)), list(range(a, b)). -/
namespace Q
open PySem PySem.Spec PyProof.Rows L2
section
variable {K : Fg} {S : Hp} {c : Cg} {W : WX} {ta tb : TE} {q qa qb : TEq}
theorem reps_rg (a b : Int) : Reps K S (rgV a b) (ranged a (b - a).toNat) := by
  unfold rgV ranged
  have : ∀ l : List Nat, Reps K S (l.map fun i => V.int (a + (i : Nat))) (l.map fun i => D.int (a + (i : Nat))) := fun l => by
    induction l with
    | nil => exact .nil
    | cons i l ih => exact .cons (.int _) ih
  exact this _
def qLstRg1 (q : TEq) : TNq := fun env k x => q env (fun y env1 => ∃ n, res env1 y = some (.int n) ∧ n ≤ 16777216 ∧ 0 ≤ n ∧ k (.own (.lst (ranged 0 n.toNat))) env1) x
def qLstRg2 (qa qb : TEq) : TNq := fun env k x => qa env (fun y env1 => qb env1 (fun z env2 => ∃ m n, res env2 y = some (.int m) ∧ res env2 z = some (.int n) ∧ (0 ≤ m ∧ m ≤ 16777216 ∧ n ≤ 16777216 ∧ 0 ≤ n) ∧ k (.own (.lst (ranged m (n - m).toNat))) env2) x) x
theorem sm_lstRg1 (ha : Sm c W ta q) : SmN c W (tLstRg (tRg1 ta)) (qLstRg1 q) := by
  intro F P S b σ H env k x Q R hq hx hk
  refine ha F P S b σ H env _ x _ R hq hx fun S1 H1 env1 v y R1 e1 r1 h1 => ?_
  obtain ⟨n, hn, h2, h3, h4⟩ := h1
  refine ⟨n, (R1.read r1 hn).scal (w := .int n) rfl, .of_le (Int.le_refl 0) h2 (by omega) h3, fun p hp => ?_⟩
  have nw := R1.new hp
  refine hk S1 (upd H1 p _) env1 (.ref p) (.own _) (R1.alloc hp) e1 ⟨p, rfl, nw.1, nw.2.1, nw.2.2, .lst upd_same ?_⟩ (fun _ _ i e q hq => ?_) h4
  · have := reps_rg (K := c.K) (S := S1) 0 n
    rwa [Int.sub_zero] at this
  · cases hq
    exact R1.notOwn hp i e
theorem sm_lstRg2 (ha : Sm c W ta qa) (hb : Sm c W tb qb) : SmN c W (tLstRg (tRg2 ta tb)) (qLstRg2 qa qb) := by
  intro F P S b σ H env k x Q R hq hx hk
  refine ha F P S b σ H env _ x _ R hq hx fun S1 H1 env1 v y R1 e1 r1 h1 => ?_
  refine hb F P S1 b σ H1 env1 _ x _ R1 h1 (hx.mono e1) fun S2 H2 env2 u z R2 e2 r2 h2 => ?_
  obtain ⟨m, n, hm, hn, ⟨g1, g2, g3, g4⟩, h4⟩ := h2
  refine ⟨m, n, (R2.read (r1.mono e2.1) hm).scal (w := .int m) rfl, (R2.read r2 hn).scal (w := .int n) rfl, .of_le g1 g3 g2 g4, fun p hp => ?_⟩
  have nw := R2.new hp
  refine hk S2 (upd H2 p _) env2 (.ref p) (.own _) (R2.alloc hp) (e1.trans e2) ⟨p, rfl, nw.1, nw.2.1, nw.2.2, .lst upd_same (reps_rg m n)⟩ (fun _ _ i e q hq => ?_) h4
  cases hq
  exact R2.notOwn hp i e
end
section
variable {X : Cx} {g : Gd} {W : WX} {e e2 : Expr} {ta tb : TE} {qa qb : TEq} {p p2 pos q : Pos}
theorem qn_lstRg1 (hc : X.calm = true) (hg : Gl X "list") (hm : X.mg "list" = none) (hg2 : Gl X "range") (hm2 : X.mg "range" = none) (ha : QE X g W e ta qa) (na : starEach [e] X.env = (false, eval e X.env) :: starEach [] X.env := by rfl)
    (nb : starEach [.Call (.Name "range" p2) [e] [] q] X.env = (false, eval (.Call (.Name "range" p2) [e] [] q) X.env) :: starEach [] X.env := by rfl) : QN X g W (.Call (.Name "list" p) [.Call (.Name "range" p2) [e] [] q] [] pos) (tLstRg (tRg1 ta)) (qLstRg1 qa) :=
  ⟨pe_listRg hc hg hm (prg_1 hg2 hm2 ha.pe na) nb, fun N => sm_lstRg1 (ha.sm N)⟩
theorem qn_lstRg2 (hc : X.calm = true) (hg : Gl X "list") (hm : X.mg "list" = none) (hg2 : Gl X "range") (hm2 : X.mg "range" = none) (ha : QE X g W e ta qa) (hb : QE X g W e2 tb qb) (na : starEach [e, e2] X.env = (false, eval e X.env) :: starEach [e2] X.env := by rfl)
    (nc : starEach [e2] X.env = (false, eval e2 X.env) :: starEach [] X.env := by rfl) (hp : (backTo q (starEach [e2] X.env)).any (·.1) = false := by rfl)
    (nb : starEach [.Call (.Name "range" p2) [e, e2] [] q] X.env = (false, eval (.Call (.Name "range" p2) [e, e2] [] q) X.env) :: starEach [] X.env := by rfl) : QN X g W (.Call (.Name "list" p) [.Call (.Name "range" p2) [e, e2] [] q] [] pos) (tLstRg (tRg2 ta tb)) (qLstRg2 qa qb) :=
  ⟨pe_listRg hc hg hm (prg_2 hg2 hm2 ha.pe hb.pe na nc hp) nb, fun N => sm_lstRg2 (ha.sm N) (hb.sm N)⟩
end
theorem e_lstRg1 {q : TEq} {env : En} {kn : Rv → En → Prop} {x : XQ} : qLstRg1 q env kn x = q env (fun y env1 => rd env1 y (dI fun n => n ≤ 16777216 ∧ 0 ≤ n ∧ kn (.own (.lst (ranged 0 n.toNat))) env1)) x := by
  unfold qLstRg1; simp only [rd_I]
theorem e_lstRg2 {qa qb : TEq} {env : En} {kn : Rv → En → Prop} {x : XQ} : qLstRg2 qa qb env kn x = qa env (fun y env1 => qb env1 (fun z env2 => rd env2 y (dI fun m => rd env2 z (dI fun n => (0 ≤ m ∧ m ≤ 16777216 ∧ n ≤ 16777216 ∧ 0 ≤ n) ∧ kn (.own (.lst (ranged m (n - m).toNat))) env2))) x) x := by
  unfold qLstRg2
  congr 1; funext y env1
  congr 1; funext z env2
  simp only [← rd_I]
  exact propext ⟨fun ⟨m, n, a, b, h⟩ => ⟨m, a, n, b, h⟩, fun ⟨m, a, n, b, h⟩ => ⟨m, n, a, b, h⟩⟩
theorem upto_mem {n : Nat} {i : Int} : i ∈ upto n ↔ 0 ≤ i ∧ i < n := by
  unfold upto
  simp only [List.mem_map, List.mem_range]
  constructor
  · rintro ⟨a, h, rfl⟩; omega
  · rintro ⟨h1, h2⟩; exact ⟨i.toNat, by omega, by omega⟩
theorem upto_nodup (n : Nat) : (upto n).Nodup := by
  unfold upto
  refine List.Pairwise.map _ (fun a b h => ?_) List.nodup_range
  intro e; exact h (by omega)
theorem upto_sorted (n : Nat) : (upto n).Pairwise (· < ·) := by
  unfold upto
  refine List.Pairwise.map _ (fun a b h => ?_) List.pairwise_lt_range
  omega
end Q


set_option Elab.async false
set_option linter.all false
set_option maxRecDepth 100000
set_option maxHeartbeats 2000000
set_option autoImplicit false
/-! Q57: mappings between symbols, concatenations. -/
namespace Q
open PySem PySem.Spec PyProof.Rows L2
def prA (e : D) : Int := toI ((itemsOf e).getD 0 .non)
def prZ (e : D) : Int := toI ((itemsOf e).getD 1 .non)
def prOk (own other : Int) (e : D) : Bool := isSeq e && decide ((itemsOf e).length = 2) && intIn 0 (.int (own - 1)) ((itemsOf e).getD 0 .non) && intIn 0 (.int (other - 1)) ((itemsOf e).getD 1 .non)
def prsM (d : D) : List (Int × Int) := (itemsOf d).map fun e => (prA e, prZ e)
def ascB (ns : List Int) : Bool := (ns.zip (ns.drop 1)).all fun p => decide (p.1 < p.2)
def isMap (own other : Int) (d : D) : Bool := isSeq d && (itemsOf d).all (prOk own other) && ascB ((itemsOf d).map prA) && decide ((dd ((itemsOf d).map prZ)).length = (itemsOf d).length)
def kvM (ps : List (Int × Int)) : List (Key × D) := ps.map fun p => ((Sum.inl p.1 : Key), D.int p.2)
def mapTo (ps : List (Int × Int)) (c s : Int) : Int := toI ((vD (mergeD [] (kvM ps)) (.inl s)).getD (.int (c + s)))
def catI (A B : List Int) (ps : List (Int × Int)) : List Int := dist (idsD A ++ (idsD B).map (mapTo ps (zc A)))
/-- a mapping of some of own symbols to different ones of other symbols -/
structure MapOk (own other : Int) (ps : List (Int × Int)) : Prop where
  asc : (ps.map (·.1)).Pairwise (· < ·)
  dif : (ps.map (·.2)).Nodup
  bd : ∀ p ∈ ps, 0 ≤ p.1 ∧ p.1 < own ∧ 0 ≤ p.2 ∧ p.2 < other
theorem asc_pw : ∀ {ns : List Int}, ns.Pairwise (· < ·) → ascB ns = true
  | [], _ => rfl
  | [_], _ => rfl
  | a :: b :: r, h => by
    have h1 := (List.pairwise_cons.mp h).1 b (List.mem_cons_self ..)
    have h2 := asc_pw (List.pairwise_cons.mp h).2
    unfold ascB at h2 ⊢
    rw [show (a :: b :: r).drop 1 = b :: r from rfl, List.zip_cons_cons, List.all_cons, decide_eq_true h1, Bool.true_and]
    exact h2
/-- a value that lists the pairs -/
inductive PairsD : List D → List (Int × Int) → Prop
  | nil : PairsD [] []
  | lst {a b : Int} {ds : List D} {ps : List (Int × Int)} : PairsD ds ps → PairsD (.lst [.int a, .int b] :: ds) ((a, b) :: ps)
  | tup {a b : Int} {ds : List D} {ps : List (Int × Int)} : PairsD ds ps → PairsD (.tup [.int a, .int b] :: ds) ((a, b) :: ps)
theorem PairsD.length : ∀ {ds : List D} {ps : List (Int × Int)}, PairsD ds ps → ds.length = ps.length
  | _, _, .nil => rfl
  | _, _, .lst r => congrArg (· + 1) r.length
  | _, _, .tup r => congrArg (· + 1) r.length
theorem PairsD.prs : ∀ {ds : List D} {ps : List (Int × Int)}, PairsD ds ps → ds.map (fun e => (prA e, prZ e)) = ps
  | _, _, .nil => rfl
  | _, _, .lst r => congrArg _ r.prs
  | _, _, .tup r => congrArg _ r.prs
theorem PairsD.ok {own other : Int} : ∀ {ds : List D} {ps : List (Int × Int)}, PairsD ds ps → (∀ p ∈ ps, 0 ≤ p.1 ∧ p.1 < own ∧ 0 ≤ p.2 ∧ p.2 < other) → ds.all (prOk own other) = true
  | _, _, .nil, _ => rfl
  | _, _, .lst (a := a) (b := b) r, h => by
    rw [List.all_cons, r.ok fun p hp => h p (List.mem_cons_of_mem _ hp), Bool.and_true]
    obtain ⟨h1, h2, h3, h4⟩ := h _ (List.mem_cons_self ..)
    show (true && true && intIn 0 (.int (own - 1)) (.int a) && intIn 0 (.int (other - 1)) (.int b)) = true
    rw [in_ok h1 (by show a ≤ own - 1; omega), in_ok h3 (by show b ≤ other - 1; omega)]; rfl
  | _, _, .tup (a := a) (b := b) r, h => by
    rw [List.all_cons, r.ok fun p hp => h p (List.mem_cons_of_mem _ hp), Bool.and_true]
    obtain ⟨h1, h2, h3, h4⟩ := h _ (List.mem_cons_self ..)
    show (true && true && intIn 0 (.int (own - 1)) (.int a) && intIn 0 (.int (other - 1)) (.int b)) = true
    rw [in_ok h1 (by show a ≤ own - 1; omega), in_ok h3 (by show b ≤ other - 1; omega)]; rfl
theorem PairsD.noScr : ∀ {ds : List D} {ps : List (Int × Int)}, PairsD ds ps → ∀ e ∈ ds, notScr e = true ∧ (itemsOf e).length ≤ 2
  | _, _, .nil, _, h => (nomatch h)
  | _, _, .lst r, e, h => by
    rcases List.mem_cons.mp h with rfl | h
    · exact ⟨rfl, Nat.le_refl 2⟩
    · exact r.noScr e h
  | _, _, .tup r, e, h => by
    rcases List.mem_cons.mp h with rfl | h
    · exact ⟨rfl, Nat.le_refl 2⟩
    · exact r.noScr e h
theorem PairsD.shw : ∀ {ds : List D} {ps : List (Int × Int)}, PairsD ds ps → (∀ p ∈ ps, p.1.natAbs < 10 ^ 12 ∧ p.2.natAbs < 10 ^ 12) → ∀ e ∈ ds, Shw e 1 33
  | _, _, .nil, _, _, h => (nomatch h)
  | _, _, .lst r, hb, e, h => by
    rcases List.mem_cons.mp h with rfl | h
    · have := hb _ (List.mem_cons_self ..)
      exact (shw_lst (shws_cons (shw_int this.1) (shws_cons (shw_int this.2) shws_nil))).mono (by decide) (by decide)
    · exact r.shw (fun p hp => hb p (List.mem_cons_of_mem _ hp)) e h
  | _, _, .tup r, hb, e, h => by
    rcases List.mem_cons.mp h with rfl | h
    · have := hb _ (List.mem_cons_self ..)
      exact (shw_tup (shws_cons (shw_int this.1) (shws_cons (shw_int this.2) shws_nil))).mono (by decide) (by decide)
    · exact r.shw (fun p hp => hb p (List.mem_cons_of_mem _ hp)) e h
theorem PairsD.snoc {ds : List D} {ps : List (Int × Int)} {a b : Int} : PairsD ds ps → ∀ {e : D}, (e = .lst [.int a, .int b] ∨ e = .tup [.int a, .int b]) → PairsD (ds ++ [e]) (ps ++ [(a, b)])
  | .nil, e, h => by rcases h with rfl | rfl; exact .lst .nil; exact .tup .nil
  | .lst r, e, h => .lst (r.snoc h)
  | .tup r, e, h => .tup (r.snoc h)
theorem pairsD_tups : ∀ ps : List (Int × Int), PairsD (ps.map fun p => .tup [.int p.1, .int p.2]) ps
  | [] => .nil
  | p :: ps => .tup (pairsD_tups ps)
theorem PairsD.map {own other : Int} {d : D} {ds : List D} {ps : List (Int × Int)} (h : PairsD ds ps) (m : MapOk own other ps) (hd : d = .lst ds ∨ d = .tup ds) : isMap own other d = true ∧ prsM d = ps := by
  have e : itemsOf d = ds := by rcases hd with rfl | rfl <;> rfl
  have es : isSeq d = true := by rcases hd with rfl | rfl <;> rfl
  have e1 : ds.map prA = ps.map (·.1) := by rw [← h.prs, List.map_map]; rfl
  have e2 : ds.map prZ = ps.map (·.2) := by rw [← h.prs, List.map_map]; rfl
  unfold isMap prsM
  rw [e, es, h.ok m.bd, e1, e2, asc_pw m.asc, dd_nodup m.dif, List.length_map, h.length]
  refine ⟨by simp, h.prs⟩
section
variable {own other c s t : Int} {ps : List (Int × Int)}
theorem mapTo_in (m : MapOk own other ps) (h : (s, t) ∈ ps) : mapTo ps c s = t := by
  unfold mapTo
  rw [vD_merge (d0 := .int t) _ _ fun p hp hk => ?_, if_pos]
  · rfl
  · rw [List.any_eq_true]
    exact ⟨_, List.mem_map.mpr ⟨_, h, rfl⟩, by simp⟩
  · obtain ⟨q, hq, rfl⟩ := List.mem_map.mp hp
    have hk : (Sum.inl q.1 : Key) = .inl s := hk
    have hk : q.1 = s := Sum.inl.inj hk
    obtain ⟨i, hi⟩ := List.mem_iff_getElem?.mp hq
    obtain ⟨j, hj⟩ := List.mem_iff_getElem?.mp h
    have hij : i = j := by
      rcases Nat.lt_trichotomy i j with hl | hl | hl
      · have := List.pairwise_iff_getElem.mp m.asc i j (by rw [List.length_map]; exact (List.getElem?_eq_some_iff.mp hi).1) (by rw [List.length_map]; exact (List.getElem?_eq_some_iff.mp hj).1) hl
        obtain ⟨h1, h2⟩ := List.getElem?_eq_some_iff.mp hi
        obtain ⟨h3, h4⟩ := List.getElem?_eq_some_iff.mp hj
        simp only [List.getElem_map, h2, h4] at this
        omega
      · exact hl
      · have := List.pairwise_iff_getElem.mp m.asc j i (by rw [List.length_map]; exact (List.getElem?_eq_some_iff.mp hj).1) (by rw [List.length_map]; exact (List.getElem?_eq_some_iff.mp hi).1) hl
        obtain ⟨h1, h2⟩ := List.getElem?_eq_some_iff.mp hi
        obtain ⟨h3, h4⟩ := List.getElem?_eq_some_iff.mp hj
        simp only [List.getElem_map, h2, h4] at this
        omega
    subst hij
    rw [hi] at hj
    cases hj
    rfl
theorem mapTo_out (h : ∀ t, (s, t) ∉ ps) : mapTo ps c s = c + s := by
  unfold mapTo
  rw [vD_merge (d0 := .non) _ _ fun p hp hk => ?_, if_neg]
  · rfl
  · rw [List.any_eq_true]
    rintro ⟨p, hp, hk⟩
    obtain ⟨q, hq, rfl⟩ := List.mem_map.mp hp
    have hk : (Sum.inl q.1 : Key) = .inl s := of_decide_eq_true hk
    have hk : q.1 = s := Sum.inl.inj hk
    subst hk
    exact h _ hq
  · obtain ⟨q, hq, rfl⟩ := List.mem_map.mp hp
    have hk : (Sum.inl q.1 : Key) = .inl s := hk
    have hk : q.1 = s := Sum.inl.inj hk
    subst hk
    exact absurd hq (h _)
theorem mapTo_cases (m : MapOk own other ps) : (∃ t, (s, t) ∈ ps ∧ mapTo ps c s = t ∧ 0 ≤ t ∧ t < other) ∨ mapTo ps c s = c + s := by
  by_cases h : ∃ t, (s, t) ∈ ps
  · obtain ⟨t, ht⟩ := h
    have := m.bd _ ht
    exact .inl ⟨t, ht, mapTo_in m ht, this.2.2.1, this.2.2.2⟩
  · exact .inr (mapTo_out fun t ht => h ⟨t, ht⟩)
theorem mapTo_inj {s' : Int} (m : MapOk own other ps) (hc : other ≤ c) (h0 : 0 ≤ s) (h1 : 0 ≤ s') (h : mapTo ps c s = mapTo ps c s') : s = s' := by
  rcases mapTo_cases (c := c) (s := s) m with ⟨t, ht, e, b1, b2⟩ | e <;> rcases mapTo_cases (c := c) (s := s') m with ⟨t', ht', e', b1', b2'⟩ | e' <;> rw [e, e'] at h
  · subst h
    obtain ⟨i, hi⟩ := List.mem_iff_getElem?.mp ht
    obtain ⟨j, hj⟩ := List.mem_iff_getElem?.mp ht'
    have := (List.getElem?_inj (i := i) (j := j) (by rw [List.length_map]; exact (List.getElem?_eq_some_iff.mp hi).1) m.dif).mp (by rw [List.getElem?_map, List.getElem?_map, hi, hj]; rfl)
    subst this
    rw [hi] at hj
    cases hj
    rfl
  · omega
  · omega
  · omega
end
theorem dist_injI {l : List Int} {f : Int → Int} (h : ∀ e ∈ l, ∀ e' ∈ l, f e = f e' → e = e') : dist (l.map f) = dist l := by
  have : Alike (l.map f) (l.map id) := Alike.maps fun x hx y hy => ⟨fun e => h x hx y hy e, fun e => by rw [show x = y from e]⟩
  have := this.dist
  rwa [List.map_id] at this
section
variable {a b : List Int} {ps : List (Int × Int)}
theorem cat_length (A B : List Int) (ps : List (Int × Int)) : (catI A B ps).length = A.length + B.length := by
  unfold catI
  rw [dist_length, List.length_append, List.length_map, idsD_length, idsD_length]
theorem cat_first : winI (catI (dist a) (dist b) ps) 0 a.length = dist a := by
  unfold catI
  rw [win_dist, show (0 : Int).toNat = 0 from rfl, List.drop_zero, Int.toNat_natCast, List.take_left' (by rw [idsD_length, dist_length]), dist_ids]
theorem cat_second (m : MapOk (zc (dist b)) (zc (dist a)) ps) : winI (catI (dist a) (dist b) ps) a.length b.length = dist b := by
  unfold catI
  rw [win_dist, Int.toNat_natCast, Int.toNat_natCast, List.drop_left' (by rw [idsD_length, dist_length]), List.take_of_length_le (by rw [List.length_map, idsD_length, dist_length]; exact Nat.le_refl _)]
  rw [dist_injI fun e he e' he' h => mapTo_inj m (Int.le_refl _) (ids_lt b he).1 (ids_lt b he').1 h, dist_ids]
end
theorem fst_zip : ∀ (xs ys : List Int), (xs.zip ys).map (·.1) = xs.take ys.length
  | [], ys => by simp
  | x :: xs, [] => by simp
  | x :: xs, y :: ys => by simp [fst_zip xs ys]
theorem snd_zip : ∀ (xs ys : List Int), (xs.zip ys).map (·.2) = ys.take xs.length
  | [], ys => by simp
  | x :: xs, [] => by simp
  | x :: xs, y :: ys => by simp [snd_zip xs ys]
theorem map_zip {own other : Nat} {xs ys : List Int} (h1 : xs.Pairwise (· < ·)) (h2 : ∀ x ∈ xs, 0 ≤ x ∧ x < own) (h3 : ys.Perm (upto other)) : MapOk own other (xs.zip ys) := by
  refine ⟨?_, ?_, fun p hp => ?_⟩
  · rw [fst_zip]
    exact h1.sublist (List.take_sublist _ _)
  · rw [snd_zip]
    exact (h3.nodup_iff.mpr (upto_nodup other)).sublist (List.take_sublist _ _)
  · obtain ⟨p1, p2⟩ := List.of_mem_zip (show (p.1, p.2) ∈ xs.zip ys from hp)
    have q1 := h2 _ p1
    have q2 := upto_mem.mp (h3.mem_iff.mp p2)
    exact ⟨q1.1, q1.2, q2.1, q2.2⟩
/-- a strictly ascending list out of some of the numbers -/
theorem sort_strict {xs zs : List Int} (h : xs.Pairwise (· ≤ ·)) (p : xs.Perm zs) (hn : zs.Nodup) : xs.Pairwise (· < ·) := by
  have hx : xs.Nodup := p.nodup_iff.mpr hn
  have := List.Pairwise.and h hx
  exact this.imp fun ⟨a, b⟩ => by omega
theorem asc_len : ∀ (l : List Int) (lo hi : Int), l.Pairwise (· < ·) → (∀ x ∈ l, lo ≤ x ∧ x < hi) → l.length ≤ (hi - lo).toNat
  | [], _, _, _, _ => Nat.zero_le _
  | a :: l, lo, hi, h, hb => by
    have h1 := List.pairwise_cons.mp h
    have h2 := asc_len l (a + 1) hi h1.2 fun x hx => ⟨by have := h1.1 x hx; omega, (hb x (List.mem_cons_of_mem _ hx)).2⟩
    have h3 := hb a (List.mem_cons_self ..)
    rw [List.length_cons]
    omega
theorem MapOk.len {own other : Int} {ps : List (Int × Int)} (m : MapOk own other ps) : ps.length ≤ own.toNat := by
  have := asc_len (ps.map (·.1)) 0 own m.asc fun x hx => by
    obtain ⟨p, hp, rfl⟩ := List.mem_map.mp hx
    have := m.bd p hp
    exact ⟨this.1, this.2.1⟩
  rw [List.length_map] at this
  omega
theorem MapOk.dropLast {own other : Int} {ps : List (Int × Int)} (m : MapOk own other ps) : MapOk own other ps.dropLast :=
  ⟨by rw [List.map_dropLast]; exact m.asc.sublist (List.dropLast_sublist _), by rw [List.map_dropLast]; exact m.dif.sublist (List.dropLast_sublist _), fun p hp => m.bd p (List.dropLast_subset _ hp)⟩
theorem prOk_form {own other : Int} {e : D} (h : prOk own other e = true) (hs : notScr e = true) : ∃ a b : Int, e = .lst [.int a, .int b] ∨ e = .tup [.int a, .int b] := by
  unfold prOk at h
  simp only [Bool.and_eq_true, decide_eq_true_eq] at h
  obtain ⟨⟨⟨h1, h2⟩, h3⟩, h4⟩ := h
  have key : ∀ ds : List D, ds.length = 2 → intIn 0 (.int (own - 1)) (ds.getD 0 .non) = true → intIn 0 (.int (other - 1)) (ds.getD 1 .non) = true → ∃ a b : Int, ds = [.int a, .int b] := fun ds hl g1 g2 => by
    match ds, hl, g1, g2 with
    | [x, y], _, g1, g2 =>
      replace g1 : intIn 0 (.int (own - 1)) x = true := g1
      replace g2 : intIn 0 (.int (other - 1)) y = true := g2
      cases x <;> first | (cases g1; done) | skip
      cases y <;> first | (cases g2; done) | skip
      exact ⟨_, _, rfl⟩
  cases e <;> first | (cases h1; done) | (cases hs; done) | skip
  · obtain ⟨a, b, e⟩ := key _ h2 h3 h4
    exact ⟨a, b, .inl (congrArg D.lst e)⟩
  · obtain ⟨a, b, e⟩ := key _ h2 h3 h4
    exact ⟨a, b, .inr (congrArg D.tup e)⟩
theorem pairs_of {own other : Int} : ∀ {ds : List D}, ds.all (prOk own other) = true → (∀ e ∈ ds, notScr e = true) → PairsD ds (ds.map fun e => (prA e, prZ e))
  | [], _, _ => .nil
  | e :: ds, h, hs => by
    rw [List.all_cons, Bool.and_eq_true] at h
    obtain ⟨a, b, rfl | rfl⟩ := prOk_form h.1 (hs e (List.mem_cons_self ..))
    · exact .lst (pairs_of h.2 fun e he => hs e (List.mem_cons_of_mem _ he))
    · exact .tup (pairs_of h.2 fun e he => hs e (List.mem_cons_of_mem _ he))
theorem PairsD.at : ∀ {ds : List D} {ps : List (Int × Int)}, PairsD ds ps → ∀ {n : Nat} {e : D}, ds[n]? = some e → ∃ a b : Int, e = .lst [.int a, .int b] ∨ e = .tup [.int a, .int b]
  | _, _, .nil, n, e, h => by simp at h
  | _, _, .lst r, 0, e, h => by simp at h; exact ⟨_, _, .inl h.symm⟩
  | _, _, .tup r, 0, e, h => by simp at h; exact ⟨_, _, .inr h.symm⟩
  | _, _, .lst r, n + 1, e, h => r.at (n := n) (by simpa using h)
  | _, _, .tup r, n + 1, e, h => r.at (n := n) (by simpa using h)
theorem zipped_ints (a b : List Int) : zipped (a.map .int) (b.map .int) = (a.zip b).map fun p => .tup [.int p.1, .int p.2] := by
  unfold zipped
  rw [List.zip_map, List.map_map]; rfl
/-- a comprehension over items that are made from a list -/
theorem comp_on {α : Type} {g : TGq} {tt : TTq} {te : TEq} {vs : List Nat} {l : List α} {env : En} {k : List D → En → Prop} (f : α → D) (p : α → Bool) (v : α → D)
    (hs : ∀ (n : Nat) (a : α) (acc : List D) (X : List D → En → Prop), l[n]? = some a → n < l.length → acc.length ≤ n → (p a = true → X (acc ++ [v a]) env) → (p a = false → X acc env) → compStep g tt te vs acc X (f a) env)
    (he : k ((l.filter p).map v) env) : compQ g tt te vs (l.map f) [] env k := by
  refine comp_rule (fun _ : Unit => env) (fun n _ acc => acc = ((l.take n).filter p).map v) () (by simp) (fun n d a acc X hd hI hX => ?_) fun a acc h => ?_
  · rw [List.getElem?_map] at hd
    cases e : l[n]? with
    | none => rw [e] at hd; cases hd
    | some x =>
      rw [e] at hd
      cases hd
      have hn := (List.getElem?_eq_some_iff.mp e).1
      have ha : acc.length ≤ n := by
        rw [hI, List.length_map]
        exact Nat.le_trans (List.length_filter_le ..) (by rw [List.length_take]; omega)
      refine hs n x acc X e hn ha (fun hp => hX () _ ?_) fun hp => hX () _ ?_
      · rw [hI, List.take_add_one, e]; simp [hp]
      · rw [hI, List.take_add_one, e]; simp [hp]
  · rw [List.length_map, List.take_length] at h
    rw [h]
    exact he
theorem kvM_int : ∀ (ps : List (Int × Int)) (kvs : List (Key × D)), (∀ k e, vD kvs k = some e → ∃ t : Int, e = .int t) → ∀ k e, vD (mergeD kvs (kvM ps)) k = some e → ∃ t : Int, e = .int t
  | [], _, h, k, e, q => h k e q
  | p :: ps, kvs, h, k, e, q => by
    refine kvM_int ps (pD kvs (.inl p.1) (.int p.2)) (fun k e q => ?_) k e q
    rw [vD_put] at q
    split at q
    · cases q; exact ⟨_, rfl⟩
    · exact h k e q
theorem mapTo_some {ps : List (Int × Int)} {c s : Int} {e : D} (h : vD (mergeD [] (kvM ps)) (.inl s) = some e) : e = .int (mapTo ps c s) := by
  obtain ⟨t, rfl⟩ := kvM_int ps [] (fun k e q => by cases q) _ _ h
  unfold mapTo
  rw [h]; rfl
theorem mapTo_none {ps : List (Int × Int)} {c s : Int} (h : vD (mergeD [] (kvM ps)) (.inl s) = none) : mapTo ps c s = c + s := by
  unfold mapTo
  rw [h]; rfl
theorem perm_ints {es : List D} {ns : List Int} (h : es.Perm (ns.map .int)) : ∃ zs : List Int, es = zs.map .int ∧ zs.Perm ns := by
  refine ⟨es.map toI, ?_, ?_⟩
  · rw [List.map_map]
    refine (List.map_id es).symm.trans (List.map_congr_left fun d hd => ?_)
    obtain ⟨i, _, rfl⟩ := List.mem_map.mp (h.mem_iff.mp hd)
    rfl
  · have := h.map toI
    rwa [List.map_map, show (toI ∘ D.int) = id from rfl, List.map_id] at this
theorem pairs_tups (ps : List (Int × Int)) : pairsD (ps.map fun p => .tup [.int p.1, .int p.2]) = some (kvM ps) := by
  induction ps with
  | nil => rfl
  | cons p ps ih => rw [List.map_cons]; unfold pairsD; rw [ih]; rfl
theorem kv_fold (ds : List D) : ds.foldl (fun a d => pD a (.inl (prA d)) (.int (prZ d))) [] = mergeD [] (kvM (ds.map fun e => (prA e, prZ e))) := by
  unfold mergeD kvM
  rw [List.map_map, List.foldl_map]
  rfl
end Q


set_option Elab.async false
set_option linter.all false
set_option maxRecDepth 100000
set_option maxHeartbeats 2000000
set_option autoImplicit false
/-! Q58: a comprehension over an own list that stays one's own. -/
namespace Q
open PySem PySem.Spec PyProof.Rows L2
def qLcO (i : Nat) (g : TGq) (tt : TTq) (te : TEq) (vs : List Nat) : TNq := fun env k _ => ∃ ds, env[i]? = some (.own (.lst ds)) ∧ i ∉ vs ∧ compQ g tt te vs ds [] (wipeE (env.set i .no) vs) fun acc env2 => env2[i]? = some .no ∧ k (.own (.lst acc)) (env2.set i (.own (.lst ds)))
section
variable {c : Cg} {F P S S' H H' : Hp} {b : Option Addr} {σ : L2.St} {env : En}
/-- less is known of a slot -/
theorem Rel.drop (R : Rel c F P S b σ H env) (i : Nat) : Rel c F P S b σ H (env.set i .no) := by
  refine ⟨by rw [List.length_set]; exact R.len, R.fp, R.ph, R.sh, fun p e => ⟨(R.bg p e).1, (R.bg p e).2.1, (R.bg p e).2.2.mono (Same.refl _) rfl (bud_le env i _ rfl)⟩, fun j s v h1 h2 => ?_, fun j k q d d' hjk h1 h2 h3 h4 => ?_⟩
  · rcases getElem?_set' h1 with ⟨_, e, _⟩ | ⟨_, e⟩
    · subst e; trivial
    · exact R.sl j s v e h2
  · rcases getElem?_set' h2 with ⟨_, e, _⟩ | ⟨_, e⟩
    · cases e
    · rcases getElem?_set' h4 with ⟨_, e', _⟩ | ⟨_, e'⟩
      · cases e'
      · exact R.ap j k q d d' hjk h1 e h3 e'
/-- a slot's own object is known again -/
theorem Rel.regain {p : Addr} {d : D} {i : Nat} (R : Rel c F P S b σ H env) (h1 : σ[i]? = some (some (.ref p))) (hP : P p = none) (hS : S p = none) (hb : b ≠ some p) (ho : OwnAt c.K S H p d) (hn : ∀ (j : Nat) (e : D), j ≠ i → σ[j]? = some (some (.ref p)) → env[j]? ≠ some (.own e)) :
    Rel c F P S b σ H (env.set i (.own d)) := by
  refine ⟨by rw [List.length_set]; exact R.len, R.fp, R.ph, R.sh, fun p e => ⟨(R.bg p e).1, (R.bg p e).2.1, (R.bg p e).2.2.mono (Same.refl _) rfl (bud_le env i _ rfl)⟩, fun j s v h3 h4 => ?_, fun j k q e e' hjk g1 g2 g3 g4 => ?_⟩
  · rcases getElem?_set' h3 with ⟨z, e, _⟩ | ⟨_, e⟩
    · subst z; subst e
      rw [h1] at h4; cases h4
      exact ⟨p, rfl, hP, hS, hb, ho⟩
    · exact R.sl j s v e h4
  · rcases getElem?_set' g2 with ⟨z, e2, _⟩ | ⟨nz, e2⟩
    · rcases getElem?_set' g4 with ⟨z', _, _⟩ | ⟨nz', e4⟩
      · exact hjk (z.trans z'.symm)
      · subst z
        rw [h1] at g1; cases g1
        exact hn k e' nz' g3 e4
    · rcases getElem?_set' g4 with ⟨z', e4, _⟩ | ⟨_, e4⟩
      · subst z'
        rw [h1] at g3; cases g3
        exact hn j e nz g1 e2
      · exact R.ap j k q e e' hjk g1 e2 g3 e4
end
theorem sm_lcO {c : Cg} {W : WX} {i : Nat} {t : TG} {ix vs : List Nat} {q : TGq} {tt : TT} {qt : TTq} {te : TE} {qe : TEq} (hg : SmG c ix t q) (hx : ∀ i ∈ ix, i ∈ vs) (ht : SmT c W0 tt qt) (he : Sm c W0 te qe) : SmN c W (tLc (iSeq c.K (tVar i)) t tt te vs) (qLcO i q qt qe vs) := by
  intro F P S b σ H env k x Q R hq hxx hk
  obtain ⟨items, hi, hiv, h0⟩ := hq
  obtain ⟨v, hv, hso⟩ := R.slot hi
  cases v with
  | none => exact hso.elim
  | some v =>
  obtain ⟨pi, rfl, hPi, hSi, hbi, hOi⟩ := hso
  cases hOi with
  | @lst xi _ hHi hRi =>
  -- the list is guarded
  generalize hP' : upd P pi (.lst xi) = P'
  have R0 : Rel c F P' S b σ H (env.set i .no) := by
    rw [← hP']
    refine (R.drop i).guard hPi hHi hSi hbi fun j d h1 h2 => ?_
    rcases getElem?_set' h2 with ⟨_, e, _⟩ | ⟨ne, e⟩
    · cases e
    · exact R.ap j i pi d _ ne h1 e hv hi
  have hP'i : P' pi = some (.lst xi) := by rw [← hP']; exact upd_same
  have extP0 : ∀ {A B : Hp}, Ext P' A B → Ext P A B := fun {A B} z => ⟨z.1, fun a h1 h2 => z.2 a h1 (by
    rw [← hP']
    by_cases e : a = pi
    · subst e; rw [upd_same]; simp
    · rw [upd_ne e]; exact h2)⟩
  refine ⟨_, hv, pi, rfl, ?_⟩
  have wz := walks_at (F := P') (K := c.K) (S := S) (H0 := H) (v := .ref pi) (d := .lst items) (items := items) (.lst hHi hRi) rfl fun S1 H1 s1 _ s3 => .lst (s3 _ _ hP'i) (hRi.mono s1)
  obtain ⟨a', ea, wz⟩ := wz
  cases ea
  have main : ∀ J : It, Walks c.K P' S J items → ∀ D, H D = none → ∃ W : Nat → Nat → Hp → Prop, (∃ m, W 0 m (upd H D (.lst []))) ∧ ∀ i m H, W i m H → (J.stop i H ∧ Q (.ref D) H) ∨ (J.go i H ∧ ∃ Nx : Hp → Prop, (∀ H', Nx H' → ∃ m', m' < m ∧ W (i + 1) m' H') ∧ ∀ x H', J.yld i H x H' → t x (wipe σ vs) H' fun σ2 H2 => wipe σ2 vs = wipe σ vs ∧ tt σ2 H2 fun b H3 =>
      if b = true then te σ2 H3 fun y H4 => ∃ xs, H4 D = some (.lst xs) ∧ xs.length < sizeLine ∧ Nx (upd H4 D (.lst (xs ++ [y]))) else Nx H3) := by
    intro J wk D' hD
    have n0 := R0.new hD
    have hF : F D' = none := R0.fh.free hD
    have dn : ∀ (j : Nat) (s : Sl), (wipeE (env.set i .no) vs)[j]? = some s → j ∈ vs → s = .no := fun j s h hm => by
      rcases wipeE_get _ vs j s h with ⟨_, e⟩ | ⟨a, _⟩
      · exact e
      · exact absurd hm a
    let Iv (j : Nat) (H1 : Hp) : Prop := ∃ (S1 : Hp) (env1 : En) (acc : List V) (accD : List D), Rel c F (upd P' D' (.lst acc)) S1 b (wipe σ vs) H1 env1 ∧ Ext P' S S1 ∧ S1 D' = none ∧ Reps c.K S1 acc accD ∧ (∀ j ∈ vs, ∀ s, env1[j]? = some s → s = .no) ∧
        compQ q qt qe vs (items.drop j) accD env1 fun acc env2 => env2[i]? = some .no ∧ k (.own (.lst acc)) (env2.set i (.own (.lst items)))
    refine ⟨fun j m H1 => m = items.length - j ∧ j ≤ items.length ∧ Iv j H1, ⟨_, rfl, Nat.zero_le _, S, wipeE (env.set i .no) vs, [], [], ?_, Ext.refl, n0.2.1, .nil, fun j hj s h => dn j s h hj, h0⟩, ?_⟩
    · exact (((R0.alloc hD).guard n0.1 upd_same n0.2.1 n0.2.2 (R0.notOwn hD)).wipe (vs := vs))
    rintro j m H1 ⟨rfl, hil, S1, env1, acc, accD, R1, e1, hS1, r1, hw, h1⟩
    have hH1 : H1 D' = some (.lst acc) := R1.ph D' _ upd_same
    have sP : Same P' H1 := (same_upd n0.1).trans R1.ph
    obtain ⟨w1, w2⟩ := wk j S1 H1 e1.1 R1.sh sP
    have extP : ∀ {o : HO} {A B : Hp}, Ext (upd P' D' o) A B → Ext P' A B := fun {o A B} z => ⟨z.1, fun a h1 h2 => z.2 a h1 (by
      by_cases e : a = D'
      · subst e; rw [upd_same]; simp
      · rw [upd_ne e]; exact h2)⟩
    by_cases hlt : j < items.length
    · obtain ⟨go, yld⟩ := w1 items[j] (List.getElem?_eq_getElem hlt)
      refine .inr ⟨go, Iv (j + 1), fun H2 w => ⟨items.length - (j + 1), by omega, rfl, hlt, w⟩, fun v H2 y => ?_⟩
      obtain ⟨S2, R2, e2, r2⟩ := R1.yield (yld v H2 y)
      have hS2 : S2 D' = none := e2.2 D' hS1 (by rw [upd_same]; simp)
      rw [List.drop_eq_getElem_cons hlt] at h1
      refine hg F _ S2 b (wipe σ vs) H2 env1 v _ _ _ R2 r2 h1 fun σ3 env3 R3 o3 h3 => ?_
      have we : wipe σ3 vs = wipe σ vs := wipe_eq (o3.mono hx)
      refine ⟨we, ?_⟩
      refine ht F _ S2 b σ3 H2 env3 _ _ _ R3 h3 XOk.no fun S4 H4 env4 y4 R4 e4 h4 => ?_
      have hS4 : S4 D' = none := e4.2 D' hS2 (by rw [upd_same]; simp)
      have fin : ∀ (E : En) (j : Nat), j ∈ vs → ∀ s, (wipeE E vs)[j]? = some s → s = .no := fun E j hj s h => by
        rcases wipeE_get E vs j s h with ⟨_, e⟩ | ⟨a, _⟩
        · exact e
        · exact absurd hj a
      cases y4 with
      | false =>
        rw [if_neg Bool.false_ne_true] at h4 ⊢
        exact ⟨S4, wipeE env4 vs, acc, accD, by rw [← we]; exact R4.wipe, e1.trans ((extP e2).trans (extP e4)), hS4, r1.mono (e2.1.trans e4.1), fin env4, h4⟩
      | true =>
        rw [if_pos rfl] at h4 ⊢
        refine he F _ S4 b σ3 H4 env4 _ _ _ R4 h4 XOk.no fun S5 H5 env5 v5 y5 R5 e5 r5 h5 => ?_
        obtain ⟨ed, env6, hs, hl, h6⟩ := h5
        obtain ⟨S6, R6, e6, r6⟩ := sh1_ok R5 r5 hs
        have hS6 : S6 D' = none := e6.2 D' (e5.2 D' hS4 (by rw [upd_same]; simp)) (by rw [upd_same]; simp)
        have acc6 : Reps c.K S6 acc accD := r1.mono (e2.1.trans (e4.1.trans (e5.1.trans e6.1)))
        refine ⟨acc, R6.ph D' _ upd_same, by rw [acc6.length]; exact size_lt hl, S6, wipeE env6 vs, acc ++ [v5], accD ++ [ed], ?_, e1.trans ((extP e2).trans ((extP e4).trans ((extP e5).trans (extP e6)))), hS6, acc6.append (.cons r6 .nil), fin env6, h6⟩
        rw [← we]
        exact (R6.reguard n0.1 hF hS6 n0.2.2).wipe
    · have e : j = items.length := by omega
      subst e
      rw [List.drop_length] at h1
      obtain ⟨hno, h1⟩ := h1
      refine .inl ⟨w2 (Nat.le_refl _), ?_⟩
      have R2 : Rel c F P' S1 b σ H1 env1 := (R1.unguard n0.1 R0.fp).unwipe hw
      have hS1i : S1 pi = none := e1.2 pi hSi (by rw [hP'i]; simp)
      have hFP : Same F P := R.fp
      have R3 : Rel c F P S1 b σ H1 env1 := by
        rw [← hP'] at R2
        exact R2.unguard hPi hFP
      have ow : OwnAt c.K S1 H1 pi (.lst items) := .lst (sP _ _ hP'i) (hRi.mono e1.1)
      have noi : ∀ (j : Nat) (e : D), j ≠ i → σ[j]? = some (some (.ref pi)) → env1[j]? ≠ some (.own e) := fun j e _ h2 h3 => by
        obtain ⟨a1, _⟩ := R2.ownAt h2 h3
        rw [hP'i] at a1; cases a1
      have R4 := R3.regain hv hPi hS1i hbi ow noi
      have dne : pi ≠ D' := fun z => by rw [← z] at hD; rw [hHi] at hD; cases hD
      refine hk S1 H1 _ (.ref D') (.own (.lst accD)) R4 (extP0 e1) ⟨D', rfl, ?_, hS1, n0.2.2, .lst hH1 r1⟩ (fun d _ j ed p hp h2 h3 => ?_) h1
      · have := n0.1
        rw [← hP', upd_ne (Ne.symm dne)] at this
        exact this
      · cases hp
        rcases getElem?_set' h3 with ⟨z, _, _⟩ | ⟨nz, e⟩
        · subst z
          rw [hv] at h2; cases h2
          exact dne rfl
        · have nj : j ∉ vs := fun z => by cases hw j z _ e
          obtain ⟨a1, _⟩ := R1.ownAt (by rw [wipe_get σ vs j nj]; exact h2) e
          rw [upd_same] at a1; cases a1
  rcases wz with ⟨z1, z3⟩ | ⟨z1, z3⟩
  · exact .inl ⟨z1, main _ z3⟩
  · exact .inr ⟨z1, main _ z3⟩
section
variable {X : Cx} {g : Gd} {W : WX} {tg elt : Expr} {ifs : List Expr} {scope : Scope} {own : List (Str × Nat)} {q : TGq} {qt : TTq} {qe : TEq} {pos p : Pos} {i : Nat} {y : Str}
  {t : Shared → Hp → Addr → List (Str × Addr) → List Addr → TG} {tt : Shared → Hp → Addr → List (Str × Addr) → List Addr → TT} {te : Shared → Hp → Addr → List (Str × Addr) → List Addr → TE}
theorem qn_lcO (i : Nat) (own : List (Str × Nat)) (hc : X.calm = true) (hN : X.N.Nodup) (hy : X.N[i]? = some y) (hv : Vis X.env.scope y) (ok : BlkOk X.N X.env.scope scope own)
    (hg : ∀ (s : Shared) (H : Hp) (C : Addr) (cl : List (Str × Addr)) (fp : List Addr), QG (X.blk s H scope (compEnvC scope cl C X.env) fp) g (own.map (·.2)) tg (t s H C cl fp) q) (ht : ∀ (s : Shared) (H : Hp) (C : Addr) (cl : List (Str × Addr)) (fp : List Addr), QTs (X.blk s H scope (compEnvC scope cl C X.env) fp) g ifs (tt s H C cl fp) qt)
    (he : ∀ (s : Shared) (H : Hp) (C : Addr) (cl : List (Str × Addr)) (fp : List Addr), QE (X.blk s H scope (compEnvC scope cl C X.env) fp) g W0 elt (te s H C cl fp) qe) (hd : (y == ("__debug__" : Str)) = false := by decide) (hcd : (y == ("__classdict__" : Str)) = false := by decide) (hs : ∀ x, foldedSetIterable (.Name y p) X.env x = pure x := by intro _; rfl)
    (e1 : ∀ s H C cl fp, t s H C cl fp = t X.s_0 X.H_0 0 [] [] := by intros; rfl) (e2 : ∀ s H C cl fp, tt s H C cl fp = tt X.s_0 X.H_0 0 [] [] := by intros; rfl) (e3 : ∀ s H C cl fp, te s H C cl fp = te X.s_0 X.H_0 0 [] [] := by intros; rfl) :
    QN X g W (.ListComp elt [⟨tg, .Name y p, ifs, 0⟩] scope pos) (tLc (iSeq X.K (tVar i)) (t X.s_0 X.H_0 0 [] []) (tt X.s_0 X.H_0 0 [] []) (te X.s_0 X.H_0 0 [] []) (own.map (·.2))) (qLcO i q qt qe (own.map (·.2))) :=
  ⟨pe_lc hc hN (pi_seq (pe_var hy hv hd hcd)) ok (fun s H C cl fp => e1 s H C cl fp ▸ (hg s H C cl fp).pg) (fun s H C cl fp => e2 s H C cl fp ▸ (ht s H C cl fp).pts) (fun s H C cl fp => e3 s H C cl fp ▸ (he s H C cl fp).pe) hs,
    fun N => sm_lcO ((hg X.s_0 X.H_0 0 [] []).sm N) (fun _ h => h) ((ht X.s_0 X.H_0 0 [] []).sm N) ((he X.s_0 X.H_0 0 [] []).sm N)⟩
theorem qs_setLcO {k : Nat} {yt : Str} {py spos : Pos} (i : Nat) (own : List (Str × Nat)) (hc : X.calm = true) (hN : X.N.Nodup) (hyt : X.N[k]? = some yt) (hyl : X.env.scope.names.lookup yt = some .local) (hsw : swapsWith (.ListComp elt [⟨tg, .Name y p, ifs, 0⟩] scope pos) (some (.Name yt py)) spos.line X.env = pure true) (hy : X.N[i]? = some y) (hv : Vis X.env.scope y) (ok : BlkOk X.N X.env.scope scope own)
    (hg : ∀ (s : Shared) (H : Hp) (C : Addr) (cl : List (Str × Addr)) (fp : List Addr), QG (X.blk s H scope (compEnvC scope cl C X.env) fp) g (own.map (·.2)) tg (t s H C cl fp) q) (ht : ∀ (s : Shared) (H : Hp) (C : Addr) (cl : List (Str × Addr)) (fp : List Addr), QTs (X.blk s H scope (compEnvC scope cl C X.env) fp) g ifs (tt s H C cl fp) qt)
    (he : ∀ (s : Shared) (H : Hp) (C : Addr) (cl : List (Str × Addr)) (fp : List Addr), QE (X.blk s H scope (compEnvC scope cl C X.env) fp) g W0 elt (te s H C cl fp) qe) (hd : (y == ("__debug__" : Str)) = false := by decide) (hcd : (y == ("__classdict__" : Str)) = false := by decide) (hs : ∀ x, foldedSetIterable (.Name y p) X.env x = pure x := by intro _; rfl)
    (e1 : ∀ s H C cl fp, t s H C cl fp = t X.s_0 X.H_0 0 [] [] := by intros; rfl) (e2 : ∀ s H C cl fp, tt s H C cl fp = tt X.s_0 X.H_0 0 [] [] := by intros; rfl) (e3 : ∀ s H C cl fp, te s H C cl fp = te X.s_0 X.H_0 0 [] [] := by intros; rfl) :
    QS X g W (.Assign [.Name yt py] (.ListComp elt [⟨tg, .Name y p, ifs, 0⟩] scope pos) spos) (tAsg (tLc (iSeq X.K (tVar i)) (t X.s_0 X.H_0 0 [] []) (tt X.s_0 X.H_0 0 [] []) (te X.s_0 X.H_0 0 [] []) (own.map (·.2))) (gName k)) (qSetN k (qLcO i q qt qe (own.map (·.2)))) :=
  ⟨ps_setLc hc hN hyt hyl hsw (pi_seq (pe_var hy hv hd hcd)) ok (fun s H C cl fp => e1 s H C cl fp ▸ (hg s H C cl fp).pg) (fun s H C cl fp => e2 s H C cl fp ▸ (ht s H C cl fp).pts) (fun s H C cl fp => e3 s H C cl fp ▸ (he s H C cl fp).pe) hs,
    fun N => sm_setN (sm_lcO ((hg X.s_0 X.H_0 0 [] []).sm N) (fun _ h => h) ((ht X.s_0 X.H_0 0 [] []).sm N) ((he X.s_0 X.H_0 0 [] []).sm N))⟩
end
def isNo : Sl → Prop
  | .no => True
  | _ => False
theorem f_isNo : isNo .no = True := rfl
theorem e_lcO {i : Nat} {g : TGq} {qt : TTq} {q : TEq} {vs : List Nat} {env : En} {kn : Rv → En → Prop} {x : XQ} : qLcO i g qt q vs env kn x = lk env i (sO (dL fun ds => i ∉ vs ∧ st env i .no fun env1 => wp env1 vs fun env2 => compQ g qt q vs ds [] env2 (hold (fun acc env3 => lk env3 i isNo ∧ st env3 i (.own (.lst ds)) (kn (.own (.lst acc)))) .mk))) := by
  apply propext
  unfold qLcO lk
  constructor
  · rintro ⟨ds, h1, h2, h3⟩
    rw [h1]
    refine ⟨h2, ?_⟩
    show compQ _ _ _ _ _ _ _ _
    refine cast (congrArg _ ?_) h3
    funext acc env3
    apply propext
    show _ ↔ (match env3[i]? with | some s => isNo s | none => False) ∧ kn _ _
    cases e : env3[i]? with
    | none => simp
    | some s => cases s <;> simp [isNo]
  · intro h
    cases e : env[i]? with
    | none => rw [e] at h; exact h.elim
    | some s =>
      rw [e] at h
      cases s with
      | own d =>
        cases d with
        | lst ds =>
          obtain ⟨h2, h3⟩ := h
          refine ⟨ds, rfl, h2, ?_⟩
          refine cast (congrArg _ ?_) h3
          funext acc env3
          apply propext
          show (match env3[i]? with | some s => isNo s | none => False) ∧ kn _ _ ↔ _
          cases e : env3[i]? with
          | none => simp
          | some s => cases s <;> simp [isNo]
        | _ => exact h.elim
      | _ => exact h.elim
/-! tuple(x) of a shared x, a tuple too -/
def qTupSh (qa : TEq) : TNq := fun env k x => qa env (fun y env1 => ∃ d env2, sh1 env1 y = some (d, env2) ∧ ∃ ds, (d = .lst ds ∨ d = .tup ds) ∧ k (.sh (.tup ds)) env2) x
def dLT (f : List D → Prop) : D → Prop
  | .lst c => f c
  | .tup c => f c
  | _ => False
theorem f_dLTl {f : List D → Prop} {c : List D} : dLT f (.lst c) = f c := rfl
theorem f_dLTt {f : List D → Prop} {c : List D} : dLT f (.tup c) = f c := rfl
theorem e_tupSh {q : TEq} {env : En} {kn : Rv → En → Prop} {x : XQ} : qTupSh q env kn x = q env (fun y env1 => sh1C env1 y fun d env2 => dLT (hold (fun ds => kn (.sh (.tup ds)) env2) .mk) d) x := by
  have : ∀ (d : D) (f : List D → Prop), (∃ ds, (d = .lst ds ∨ d = .tup ds) ∧ f ds) = dLT f d := fun d f => by
    apply propext
    constructor
    · rintro ⟨ds, rfl | rfl, q⟩ <;> exact q
    · intro q
      cases d <;> first | exact q.elim | exact ⟨_, .inl rfl, q⟩ | exact ⟨_, .inr rfl, q⟩
  unfold qTupSh sh1C
  simp only [this]
  rfl
section
variable {X : Cx} {g : Gd} {W : WX} {a : Expr} {ta : TE} {qa : TEq} {p pos : Pos}
theorem qn_tupSh (hg : Gl X "tuple") (hm : X.mg "tuple" = none) (hv : bootBuiltins "tuple" = some (.type "tuple")) (ha : QE X g W a ta qa)
    (he : starEach [a] X.env = (false, eval a X.env) :: starEach [] X.env := by rfl) (hpl : (backTo pos (starEach [] X.env)).any (·.1) = false := by rfl) :
    QN X g W (.Call (.Name "tuple" p) [a] [] pos) (tCB (fun xs H Q => ∃ p ys, xs = [.ref p] ∧ ((SqL X.K H p ys ∧ ∀ l, H l = none → Q (.ref l) (upd H l (.tup ys))) ∨ (SqT X.K H p ys ∧ Q (.ref p) H))) (tCons ta tNil)) (qTupSh qa) :=
  ⟨pe_callTy call_tuple_of hg hm hv (pa_cons ha.pe pa_nil he) (by decide) (by decide) he hpl, fun N F P S b σ H env k x Q R hq hx hk => by
    refine ha.sm N F P S b σ H env _ x _ R hq hx fun S1 H1 env1 v y R1 e1 r1 h1 => ?_
    obtain ⟨d, env2, hs, ds, hd, h2⟩ := h1
    obtain ⟨S2, R2, e2, r2⟩ := sh1_ok R1 r1 hs
    rcases hd with rfl | rfl
    · cases r2 with
      | @lst a xs _ h r =>
        refine ⟨a, xs, rfl, .inl ⟨SqL.of (R2.sh _ _ h), fun l hl => ?_⟩⟩
        have n := R2.new hl
        exact hk _ _ env2 (.ref l) (.sh (.tup ds)) (R2.allocSh hl) (e1.trans (e2.trans (Ext.alloc n.1 n.2.1))) (.tup (SqT.of upd_same) (r.mono (same_upd n.2.1))) (fun d e => nomatch e) h2
    · cases r2 with
      | @tup a xs _ h r => exact ⟨a, xs, rfl, .inr ⟨Same.sqt R2.sh h, hk S2 H1 env2 (.ref a) (.sh (.tup ds)) R2 (e1.trans e2) (.tup h r) (fun d e => nomatch e) h2⟩⟩⟩
end
end Q


set_option Elab.async false
set_option linter.all false
set_option maxRecDepth 100000
set_option maxHeartbeats 2000000
set_option autoImplicit false
/-! Q59: == of nested data without booleans. -/
namespace Q
open PySem PySem.Spec PyProof.Rows L2
mutual
/-- of numbers, texts, None, lists and tuples, at most n deep -/
def pl : D → Nat → Bool
  | .non, _ => true
  | .int _, _ => true
  | .str x, _ => PyData.strOk x
  | .lst xs, n + 1 => pls xs n
  | .tup xs, n + 1 => pls xs n
  | _, _ => false
def pls : List D → Nat → Bool
  | [], _ => true
  | x :: xs, n => pl x n && pls xs n
end
mutual
theorem pl_lay : ∀ {d : D} {n : Nat}, pl d n = true → PyData.canLay0 (toP d) = true ∧ (toP d).depth ≤ n
  | .non, n, h => ⟨rfl, by simp [toP, PyData.depth]⟩
  | .bl _, n, h => by simp [pl] at h
  | .int i, n, h => ⟨rfl, by simp [toP, PyData.depth]⟩
  | .str x, n, h => by
    simp only [pl] at h
    refine ⟨?_, by simp [toP, PyData.depth]⟩
    simp only [toP, PyData.canLay0]
    exact h
  | .lst xs, 0, h => by simp [pl] at h
  | .tup xs, 0, h => by simp [pl] at h
  | .lst xs, n + 1, h => by
    simp only [pl] at h
    obtain ⟨h1, h2⟩ := pls_lay h
    simp only [toP, PyData.canLay0, PyData.depth]
    exact ⟨h1, by omega⟩
  | .tup xs, n + 1, h => by
    simp only [pl] at h
    obtain ⟨h1, h2⟩ := pls_lay h
    simp only [toP, PyData.canLay0, PyData.depth]
    exact ⟨h1, by omega⟩
  | .dct _, n, h => by simp [pl] at h
  | .scr _, n, h => by simp [pl] at h
theorem pls_lay : ∀ {ds : List D} {n : Nat}, pls ds n = true → PyData.canLayAll0 (toPs ds) = true ∧ PyData.depthAll (toPs ds) ≤ n
  | [], n, _ => ⟨rfl, Nat.zero_le _⟩
  | d :: ds, n, h => by
    simp only [pls, Bool.and_eq_true] at h
    obtain ⟨h1, h2⟩ := pl_lay h.1
    obtain ⟨h3, h4⟩ := pls_lay h.2
    simp only [toPs, PyData.canLayAll0, PyData.depthAll]
    rw [h1, h3]
    exact ⟨rfl, by omega⟩
end
mutual
theorem pl_eq : ∀ {d e : D} {n m : Nat}, pl d n = true → pl e m = true → (PyData.eqv (toP d) (toP e) = true ↔ d = e)
  | .non, e, n, m, h, h2 => by cases e <;> simp_all [pl, toP, PyData.eqv]
  | .bl _, _, n, _, h, _ => by simp [pl] at h
  | .dct _, _, n, _, h, _ => by simp [pl] at h
  | .scr _, _, n, _, h, _ => by simp [pl] at h
  | .int i, e, n, m, h, h2 => by cases e <;> simp_all [pl, toP, PyData.eqv]
  | .str x, e, n, m, h, h2 => by cases e <;> simp_all [pl, toP, PyData.eqv]
  | .lst xs, .lst ys, 0, m, h, h2 => by simp [pl] at h
  | .lst xs, .lst ys, n + 1, 0, h, h2 => by simp [pl] at h2
  | .lst xs, .lst ys, n + 1, m + 1, h, h2 => by
    simp only [pl] at h h2
    simp only [toP, PyData.eqv, D.lst.injEq]
    exact pls_eq h h2
  | .lst xs, .non, n, m, h, h2 => by simp [toP, PyData.eqv]
  | .lst xs, .bl _, n, m, h, h2 => by simp [toP, PyData.eqv]
  | .lst xs, .int _, n, m, h, h2 => by simp [toP, PyData.eqv]
  | .lst xs, .str _, n, m, h, h2 => by simp [toP, PyData.eqv]
  | .lst xs, .tup _, n, m, h, h2 => by simp [toP, PyData.eqv]
  | .lst xs, .dct _, n, m, h, h2 => by simp [toP, PyData.eqv]
  | .lst xs, .scr _, n, m, h, h2 => by simp [pl] at h2
  | .tup xs, .tup ys, 0, m, h, h2 => by simp [pl] at h
  | .tup xs, .tup ys, n + 1, 0, h, h2 => by simp [pl] at h2
  | .tup xs, .tup ys, n + 1, m + 1, h, h2 => by
    simp only [pl] at h h2
    simp only [toP, PyData.eqv, D.tup.injEq]
    exact pls_eq h h2
  | .tup xs, .non, n, m, h, h2 => by simp [toP, PyData.eqv]
  | .tup xs, .bl _, n, m, h, h2 => by simp [toP, PyData.eqv]
  | .tup xs, .int _, n, m, h, h2 => by simp [toP, PyData.eqv]
  | .tup xs, .str _, n, m, h, h2 => by simp [toP, PyData.eqv]
  | .tup xs, .lst _, n, m, h, h2 => by simp [toP, PyData.eqv]
  | .tup xs, .dct _, n, m, h, h2 => by simp [toP, PyData.eqv]
  | .tup xs, .scr _, n, m, h, h2 => by simp [pl] at h2
theorem pls_eq : ∀ {ds es : List D} {n m : Nat}, pls ds n = true → pls es m = true → (PyData.eqvAll (toPs ds) (toPs es) = true ↔ ds = es)
  | [], [], _, _, _, _ => by simp [toPs, PyData.eqvAll]
  | [], _ :: _, _, _, _, _ => by simp [toPs, PyData.eqvAll]
  | _ :: _, [], _, _, _, _ => by simp [toPs, PyData.eqvAll]
  | d :: ds, e :: es, n, m, h, h2 => by
    simp only [pls, Bool.and_eq_true] at h h2
    simp only [toPs, PyData.eqvAll, Bool.and_eq_true, List.cons.injEq]
    rw [pl_eq h.1 h2.1, pls_eq h.2 h2.2]
end
theorem pl_shaped {d : D} {n : Nat} (h : pl d n = true) (hn : n ≤ 64) : SeqAt.shaped (toP d) = true := by
  obtain ⟨h1, h2⟩ := pl_lay h
  unfold SeqAt.shaped
  rw [h1, decide_eq_true (show (toP d).depth ≤ 64 by omega)]; rfl
theorem eqB_pl {neg : Bool} {d e : D} {n m : Nat} {k : D → Prop} {c : Bool} (h1 : pl d n = true) (h2 : pl e m = true) (hs : sEq d e = none) (hc : c = true ↔ d = e) (q : k (.bl (if neg then !c else c))) (hn : n ≤ 64) (hm : m ≤ 64) : fEqB neg d e k := by
  have e1 : PyData.eqv (toP d) (toP e) = c := by
    have := (pl_eq h1 h2).trans hc.symm
    cases c <;> simp_all
  unfold fEqB
  rw [hs, e1]
  exact ⟨pl_shaped h1 hn, pl_shaped h2 hm, q⟩
theorem eq_pl {d e : D} {n m : Nat} {k : D → Prop} (c : Bool) (h1 : pl d n = true) (h2 : pl e m = true) (hc : c = true ↔ d = e) (q : k (.bl c)) (hs : sEq d e = none := by rfl) (hn : n ≤ 64 := by decide) (hm : m ≤ 64 := by decide) : fEq d e k := eqB_pl h1 h2 hs hc q hn hm
theorem ne_pl {d e : D} {n m : Nat} {k : D → Prop} (c : Bool) (h1 : pl d n = true) (h2 : pl e m = true) (hc : c = true ↔ d = e) (q : k (.bl (!c))) (hs : sEq d e = none := by rfl) (hn : n ≤ 64 := by decide) (hm : m ≤ 64 := by decide) : fNe d e k := eqB_pl h1 h2 hs hc q hn hm
theorem pls_of {n : Nat} : ∀ {ds : List D}, (∀ d ∈ ds, pl d n = true) → pls ds n = true
  | [], _ => rfl
  | d :: ds, h => by
    simp only [pls, Bool.and_eq_true]
    exact ⟨h d (List.mem_cons_self ..), pls_of fun e he => h e (List.mem_cons_of_mem _ he)⟩
theorem pls_map {α : Type} {f : α → D} {l : List α} {n : Nat} (h : ∀ a ∈ l, pl (f a) n = true) : pls (l.map f) n = true := pls_of fun d hd => by
  obtain ⟨a, ha, rfl⟩ := List.mem_map.mp hd
  exact h a ha
theorem pls_ints (ns : List Int) (n : Nat) : pls (ns.map .int) n = true := pls_map fun _ _ => by simp [pl]
theorem pl_lints (ns : List Int) : pl (.lst (ns.map .int)) 1 = true := pls_ints ns 0
theorem pl_tints (ns : List Int) : pl (.tup (ns.map .int)) 1 = true := pls_ints ns 0
theorem pl_prs (ps : List (Int × Int)) : pl (.lst (ps.map fun p => .tup [.int p.1, .int p.2])) 2 = true := by
  show pls _ 1 = true
  exact pls_map fun a _ => rfl
end Q


set_option Elab.async false
set_option linter.all false
set_option maxRecDepth 100000
set_option maxHeartbeats 2000000
set_option autoImplicit false
/-! Q60: lists of zeros: texts of different signs. -/
namespace Q
open PySem PySem.Spec PyProof.Rows L2
def zeros (n : Nat) : List Int := List.replicate n 0
theorem rep_one {α : Type} (x : α) : ∀ n : Nat, (List.replicate n [x]).flatten = List.replicate n x
  | 0 => rfl
  | n + 1 => by rw [List.replicate_succ, List.replicate_succ, List.flatten_cons, rep_one x n]; rfl
theorem rep_zero (n : Nat) : (List.replicate n [D.int 0]).flatten = (zeros n).map .int := by
  rw [rep_one]; unfold zeros; rw [List.map_replicate]
theorem zeros_length (n : Nat) : (zeros n).length = n := List.length_replicate
theorem zeros_succ (n : Nat) : zeros (n + 1) = zeros n ++ [0] := by
  unfold zeros
  rw [← List.replicate_append_replicate]; rfl
theorem dist_nodup {w : List Int} (h : w.Nodup) : dist w = zeros w.length := by
  unfold dist zeros
  rw [List.eq_replicate_iff]
  refine ⟨by simp, fun b hb => ?_⟩
  obtain ⟨p, hp, rfl⟩ := List.mem_map.mp hb
  have hp := List.mem_range.mp hp
  refine dAt_eq0 fun m hm e => ?_
  have := (List.getElem?_inj (show m < w.length by omega) h).mp e
  omega
theorem zeros_dist (n : Nat) : zeros n = dist (upto n) := by
  rw [dist_nodup (upto_nodup n), upto_length]
theorem zc_zeros (n : Nat) : zc (zeros n) = n := by
  induction n with
  | zero => rfl
  | succ n ih => rw [zeros_succ, zc_snoc, ih]; simp
theorem upto_succ (n : Nat) : upto (n + 1) = upto n ++ [(n : Int)] := by
  unfold upto
  rw [List.range_succ, List.map_append]; rfl
theorem ids_zeros (n : Nat) : idsD (zeros n) = upto n := by
  induction n with
  | zero => rfl
  | succ n ih => rw [zeros_succ, idsD_snoc, ih, if_pos rfl, zc_zeros, upto_succ]
theorem zeros_ok {n : Nat} (h : n ≤ 400) : isDist (.lst ((zeros n).map .int)) = true := by
  rw [zeros_dist]
  exact isDist_l (by rw [upto_length]; exact h)
theorem cat_zeros (m n : Nat) : catI (zeros m) (zeros n) [] = zeros (m + n) := by
  have hl : (upto m ++ (upto n).map (mapTo [] (zc (zeros m)))).length = m + n := by rw [List.length_append, List.length_map, upto_length, upto_length]
  unfold catI
  rw [ids_zeros, ids_zeros, dist_nodup, hl]
  rw [List.nodup_append]
  have e : ∀ s, mapTo [] (zc (zeros m)) s = m + s := fun s => by rw [mapTo_out (fun t h => by cases h), zc_zeros]
  refine ⟨upto_nodup m, ?_, fun a ha b hb => ?_⟩
  · refine List.Pairwise.map _ (fun a b h => ?_) (upto_nodup n)
    rw [e, e]
    intro z; exact h (by omega)
  · obtain ⟨c, hc, rfl⟩ := List.mem_map.mp hb
    have h1 := upto_mem.mp ha
    have h2 := upto_mem.mp hc
    rw [e]
    omega
end Q


set_option Elab.async false
set_option linter.all false
set_option maxRecDepth 100000
set_option maxHeartbeats 2000000
set_option autoImplicit false
/-! Q61: completions counted, rank lists ranked and unranked. -/
namespace Q
open PySem PySem.Spec PyProof.Rows L2
/-- completions by l more positions, u symbols used, at most m -/
def cmp (m : Int) : Nat → Nat → Int
  | 0, _ => 1
  | l + 1, u => (u : Int) * cmp m l u + if (u : Int) < m then cmp m l (u + 1) else 0
def frs (m : Int) (l u : Nat) : Int := if (u : Int) < m then cmp m l (u + 1) else 0
theorem cmp_succ (m : Int) (l u : Nat) : cmp m (l + 1) u = (u : Int) * cmp m l u + frs m l u := rfl
def rkT (m : Int) : Nat → List Int → Int
  | _, [] => 0
  | u, r :: rs => if r = 0 then rkT m (u + 1) rs else frs m rs.length u + (r - 1) * cmp m rs.length u + rkT m u rs
def OkT (m : Int) : Nat → List Int → Prop
  | _, [] => True
  | u, r :: rs => (r = 0 ∧ (u : Int) < m ∧ OkT m (u + 1) rs) ∨ (1 ≤ r ∧ r ≤ u ∧ OkT m u rs)
def unT (m : Int) : Nat → Nat → Int → List Int
  | 0, _, _ => []
  | l + 1, u, x => if x < frs m l u then 0 :: unT m l (u + 1) x else ((x - frs m l u) / cmp m l u + 1) :: unT m l u ((x - frs m l u) % cmp m l u)
section
variable {m : Int}
theorem cmp_nonneg : ∀ (l u : Nat), 0 ≤ cmp m l u
  | 0, _ => by simp [cmp]
  | l + 1, u => by
    have h1 := cmp_nonneg l u
    have h2 := cmp_nonneg l (u + 1)
    unfold cmp
    have : 0 ≤ (u : Int) * cmp m l u := Int.mul_nonneg (by omega) h1
    split <;> omega
theorem frs_nonneg (l u : Nat) : 0 ≤ frs m l u := by
  have := cmp_nonneg (m := m) l (u + 1)
  unfold frs; split <;> omega
theorem cmp_pos : ∀ (l u : Nat), 0 < u → 0 < cmp m l u
  | 0, _, _ => by simp [cmp]
  | l + 1, u, h => by
    have h1 := cmp_pos l u h
    have h2 := frs_nonneg (m := m) l u
    rw [cmp_succ]
    have : 0 < (u : Int) * cmp m l u := Int.mul_pos (by omega) h1
    omega
theorem cmp_le : ∀ (l u : Nat), cmp m l u ≤ ((u + l : Nat) : Int) ^ l
  | 0, u => by simp [cmp]
  | l + 1, u => by
    have h1 := cmp_le l u
    have h2 : frs m l u ≤ ((u + 1 + l : Nat) : Int) ^ l := by
      unfold frs
      split
      · exact cmp_le l (u + 1)
      · exact Int.pow_nonneg (by omega)
    have h3 : ((u + l : Nat) : Int) ^ l ≤ ((u + 1 + l : Nat) : Int) ^ l := by
      have : (u + l) ^ l ≤ (u + 1 + l) ^ l := Nat.pow_le_pow_left (by omega) l
      exact_mod_cast this
    rw [cmp_succ, show u + (l + 1) = u + 1 + l by omega, Int.pow_succ]
    have h4 : (u : Int) * cmp m l u ≤ (u : Int) * ((u + 1 + l : Nat) : Int) ^ l := Int.mul_le_mul_of_nonneg_left (Int.le_trans h1 h3) (by omega)
    have h5 : (0 : Int) ≤ ((u + 1 + l : Nat) : Int) ^ l := Int.pow_nonneg (by omega)
    generalize ((u + 1 + l : Nat) : Int) ^ l = B at *
    have h6 : B * ((u + 1 + l : Nat) : Int) = (u : Int) * B + B + (l : Int) * B := by
      rw [show ((u + 1 + l : Nat) : Int) = (u : Int) + 1 + l by omega, Int.mul_add, Int.mul_add, Int.mul_comm B u, Int.mul_one, Int.mul_comm B l]
    have h7 : 0 ≤ (l : Int) * B := Int.mul_nonneg (by omega) h5
    omega
/-- a smaller limit that is out of reach counts the same -/
theorem cmp_min {n : Nat} : ∀ (l u : Nat), u + l ≤ n → cmp (if m < n then m else n) l u = cmp m l u
  | 0, _, _ => rfl
  | l + 1, u, h => by
    have h1 := cmp_min (n := n) l u (by omega)
    have h2 := cmp_min (n := n) l (u + 1) (by omega)
    unfold cmp
    rw [h1, h2]
    congr 1
    by_cases hm : m < n
    · rw [if_pos hm]
    · rw [if_neg hm]
      by_cases hu : (u : Int) < m
      · rw [if_pos hu, if_pos (by omega)]
      · rw [if_neg hu, if_neg (by omega)]
theorem rkT_bd : ∀ (u : Nat) (rs : List Int), OkT m u rs → 0 ≤ rkT m u rs ∧ rkT m u rs < cmp m rs.length u
  | _, [], _ => by simp [rkT, cmp]
  | u, r :: rs, h => by
    have h0 := frs_nonneg (m := m) rs.length u
    have hc := cmp_nonneg (m := m) rs.length u
    rcases h with ⟨hr, hu, h⟩ | ⟨h1, h2, h⟩
    · obtain ⟨i1, i2⟩ := rkT_bd (u + 1) rs h
      unfold rkT
      rw [if_pos hr, List.length_cons, cmp_succ]
      have : frs m rs.length u = cmp m rs.length (u + 1) := if_pos hu
      have : 0 ≤ (u : Int) * cmp m rs.length u := Int.mul_nonneg (by omega) hc
      omega
    · obtain ⟨i1, i2⟩ := rkT_bd u rs h
      unfold rkT
      rw [if_neg (by omega), List.length_cons, cmp_succ]
      have h3 : 0 ≤ (r - 1) * cmp m rs.length u := Int.mul_nonneg (by omega) hc
      have h4 : r * cmp m rs.length u ≤ (u : Int) * cmp m rs.length u := Int.mul_le_mul_of_nonneg_right h2 hc
      have h5 : r * cmp m rs.length u = (r - 1) * cmp m rs.length u + cmp m rs.length u := by
        rw [Int.sub_mul, Int.one_mul]; omega
      omega
theorem unT_rkT : ∀ (u : Nat) (rs : List Int), OkT m u rs → unT m rs.length u (rkT m u rs) = rs
  | _, [], _ => rfl
  | u, r :: rs, h => by
    rcases h with ⟨hr, hu, h⟩ | ⟨h1, h2, h⟩
    · obtain ⟨i1, i2⟩ := rkT_bd (u + 1) rs h
      have hf : frs m rs.length u = cmp m rs.length (u + 1) := if_pos hu
      have e : rkT m u (r :: rs) = rkT m (u + 1) rs := by
        show (if r = 0 then _ else _) = _
        rw [if_pos hr]
      rw [e, List.length_cons]
      unfold unT
      rw [if_pos (by omega), unT_rkT (u + 1) rs h, hr]
    · obtain ⟨i1, i2⟩ := rkT_bd u rs h
      have e : rkT m u (r :: rs) = frs m rs.length u + (r - 1) * cmp m rs.length u + rkT m u rs := by
        show (if r = 0 then _ else _) = _
        rw [if_neg (by omega)]
      have h3 : 0 ≤ (r - 1) * cmp m rs.length u := Int.mul_nonneg (by omega) (cmp_nonneg ..)
      rw [e, List.length_cons]
      unfold unT
      rw [if_neg (by omega), show frs m rs.length u + (r - 1) * cmp m rs.length u + rkT m u rs - frs m rs.length u = rkT m u rs + cmp m rs.length u * (r - 1) by rw [Int.mul_comm (cmp m rs.length u)]; omega]
      rw [Int.add_mul_ediv_left _ _ (by omega), Int.add_mul_emod_self_left, Int.ediv_eq_zero_of_lt i1 i2, Int.emod_eq_of_lt i1 i2, unT_rkT u rs h]
      congr 1; omega
theorem unT_ok : ∀ (l u : Nat) (x : Int), 0 ≤ x → x < cmp m l u → OkT m u (unT m l u x) ∧ (unT m l u x).length = l ∧ rkT m u (unT m l u x) = x
  | 0, u, x, h0, h1 => by
    simp only [cmp] at h1
    refine ⟨trivial, rfl, ?_⟩
    show (0 : Int) = x
    omega
  | l + 1, u, x, h0, h1 => by
    rw [cmp_succ] at h1
    unfold unT
    by_cases hx : x < frs m l u
    · rw [if_pos hx]
      have hu : (u : Int) < m := by
        unfold frs at hx
        split at hx
        · assumption
        · omega
      have hf : frs m l u = cmp m l (u + 1) := if_pos hu
      obtain ⟨i1, i2, i3⟩ := unT_ok l (u + 1) x h0 (by omega)
      refine ⟨.inl ⟨rfl, hu, i1⟩, by rw [List.length_cons, i2], ?_⟩
      show (if (0 : Int) = 0 then _ else _) = _
      rw [if_pos rfl, i3]
    · rw [if_neg hx]
      have hup : 0 < u := by
        rcases Nat.eq_zero_or_pos u with h | h
        · subst h
          simp at h1
          omega
        · exact h
      have hc := cmp_pos (m := m) l u hup
      have hq : (x - frs m l u) / cmp m l u < u := by
        refine Int.ediv_lt_of_lt_mul hc ?_
        omega
      have hq0 : 0 ≤ (x - frs m l u) / cmp m l u := Int.ediv_nonneg (by omega) (by omega)
      obtain ⟨i1, i2, i3⟩ := unT_ok l u ((x - frs m l u) % cmp m l u) (Int.emod_nonneg _ (by omega)) (Int.emod_lt_of_pos _ hc)
      refine ⟨.inr ⟨by omega, by omega, i1⟩, by rw [List.length_cons, i2], ?_⟩
      show (if _ = 0 then _ else _) = _
      rw [if_neg (by omega), i3, i2]
      have := Int.mul_ediv_add_emod (x - frs m l u) (cmp m l u)
      rw [Int.add_sub_cancel, Int.mul_comm]
      omega
theorem okT_mono : ∀ (rs : List Int) (u : Nat), OkT m u rs ↔ okRs (rs.map .int) u = true ∧ (zc rs = 0 ∨ u + zc rs ≤ m)
  | [], u => by simp [OkT, okRs, zc]
  | r :: rs, u => by
    have z : zc (r :: rs) = (if r = 0 then 1 else 0) + zc rs := by
      unfold zc
      by_cases h : r = 0
      · rw [List.filter_cons_of_pos (by simpa using h), if_pos h, List.length_cons]; omega
      · rw [List.filter_cons_of_neg (by simpa using h), if_neg h]; omega
    have hz := zc_nonneg rs
    have e : okRs ((r :: rs).map .int) u = (intIn 0 (.int u) (.int r) && okRs (rs.map .int) ((u : Int) + if r = 0 then 1 else 0)) := rfl
    have hi : intIn 0 (.int (u : Int)) (.int r) = true ↔ 0 ≤ r ∧ r ≤ u := by simp [intIn, leO]
    rw [z, e, Bool.and_eq_true, hi]
    show (_ ∨ _) ↔ _
    rw [okT_mono rs (u + 1), okT_mono rs u]
    by_cases h : r = 0
    · rw [if_pos h, show (u : Int) + 1 = ((u + 1 : Nat) : Int) by omega]
      constructor
      · rintro (⟨_, h1, h2, h3⟩ | ⟨h1, _⟩)
        · exact ⟨⟨by omega, h2⟩, by omega⟩
        · omega
      · rintro ⟨⟨_, h2⟩, h3⟩
        exact .inl ⟨h, by omega, h2, by omega⟩
    · rw [if_neg h, Int.add_zero]
      constructor
      · rintro (⟨h1, _⟩ | ⟨h1, h2, h3, h4⟩)
        · exact absurd h1 h
        · exact ⟨⟨⟨by omega, h2⟩, h3⟩, by omega⟩
      · rintro ⟨⟨⟨h1, h2⟩, h3⟩, h4⟩
        exact .inr ⟨by omega, h2, h3, by omega⟩
theorem okT_iff {rs : List Int} (hm : 0 ≤ m) : OkT m 0 rs ↔ OkR rs ∧ zc rs ≤ m := by
  rw [okT_mono]
  unfold OkR
  constructor
  · rintro ⟨h1, h2⟩; exact ⟨h1, by omega⟩
  · rintro ⟨h1, h2⟩; exact ⟨h1, by omega⟩
/-- the front of a rank list weighs by itself -/
theorem rkT_app : ∀ (ps rs : List Int) (u : Nat), ∃ B : Int, ∀ ss : List Int, ss.length = rs.length → rkT m u (ps ++ ss) = B + rkT m (u + (zc ps).toNat) ss
  | [], rs, u => ⟨0, fun ss _ => by simp [zc]⟩
  | p :: ps, rs, u => by
    have hz := zc_nonneg ps
    have z : zc (p :: ps) = (if p = 0 then 1 else 0) + zc ps := by
      unfold zc
      by_cases h : p = 0
      · rw [List.filter_cons_of_pos (by simpa using h), if_pos h, List.length_cons]; omega
      · rw [List.filter_cons_of_neg (by simpa using h), if_neg h]; omega
    by_cases h : p = 0
    · obtain ⟨B, hB⟩ := rkT_app ps rs (u + 1)
      refine ⟨B, fun ss hs => ?_⟩
      show (if p = 0 then rkT m (u + 1) (ps ++ ss) else _) = _
      rw [if_pos h, hB ss hs, z, if_pos h, show u + 1 + (zc ps).toNat = u + (1 + zc ps).toNat by omega]
    · obtain ⟨B, hB⟩ := rkT_app ps rs u
      refine ⟨frs m (ps.length + rs.length) u + (p - 1) * cmp m (ps.length + rs.length) u + B, fun ss hs => ?_⟩
      show (if p = 0 then _ else frs m (ps ++ ss).length u + (p - 1) * cmp m (ps ++ ss).length u + rkT m u (ps ++ ss)) = _
      rw [if_neg h, hB ss hs, z, if_neg h, List.length_append, hs, show u + (0 + zc ps).toNat = u + (zc ps).toNat by omega]
      omega
end
/-! the table of completions -/
def wid (n m : Int) : Nat := (if m < n then m else n).toNat
def rowI (w l : Nat) : List Int := (List.range (w + 1)).map fun u => cmp w l u
def tabR (n w : Nat) : List D := (List.range n).map fun l => .lst ((rowI w l).map .int)
theorem rowI_length (w l : Nat) : (rowI w l).length = w + 1 := by unfold rowI; simp
theorem rowI_get {w l u : Nat} (h : u ≤ w) : (rowI w l)[u]? = some (cmp w l u) := by
  unfold rowI
  rw [List.getElem?_map, List.getElem?_range (by omega)]; rfl
theorem rowI_zero (w : Nat) : rowI w 0 = List.replicate (w + 1) 1 := by
  unfold rowI
  rw [List.eq_replicate_iff]
  exact ⟨by simp, fun b hb => by obtain ⟨u, _, rfl⟩ := List.mem_map.mp hb; rfl⟩
theorem tabR_length (n w : Nat) : (tabR n w).length = n := by unfold tabR; simp
theorem tabR_get {n w l : Nat} (h : l < n) : (tabR n w)[l]? = some (.lst ((rowI w l).map .int)) := by
  unfold tabR
  rw [List.getElem?_map, List.getElem?_range h]; rfl
theorem tabR_succ (n w : Nat) : tabR (n + 1) w = tabR n w ++ [.lst ((rowI w n).map .int)] := by
  unfold tabR
  rw [List.range_succ, List.map_append]; rfl
theorem rowI_succ (w l : Nat) : rowI w (l + 1) = (upto (w + 1)).map fun u : Int => u * (rowI w l).getD u.toNat 0 + if u < w then (rowI w l).getD (u.toNat + 1) 0 else 0 := by
  have h : ∀ u, u ≤ w → (rowI w l).getD u 0 = cmp w l u := fun u hu => by rw [List.getD_eq_getElem?_getD, rowI_get hu]; rfl
  unfold upto
  rw [List.map_map]
  show (List.range (w + 1)).map _ = _
  refine List.map_congr_left fun u hu => ?_
  have hu := List.mem_range.mp hu
  show cmp w (l + 1) u = (u : Int) * (rowI w l).getD (u : Int).toNat 0 + if (u : Int) < w then (rowI w l).getD ((u : Int).toNat + 1) 0 else 0
  rw [Int.toNat_natCast, h u (by omega)]
  show _ + _ = _
  congr 1
  by_cases hw : (u : Int) < w
  · rw [if_pos hw, if_pos hw, h (u + 1) (by omega)]
  · rw [if_neg hw, if_neg hw]
theorem atI_last {xs : List D} {d : D} : atI (xs ++ [d]) (-1) = some d := by
  unfold atI ixN
  rw [if_neg (by decide), List.length_append, List.length_singleton]
  rw [if_pos (by omega)]
  show (xs ++ [d])[((-1 : Int) + ((xs.length + 1 : Nat) : Int)).toNat]? = some d
  rw [show ((-1 : Int) + ((xs.length + 1 : Nat) : Int)).toNat = xs.length by omega]
  simp
theorem wid_le {n m : Int} (h0 : 0 ≤ n) (h1 : 0 ≤ m) : (wid n m : Int) = if m < n then m else n := by
  unfold wid; split <;> omega
/-- what the table says -/
theorem wid_cmp {n : Nat} {m : Int} (hm : 0 ≤ m) {l u : Nat} (h : u + l ≤ n) : cmp (wid n m) l u = cmp m l u := by
  rw [wid_le (by omega) hm]; exact cmp_min l u h
theorem wid_frs {n : Nat} {m : Int} (hm : 0 ≤ m) {l u : Nat} (h : u + 1 + l ≤ n) : (if (u : Int) < (wid n m : Nat) then cmp (wid n m) l (u + 1) else 0) = frs m l u := by
  rw [wid_cmp hm h, wid_le (by omega) hm]
  unfold frs
  by_cases hu : (u : Int) < m
  · rw [if_pos hu, if_pos (by split <;> omega)]
  · rw [if_neg hu, if_neg (by split <;> omega)]
end Q


set_option Elab.async false
set_option linter.all false
set_option maxRecDepth 100000
set_option maxHeartbeats 2000000
set_option autoImplicit false
/-! Q62: a call with defaults that may raise. -/
namespace Q
open PySem PySem.Spec PyProof.Rows L2
def tCallSD (sp : Sp) (dvs : List V) (E : L2.St → XK) (t : TA) : TE := fun σ H Q => t σ H fun vs H1 => sp (vs ++ dvs) H1 Q (E σ)
section
variable {X : Cx} {k : Nat} {f : Addr} {fd : FuncData} {ps : List Str} {sp : Sp} {dvs : List V} {ds : List Value} {x : Str} {p pos : Pos} {e : Expr} {es : List Expr} {t : TA}
theorem pe_callGSD {W : WX} (F : FnG X.prog X.w X.K X.mg X.base k f fd ps sp) (hgd : X.A.guards = some []) (hr : Room k X.A) (tk : Takes X W) (hg : Gl X x) (hm : X.mg x = some (.ref f)) (hk : PySem.W.keepIn X.K (.ref f) = true) (hb : Binds X.K fd ps ds) (hd : Vals dvs ds)
    (ha : PA X (e :: es) t) (hdb : (x == ("__debug__" : Str)) = false) (he : starEach (e :: es) X.env = (false, eval e X.env) :: starEach es X.env) (hpl : (backTo pos (starEach es X.env)).any (·.1) = false) :
    PE X (.Call (.Name x p) (e :: es) [] pos) (tCallSD sp dvs (WE W) t) := by
  constructor
  intro pins s σ H Q I h
  exact wpAny_Call_Name_kw (ld_glob I hg hm (PySem.W.callWith_K (h₀ := X.base) I.ok.mod.kin hk (thn (ha.run pos pins s σ H _ I h) fun us s1 ⟨vs, H1, I1, r, q⟩ => ⟨I1.kIn, runG F hgd hr hb hd (fun e s' c => passAt tk σ pins H1 s1 e s' I1 c) I1 r q⟩) he hpl) hdb)
end
section
variable {X : Cx} {g : Gd} {W : WX} {e : Expr} {es : List Expr} {tl : TA} {ql : TAq} {pos p : Pos} {c : Cg} {k j : Nat} {x : Str} {dds : List D} {sp : Spq} {ms : List Md}
def qCallSD (ms : List Md) (dds : List D) (sp : Spq) (ql : TAq) : TNq := fun env k x => ql env (fun ys env1 => ∃ as env2, args ms ys env1 = some (as, env2) ∧ sp (as ++ dds.map .bor) (fun r => k r env2) fun nm pay => x nm pay env2) x
theorem sm_callSD (hd : flats dds = true) (ha : SmA c W tl ql) : SmN c W (tCallSD (spQ c.K c.mg c.g sp) (dds.map sV) (WE W) tl) (qCallSD ms dds sp ql) := by
  intro F P S b σ H env k x Q R hq hx hk
  refine ha F P S b σ H env _ x _ R hq hx fun S1 H1 env1 vs ys R1 e1 r1 h1 => ?_
  obtain ⟨as, env2, h2, h3⟩ := h1
  obtain ⟨S2, R2, e2, r2, bl⟩ := args_ok R1 r1 h2
  have bg2 : Bg ⟨c.K, c.mg, c.g, c.N - bud env2⟩ (lend b H1) S2 H1 b (abud as) := fun p e => by
    obtain ⟨_, n2, _⟩ := R2.bg p e
    obtain ⟨_, _, xs, ds, g1, g2, g3, g4, g5⟩ := R1.bg p e
    refine ⟨lend_b e, n2, xs, ds, g1, g2.mono e2.1, g3, ?_, by show c.N - bud env2 ≤ _; omega⟩
    show c.g.cnt ds + abud as ≤ c.N - bud env2
    omega
  refine ⟨c.N - bud env2, lend b H1, S2, b, as ++ dds.map .bor, _, _, lend_same, R2.sh, by rw [abud_append, abud_bor]; exact bg2, r2.append (dds_ok hd), h3, fun v S' H' r s1 s2 s3 s4 s5 s6 => ?_, fun nm pay C d S' H' s1 s2 s3 s4 s5 s6 s7 => ?_⟩
  · obtain ⟨R3, e3⟩ := R2.after s1 s2 s3 s4
    obtain ⟨o1, o2⟩ := RvOk.back R2 s5
    exact hk S' H' env2 v r R3 (e1.trans (e2.trans e3)) o1 o2 s6
  · obtain ⟨R3, e3⟩ := R2.after s1 s2 s3 s4
    exact hx nm pay env2 S' σ H' C d R3 (e1.trans (e2.trans e3)) s5 s6 s7
theorem qn_callSD (ms : List Md) (cl : Cal X.prog X.w X.K X.mg X.base g k x dds sp) (hgd : X.A.guards = some []) (hr : Room j X.A) (hk : k ≤ j) (tk : Takes X W) (hg : Gl X x) (ha : QA X g W (e :: es) tl ql) (hdb : (x == ("__debug__" : Str)) = false := by decide)
    (he : starEach (e :: es) X.env = (false, eval e X.env) :: starEach es X.env := by rfl) (hpl : (backTo pos (starEach es X.env)).any (·.1) = false := by rfl) :
    QN X g W (.Call (.Name x p) (e :: es) [] pos) (tCallSD (spQ X.K X.mg g sp) (dds.map sV) (WE W) tl) (qCallSD ms dds sp ql) := by
  obtain ⟨f, fd, ps, ds, G, hm, kp, hb, hv, hd⟩ := cl.ex
  exact ⟨pe_callGSD G hgd (hr.mono hk) tk hg hm kp hb hv ha.pa hdb he hpl, fun N => sm_callSD hd (ha.sm N)⟩
end
theorem e_callSD {ms : List Md} {dds : List D} {sp : Spq} {ql : TAq} {env : En} {kn : Rv → En → Prop} {x : XQ} : qCallSD ms dds sp ql env kn x = ql env (fun ys env1 => argsC ms ys env1 fun as env2 => apC as dds fun as' => sp as' (hold (fun r => kn r env2) .mk) (hold (fun nm pay => x nm pay env2) .mk)) x := rfl
/-! the table read -/
theorem ix_tab {n w : Nat} {i : Int} {k : D → Prop} (h0 : 0 ≤ i) (h1 : i < n) (q : k (.lst ((rowI w i.toNat).map .int))) : fIx (.lst (tabR n w)) (.int i) k :=
  ⟨_, by rw [atI_pos h0, tabR_get (by omega)], q⟩
theorem ix_row {w l : Nat} {u : Int} {k : D → Prop} (h0 : 0 ≤ u) (h1 : u ≤ w) (q : k (.int (cmp w l u.toNat))) : fIx (.lst ((rowI w l).map .int)) (.int u) k :=
  ix_ints h0 (by rw [rowI_length]; omega) fun v hv => by
    rw [rowI_get (by omega)] at hv
    cases hv
    exact q
theorem cmp_log {m : Int} {l u : Nat} (h : u + l ≤ 400) : (cmp m l u).natAbs.log2 < 9000 := by
  refine log2_lt' ?_ (by decide)
  have h1 := cmp_le (m := m) l u
  have h2 := cmp_nonneg (m := m) l u
  have h3 : (u + l) ^ l ≤ 400 ^ 400 := Nat.le_trans (Nat.pow_le_pow_left h l) (Nat.pow_le_pow_right (by decide) (by omega))
  have h4 : (400 : Nat) ^ 400 < 2 ^ 9000 := by decide +kernel
  have h5 : (cmp m l u).natAbs ≤ (u + l) ^ l := by
    have : ((cmp m l u).natAbs : Int) ≤ (((u + l) ^ l : Nat) : Int) := by
      rw [Int.natAbs_of_nonneg h2]
      push_cast
      push_cast at h1
      exact h1
    exact_mod_cast this
  omega
theorem recI_get {ns : List Int} {p : Nat} (h : p < ns.length) : (recI ns)[p]? = some (rankI ns (idsD ns) p) := by
  unfold recI
  rw [List.getElem?_map, List.getElem?_range h]; rfl
theorem recI_length (ns : List Int) : (recI ns).length = ns.length := by unfold recI; simp
theorem zc_congr : ∀ {a b : List Int}, a.length = b.length → (∀ (p : Nat) (x y : Int), a[p]? = some x → b[p]? = some y → (x = 0 ↔ y = 0)) → zc a = zc b
  | [], [], _, _ => rfl
  | [], _ :: _, h, _ => by simp at h
  | _ :: _, [], h, _ => by simp at h
  | x :: a, y :: b, h, hp => by
    have h1 := zc_congr (a := a) (b := b) (by simpa using h) fun p u v h1 h2 => hp (p + 1) u v (by simpa using h1) (by simpa using h2)
    have h0 := hp 0 x y rfl rfl
    have z : ∀ (e : Int) (l : List Int), zc (e :: l) = (if e = 0 then 1 else 0) + zc l := fun e l => by
      unfold zc
      by_cases h : e = 0
      · rw [List.filter_cons_of_pos (by simpa using h), if_pos h, List.length_cons]; omega
      · rw [List.filter_cons_of_neg (by simpa using h), if_neg h]; omega
    rw [z, z, h1]
    by_cases hx : x = 0
    · rw [if_pos hx, if_pos (h0.mp hx)]
    · rw [if_neg hx, if_neg (fun e => hx (h0.mpr e))]
theorem zc_ranks (w : List Int) : zc (ranks w) = zc (dist w) := by
  refine zc_congr (by rw [ranks_length, dist_length]) fun p x y h1 h2 => ?_
  have hp : p < w.length := by
    have := (List.getElem?_eq_some_iff.mp h1).1
    rwa [ranks_length] at this
  rw [ranks_rank w hp] at h1
  rw [dist_get w hp] at h2
  cases h1; cases h2
  by_cases h : dAt w p = 0
  · rw [if_pos h]; simp [h]
  · rw [if_neg h]
    have := zc_nonneg (dist (segI w p (dAt w p)))
    omega
theorem ranks_okT {m : Int} (hm : 0 ≤ m) (w : List Int) (h : zc (dist w) ≤ m) : OkT m 0 (ranks w) := (okT_iff hm).mpr ⟨(okR_ranks w).1, by rw [zc_ranks]; exact h⟩
theorem unT_succ (m : Int) (l u : Nat) (x : Int) : unT m (l + 1) u x = if x < Q.frs m l u then 0 :: unT m l (u + 1) x else ((x - Q.frs m l u) / cmp m l u + 1) :: unT m l u ((x - Q.frs m l u) % cmp m l u) := rfl
end Q


set_option Elab.async false
set_option linter.all false
set_option maxRecDepth 100000
set_option maxHeartbeats 2000000
set_option autoImplicit false
/-! Q63: < of lists of numbers. -/
namespace Q
open PySem PySem.Spec PyProof.Rows L2
/-- the first place that differs decides -/
def ltL : List Int → List Int → Bool
  | [], [] => false
  | [], _ :: _ => true
  | _ :: _, [] => false
  | x :: xs, y :: ys => if x = y then ltL xs ys else decide (x < y)
theorem firstLt_mapQ (e r : Nat → Bool) (fin : Bool) (f : Nat → Nat) : ∀ l : List Nat, SeqAt.firstLt e r fin (l.map f) = SeqAt.firstLt (fun j => e (f j)) (fun j => r (f j)) fin l
  | [] => rfl
  | j :: t => by
    rw [List.map_cons]
    by_cases h : e (f j) = true
    · rw [SeqAt.firstLt_yes h, SeqAt.firstLt_yes (e := fun j => e (f j)) h, firstLt_mapQ e r fin f t]
    · have h := Bool.eq_false_iff.mpr h
      rw [SeqAt.firstLt_no h, SeqAt.firstLt_no (e := fun j => e (f j)) h]
theorem ltL_first : ∀ (xs ys : List Int), SeqAt.firstLt (fun j => xs.getD j 0 == ys.getD j 0) (fun j => decide (xs.getD j 0 < ys.getD j 0)) (decide (xs.length < ys.length)) (List.range (min xs.length ys.length)) = ltL xs ys
  | [], [] => rfl
  | [], _ :: _ => by simp [SeqAt.firstLt, ltL]
  | _ :: _, [] => by simp [SeqAt.firstLt, ltL]
  | x :: xs, y :: ys => by
    have ih := ltL_first xs ys
    rw [List.length_cons, List.length_cons, Nat.succ_min_succ, List.range_succ_eq_map]
    unfold ltL
    by_cases h : x = y
    · rw [SeqAt.firstLt_yes (by show (x == y) = true; rw [h]; exact beq_self_eq_true y), if_pos h, firstLt_mapQ]
      rw [← ih]
      congr 1
      exact decide_eq_decide.mpr Nat.succ_lt_succ_iff
    · rw [SeqAt.firstLt_no (by show (x == y) = false; exact beq_false_of_ne h), if_neg h]
      rfl
section
variable {X : Cx} {K : Fg}
def rLtL (K : Fg) : R2 := fun x y H Q => ∃ a b xs ys, x = .ref a ∧ y = .ref b ∧ SqL K H a (xs.map V.int) ∧ SqL K H b (ys.map V.int) ∧ Q (.bl (ltL xs ys)) H
theorem vals_at : ∀ {xs : List Int} {us : List Value}, Vals (xs.map V.int) us → ∀ j (h : j < us.length), ∃ t, us[j] = .int (xs.getD j 0) t
  | [], _, .nil, j, h => absurd h (Nat.not_lt_zero _)
  | x :: xs, _, .cons r rs, 0, _ => by
    obtain ⟨t, rfl⟩ := r
    exact ⟨t, rfl⟩
  | x :: xs, _, .cons r rs, j + 1, h => vals_at rs j (by simpa using h)
theorem op_ltL (hu : X.A.units + 64 < cLine) : OpR X (compareOp .Lt) (rLtL X.K) := by
  intro pins s σ H x y v u Q I rx ry h
  obtain ⟨a, b, xs, ys, rfl, rfl, hx, hy, q⟩ := h
  obtain rfl : v = .ref a := rx
  obtain rfl : u = .ref b := ry
  obtain ⟨its, rv, p1, pz⟩ := I.list hx
  obtain ⟨its2, rv2, p2, pz2⟩ := I.list hy
  have l1 : its.length = xs.length := by rw [← rv.length, List.length_map]
  have l2 : its2.length = ys.length := by rw [← rv2.length, List.length_map]
  have key := SeqAt.RcLt.lists (A := X.A) (s := s) (e := fun j => xs.getD j 0 == ys.getD j 0) (r := fun j => decide (xs.getD j 0 < ys.getD j 0)) p1.isList p2.isList (by omega)
    (fun j h1 h2 => by
      obtain ⟨t, e1⟩ := vals_at rv j (by simpa using h1)
      obtain ⟨t', e2⟩ := vals_at rv2 j (by simpa using h2)
      simp only [List.getElem_toArray]
      rw [e1, e2]
      exact SeqAt.EqAt.int_int _ _ _ _)
    (fun j h1 h2 _ => by
      obtain ⟨t, e1⟩ := vals_at rv j (by simpa using h1)
      obtain ⟨t', e2⟩ := vals_at rv2 j (by simpa using h2)
      simp only [List.getElem_toArray]
      rw [e1, e2]
      exact fun _ _ _ _ h => PyProof.Rows.lt_int h)
  rw [List.size_toArray, List.size_toArray, l1, l2, ltL_first] at key
  exact key X.prog X.w _ _ (fin_bl I q rfl)
def fLtQ : D → D → (D → Prop) → Prop
  | .int i, .int j, k => k (.bl (decide (i < j)))
  | .lst ds, .lst es, k => ∃ xs ys : List Int, ds = xs.map .int ∧ es = ys.map .int ∧ k (.bl (ltL xs ys))
  | _, _, _ => False
theorem f_ltQI {i j : Int} {k : D → Prop} : fLtQ (.int i) (.int j) k = k (.bl (decide (i < j))) := rfl
theorem f_ltQL {xs ys : List Int} {k : D → Prop} : fLtQ (.lst (xs.map .int)) (.lst (ys.map .int)) k = k (.bl (ltL xs ys)) := propext ⟨fun ⟨a, b, e1, e2, h⟩ => by
  rw [ints_inj] at e1 e2
  subst e1; subst e2; exact h, fun h => ⟨xs, ys, rfl, rfl, h⟩⟩
def rLtQ (K : Fg) : R2 := fun x y H Q => (rI0 fun i j => .bl (decide (i < j))) x y H Q ∨ rLtL K x y H Q
theorem or_ltQ (hu : X.A.units + 64 < cLine) : OpR X (compareOp .Lt) (rLtQ X.K) := OpR.or op_lt (op_ltL hu)
theorem o_ltQ : Op2 K (rLtQ K) fLtQ := by
  intro S H v u d e k Q s a b hf hk
  cases a with
  | int i =>
    cases b <;> first | exact hf.elim | skip
    exact .inl ⟨_, _, rfl, rfl, hk _ _ (.bl _) hf⟩
  | lst h r =>
    cases b <;> first | exact hf.elim | skip
    rename_i h2 r2
    obtain ⟨xs, ys, rfl, rfl, q⟩ := hf
    have e1 := r.ints
    have e2 := r2.ints
    subst e1; subst e2
    exact .inr ⟨_, _, xs, ys, rfl, rfl, SqL.of h, SqL.of h2, hk _ _ (.bl _) q⟩
  | _ => cases b <;> exact hf.elim
end
end Q


set_option Elab.async false
set_option linter.all false
set_option maxRecDepth 100000
set_option maxHeartbeats 2000000
set_option autoImplicit false
/-! Q64: ranks in order, lists in order. -/
namespace Q
open PySem PySem.Spec PyProof.Rows L2
theorem nodup_len {α : Type} [DecidableEq α] : ∀ {l m : List α}, l.Nodup → (∀ x ∈ l, x ∈ m) → l.length ≤ m.length
  | [], _, _, _ => Nat.zero_le _
  | a :: l, m, hn, h => by
    have h1 := List.nodup_cons.mp hn
    have hm := h a (List.mem_cons_self ..)
    have h2 := nodup_len (m := m.erase a) h1.2 fun x hx => (List.mem_erase_of_ne (fun e => h1.1 (by rw [← e]; exact hx))).mpr (h x (List.mem_cons_of_mem _ hx))
    rw [List.length_erase_of_mem hm] at h2
    have := List.length_pos_of_mem hm
    rw [List.length_cons]
    omega
theorem zc_suffix (w : List Int) {a b : Nat} (h : a ≤ b) : zc (dist (w.drop b)) ≤ zc (dist (w.drop a)) := by
  rw [← dd_zc, ← dd_zc]
  have : (dd (w.drop b)).length ≤ (dd (w.drop a)).length := nodup_len (dd_nodup2 _) fun x hx => by
    rw [dd_mem] at hx ⊢
    rw [show b = a + (b - a) by omega, ← List.drop_drop] at hx
    exact List.mem_of_mem_drop hx
  omega
/-- the rank of a further sign, by its distance -/
theorem rkR_dAt (w : List Int) (x : Int) : (rkR w x : Int) = if dAt (w ++ [x]) w.length = 0 then 0 else 1 + zc (dist (w.drop (w.length - (dAt (w ++ [x]) w.length).toNat + 1))) := by
  have h1 := ranks_rank (w ++ [x]) (p := w.length) (by simp)
  rw [ranks_snoc, List.getElem?_append_right (by rw [ranks_length]; exact Nat.le_refl _), ranks_length, Nat.sub_self] at h1
  have h2 : (rkR w x : Int) = _ := Option.some.inj h1
  rw [h2]
  by_cases hd : dAt (w ++ [x]) w.length = 0
  · rw [if_pos hd, if_pos hd]
  · rw [if_neg hd, if_neg hd]
    have hb := dAt_bounds (w ++ [x]) w.length
    rw [segI_mem (by omega) hb.2 (by simp), List.take_left' rfl]
theorem rank_dist {w : List Int} {x y : Int} (h : rkR w x < rkR w y) : dAt (w ++ [x]) w.length < dAt (w ++ [y]) w.length := by
  have h1 := rkR_dAt w x
  have h2 := rkR_dAt w y
  have b1 := dAt_bounds (w ++ [x]) w.length
  have b2 := dAt_bounds (w ++ [y]) w.length
  by_cases hy : dAt (w ++ [y]) w.length = 0
  · rw [if_pos hy] at h2; omega
  · by_cases hx : dAt (w ++ [x]) w.length = 0
    · omega
    · rw [if_neg hx] at h1
      rw [if_neg hy] at h2
      rcases Int.lt_or_le (dAt (w ++ [x]) w.length) (dAt (w ++ [y]) w.length) with g | g
      · exact g
      · have := zc_suffix w (a := w.length - (dAt (w ++ [x]) w.length).toNat + 1) (b := w.length - (dAt (w ++ [y]) w.length).toNat + 1) (by omega)
        omega
theorem zI_pre (A : List Int) : ∀ B : List Int, ∃ T, zI (A ++ B) = zI A ++ T := fun B => by
  refine snoc_ind (P := fun B => ∃ T, zI (A ++ B) = zI A ++ T) ⟨[], by simp⟩ (fun u x ⟨T, hT⟩ => ?_) B
  rw [← List.append_assoc, zI_snoc, hT]
  exact ⟨_, List.append_assoc _ _ _⟩
theorem okR_pre {A B : List Int} (h : OkR (A ++ B)) : OkR A := by
  unfold OkR at *
  rw [List.map_append, okRs_app, Bool.and_eq_true] at h
  exact h.1
/-- the list of a rank list, at its first places -/
theorem dist_at {P S : List Int} {r : Int} (h : OkR (P ++ r :: S)) : ∃ (x : Int) (T : List Int), (rkR (zI P) x : Int) = r ∧ dist (zI (P ++ r :: S)) = dist (zI P) ++ dAt (zI P ++ [x]) (zI P).length :: T := by
  have e : P ++ r :: S = (P ++ [r]) ++ S := by simp
  obtain ⟨T, hT⟩ := zI_pre (P ++ [r]) S
  have hz := zI_snoc P r
  generalize hx : (if r = 0 then (((rec (zI P)).length : Nat) : Int) else (rec (zI P)).getD (r.toNat - 1) 0) = x at hz
  have hR := (zI_facts (P ++ [r]) (okR_pre (e ▸ h))).2.2
  have hP := (zI_facts P (okR_pre h)).2.2
  rw [hz, ranks_snoc, hP] at hR
  have hr : (rkR (zI P) x : Int) = r := by
    have := List.append_cancel_left hR
    exact List.singleton_inj.mp this
  have hd := dist_pre T (zI P ++ [x])
  rw [dist_snoc] at hd
  refine ⟨x, (dist (zI P ++ [x] ++ T)).drop (zI P ++ [x]).length, hr, ?_⟩
  rw [e, hT, hz]
  refine (List.take_append_drop (zI P ++ [x]).length _).symm.trans ?_
  rw [hd, List.append_assoc]
  rfl
section
variable {m : Int}
theorem rkT_lt : ∀ (u : Nat) (R R' : List Int), OkT m u R → OkT m u R' → R.length = R'.length → rkT m u R < rkT m u R' → ∃ (P : List Int) (r r' : Int) (S S' : List Int), R = P ++ r :: S ∧ R' = P ++ r' :: S' ∧ r < r'
  | u, [], [], _, _, _, h => absurd h (Int.lt_irrefl _)
  | u, [], _ :: _, _, _, hl, _ => by simp at hl
  | u, _ :: _, [], _, _, hl, _ => by simp at hl
  | u, r :: R, r' :: R', h1, h2, hl0, h => by
    have hl : R.length = R'.length := by simpa using hl0
    clear hl0
    have e1 : rkT m u (r :: R) = if r = 0 then rkT m (u + 1) R else Q.frs m R.length u + (r - 1) * cmp m R.length u + rkT m u R := rfl
    have e2 : rkT m u (r' :: R') = if r' = 0 then rkT m (u + 1) R' else Q.frs m R'.length u + (r' - 1) * cmp m R'.length u + rkT m u R' := rfl
    rw [e1, e2] at h
    by_cases heq : r = r'
    · subst heq
      by_cases hz : r = 0
      · rw [if_pos hz, if_pos hz] at h
        have g1 : OkT m (u + 1) R := by rcases h1 with ⟨_, _, g⟩ | ⟨g, _⟩; exact g; omega
        have g2 : OkT m (u + 1) R' := by rcases h2 with ⟨_, _, g⟩ | ⟨g, _⟩; exact g; omega
        obtain ⟨P, a, b, S, S', q1, q2, q3⟩ := rkT_lt (u + 1) R R' g1 g2 hl h
        exact ⟨r :: P, a, b, S, S', by rw [q1]; rfl, by rw [q2]; rfl, q3⟩
      · rw [if_neg hz, if_neg hz, ← hl] at h
        have g1 : OkT m u R := by rcases h1 with ⟨g, _⟩ | ⟨_, _, g⟩; exact absurd g hz; exact g
        have g2 : OkT m u R' := by rcases h2 with ⟨g, _⟩ | ⟨_, _, g⟩; exact absurd g hz; exact g
        obtain ⟨P, a, b, S, S', q1, q2, q3⟩ := rkT_lt u R R' g1 g2 hl (by omega)
        exact ⟨r :: P, a, b, S, S', by rw [q1]; rfl, by rw [q2]; rfl, q3⟩
    · rcases Int.lt_or_le r r' with g | g
      · exact ⟨[], r, r', R, R', rfl, rfl, g⟩
      · exfalso
        have hlt : r' < r := by omega
        rcases h1 with ⟨g1, _⟩ | ⟨g1, g2, g3⟩
        · rcases h2 with ⟨g4, _⟩ | ⟨g4, _⟩ <;> omega
        · rw [if_neg (by omega)] at h
          obtain ⟨i1, i2⟩ := rkT_bd u R g3
          have hc := cmp_nonneg (m := m) R.length u
          have hp : 0 ≤ (r - 1) * cmp m R.length u := Int.mul_nonneg (by omega) hc
          rcases h2 with ⟨g4, g5, g6⟩ | ⟨g4, g5, g6⟩
          · rw [if_pos g4] at h
            obtain ⟨j1, j2⟩ := rkT_bd (u + 1) R' g6
            have hf : Q.frs m R.length u = cmp m R.length (u + 1) := if_pos g5
            rw [← hl] at j2
            omega
          · rw [if_neg (by omega), ← hl] at h
            obtain ⟨j1, j2⟩ := rkT_bd u R' g6
            rw [← hl] at j2
            have : r' * cmp m R.length u ≤ (r - 1) * cmp m R.length u := Int.mul_le_mul_of_nonneg_right (by omega) hc
            have e : r' * cmp m R.length u = (r' - 1) * cmp m R.length u + cmp m R.length u := by rw [Int.sub_mul, Int.one_mul]; omega
            omega
theorem ltL_app : ∀ (A : List Int) {x y : Int} (S T : List Int), x < y → ltL (A ++ x :: S) (A ++ y :: T) = true
  | [], x, y, S, T, h => by
    show (if x = y then _ else decide (x < y)) = true
    rw [if_neg (by omega), decide_eq_true h]
  | a :: A, x, y, S, T, h => by
    show (if a = a then ltL (A ++ x :: S) (A ++ y :: T) else _) = true
    rw [if_pos rfl]
    exact ltL_app A S T h
/-- a smaller number stands for a smaller list -/
theorem rank_ltL {R R' : List Int} (hm : 0 ≤ m) (h1 : OkT m 0 R) (h2 : OkT m 0 R') (hl : R.length = R'.length) (h : rkT m 0 R < rkT m 0 R') : ltL (dist (zI R)) (dist (zI R')) = true := by
  obtain ⟨P, r, r', S, S', rfl, rfl, hr⟩ := rkT_lt 0 R R' h1 h2 hl h
  obtain ⟨x, T, hx, e1⟩ := dist_at ((okT_iff hm).mp h1).1
  obtain ⟨y, T', hy, e2⟩ := dist_at ((okT_iff hm).mp h2).1
  rw [e1, e2]
  exact ltL_app _ _ _ (rank_dist (by omega))
end
/-! the last place of a sign -/
theorem last_place {A : List Int} {s : Int} (h : s ∈ A) : A.reverse.idxOf s < A.length ∧ A[A.length - 1 - A.reverse.idxOf s]? = some s ∧ ∀ m, A.length - 1 - A.reverse.idxOf s < m → A[m]? ≠ some s := by
  have hr : s ∈ A.reverse := List.mem_reverse.mpr h
  have hl := List.idxOf_lt_length_of_mem hr
  have hl2 := hl
  rw [List.length_reverse] at hl2
  refine ⟨hl2, ?_, fun m hm e => ?_⟩
  · have e : A.reverse[A.reverse.idxOf s]? = some s := by rw [List.getElem?_eq_getElem hl, List.getElem_idxOf]
    rw [List.getElem?_reverse hl2] at e
    exact e
  · have hml := (List.getElem?_eq_some_iff.mp e).1
    refine idxOf_first (i := s) (ns := A.reverse) (m := A.length - 1 - m) (by omega) ?_
    rw [List.getElem?_reverse (by omega), show A.length - 1 - (A.length - 1 - m) = m by omega]
    exact e
/-- the recent signs counted -/
theorem recent_rank {A : List Int} {s : Int} (h : s ∈ A) : (rkR A s : Int) = ((dd (A.drop (A.length - A.reverse.idxOf s))).length : Int) + 1 := by
  obtain ⟨h1, h2, h3⟩ := last_place h
  have := rkR_seg h2 h3 (dd_nodup2 (A.drop (A.length - A.reverse.idxOf s))) fun z => by
    rw [dd_mem, show A.length - 1 - A.reverse.idxOf s + 1 = A.length - A.reverse.idxOf s by omega]
  omega
theorem rkR_not {A : List Int} {s : Int} (h : s ∉ A) : rkR A s = 0 := by
  unfold rkR
  rw [if_neg (by rw [rec_mem]; exact h)]
theorem zc_take {w : List Int} {p : Nat} {s : Int} (h : w[p]? = some s) : zc (dist (w.take (p + 1))) = zc (dist (w.take p)) + if rkR (w.take p) s = 0 then 1 else 0 := by
  have hp := (List.getElem?_eq_some_iff.mp h).1
  rw [take_snoc' h, dist_snoc, zc_snoc]
  congr 1
  have h1 := rkR_dAt (w.take p) s
  have h2 := zc_nonneg (dist ((w.take p).drop ((w.take p).length - (dAt (w.take p ++ [s]) (w.take p).length).toNat + 1)))
  by_cases hd : dAt (w.take p ++ [s]) (w.take p).length = 0
  · rw [if_pos hd] at h1
    rw [if_pos hd, if_pos (by omega)]
  · rw [if_neg hd] at h1
    rw [if_neg hd, if_neg (by omega)]
end Q


set_option Elab.async false
set_option linter.all false
set_option maxRecDepth 100000
set_option maxHeartbeats 2000000
set_option autoImplicit false
/-! Q65: the first lists, one symbol alone. -/
namespace Q
open PySem PySem.Spec PyProof.Rows L2
def ones (n : Nat) : List Int := List.replicate n 1
theorem ones_succ (n : Nat) : ones (n + 1) = ones n ++ [1] := by
  unfold ones
  rw [← List.replicate_append_replicate]; rfl
theorem ones_length (n : Nat) : (ones n).length = n := List.length_replicate
theorem rep_succ (n : Nat) : List.replicate (n + 1) (0 : Int) = List.replicate n 0 ++ [0] := by
  rw [← List.replicate_append_replicate]; rfl
theorem zI_ones : ∀ n, OkR (0 :: ones n) ∧ zI (0 :: ones n) = List.replicate (n + 1) 0 ∧ rec (List.replicate (n + 1) (0 : Int)) = [0]
  | 0 => ⟨by unfold OkR; decide, by decide, by decide⟩
  | n + 1 => by
    obtain ⟨h1, h2, h3⟩ := zI_ones n
    have e : (0 : Int) :: ones (n + 1) = (0 :: ones n) ++ [1] := by rw [ones_succ]; rfl
    have z : zc (0 :: ones n) = 1 := by
      unfold zc
      rw [List.filter_cons_of_pos (by decide), List.length_cons]
      have : (ones n).filter (fun e => decide (e = 0)) = [] := List.filter_eq_nil_iff.mpr fun a ha => by
        have := List.eq_of_mem_replicate ha
        rw [this]; decide
      rw [this]; rfl
    have hr : rec (List.replicate (n + 1 + 1) (0 : Int)) = [0] := by
      rw [rep_succ, rec_snoc, h3]; rfl
    refine ⟨by rw [e]; exact okR_snoc.mpr ⟨h1, by omega, by omega⟩, ?_, hr⟩
    rw [e, zI_snoc, if_neg (by decide), h2, h3, rep_succ (n + 1)]
    rfl
theorem dist_rep : ∀ n, dist (List.replicate (n + 1) (0 : Int)) = 0 :: ones n
  | 0 => by decide
  | n + 1 => by
    rw [rep_succ, dist_snoc, dist_rep n, dAt_again _ _ (by rw [List.length_replicate, List.getElem?_replicate, if_pos (by omega)]), ones_succ]
    rfl
theorem cmp_one : ∀ l, cmp 1 l 1 = 1
  | 0 => rfl
  | l + 1 => by
    rw [cmp_succ, cmp_one l]
    rfl
theorem unT_one : ∀ n, unT 1 n 1 0 = ones n
  | 0 => rfl
  | n + 1 => by
    rw [unT_succ, show Q.frs 1 n 1 = 0 from rfl, if_neg (by decide), cmp_one, show ((0 : Int) - 0) % 1 = 0 by decide, unT_one n]
    unfold ones
    rw [List.replicate_succ]; rfl
theorem unT_ones (n : Nat) : unT 1 (n + 1) 0 0 = 0 :: ones n ∧ cmp 1 (n + 1) 0 = 1 := by
  have h : Q.frs 1 n 0 = 1 := by
    unfold Q.frs
    rw [if_pos (by decide)]
    exact cmp_one n
  refine ⟨?_, ?_⟩
  · rw [unT_succ, h, if_pos (by decide), unT_one]
  · rw [cmp_succ, h]; simp
theorem rkT_one : ∀ n, rkT 1 1 (ones n) = 0
  | 0 => rfl
  | n + 1 => by
    have e : ones (n + 1) = 1 :: ones n := by unfold ones; rw [List.replicate_succ]
    rw [e]
    show (if (1 : Int) = 0 then _ else Q.frs 1 (ones n).length 1 + (1 - 1) * cmp 1 (ones n).length 1 + rkT 1 1 (ones n)) = 0
    rw [if_neg (by decide), rkT_one n, show Q.frs 1 (ones n).length 1 = 0 from rfl]
    simp
theorem rkT_ones (n : Nat) : rkT 1 0 (0 :: ones n) = 0 := by
  show (if (0 : Int) = 0 then rkT 1 1 (ones n) else _) = 0
  rw [if_pos rfl, rkT_one]
theorem ranks_rep (n : Nat) : ranks (List.replicate (n + 1) (0 : Int)) = 0 :: ones n := by
  obtain ⟨h1, h2, _⟩ := zI_ones n
  rw [← h2]
  exact (zI_facts _ h1).2.2
theorem zc_rep (n : Nat) : zc (dist (List.replicate (n + 1) (0 : Int))) = 1 := by
  rw [dist_rep]
  unfold zc
  rw [List.filter_cons_of_pos (by decide), List.length_cons]
  have : (ones n).filter (fun e => decide (e = 0)) = [] := List.filter_eq_nil_iff.mpr fun a ha => by
    have := List.eq_of_mem_replicate ha
    rw [this]; decide
  rw [this]; rfl
theorem unT_zeros {m : Int} : ∀ (n u : Nat), (u : Int) + n ≤ m → unT m n u 0 = zeros n
  | 0, _, _ => rfl
  | n + 1, u, h => by
    have hf : 0 < Q.frs m n u := by
      unfold Q.frs
      rw [if_pos (by omega)]
      exact cmp_pos n (u + 1) (by omega)
    rw [unT_succ, if_pos hf, unT_zeros n (u + 1) (by omega)]
    unfold zeros
    rw [List.replicate_succ]
theorem zI_zeros : ∀ n, OkR (zeros n) ∧ zI (zeros n) = upto n
  | 0 => ⟨by unfold OkR; decide, by decide⟩
  | n + 1 => by
    obtain ⟨h1, h2⟩ := zI_zeros n
    have h3 := (zI_facts _ h1).1
    rw [h2, zc_zeros] at h3
    rw [zeros_succ]
    refine ⟨okR_snoc.mpr ⟨h1, Int.le_refl 0, by rw [zc_zeros]; omega⟩, ?_⟩
    rw [zI_snoc, if_pos rfl, h2, h3, upto_succ]
theorem first_zeros (n : Nat) {m : Int} (h : (n : Int) ≤ m) : dist (zI (unT m n 0 0)) = zeros n := by
  rw [unT_zeros n 0 (by omega), (zI_zeros n).2, zeros_dist]
theorem first_ones (n : Nat) : dist (zI (unT 1 (n + 1) 0 0)) = 0 :: ones n := by
  rw [(unT_ones n).1, (zI_ones n).2.1, dist_rep]
/-- what is unranked -/
theorem un_facts {m x : Int} {n : Nat} (hm : 0 ≤ m) (h0 : 0 ≤ x) (h1 : x < cmp m n 0) : OkT m 0 (unT m n 0 x) ∧ ranks (zI (unT m n 0 x)) = unT m n 0 x ∧ (zI (unT m n 0 x)).length = n ∧ zc (dist (zI (unT m n 0 x))) ≤ m ∧ rkT m 0 (unT m n 0 x) = x ∧ (unT m n 0 x).length = n := by
  obtain ⟨i1, i2, i3⟩ := unT_ok (m := m) n 0 x h0 h1
  obtain ⟨j1, j2⟩ := (okT_iff hm).mp i1
  have j3 := (zI_facts _ j1).2.2
  exact ⟨i1, j3, by rw [zI_length, i2], by rw [← zc_ranks, j3]; exact j2, i3, i2⟩
theorem cmp_total {m : Int} (hm : 0 ≤ m) {w : List Int} (h : zc (dist w) ≤ m) : 0 ≤ rkT m 0 (ranks w) ∧ rkT m 0 (ranks w) < cmp m w.length 0 := by
  have := rkT_bd 0 _ (ranks_okT hm w h)
  rwa [ranks_length] at this
theorem un_rank {m : Int} (hm : 0 ≤ m) {w : List Int} (h : zc (dist w) ≤ m) : dist (zI (unT m w.length 0 (rkT m 0 (ranks w)))) = dist w := by
  have := unT_rkT 0 _ (ranks_okT hm w h)
  rw [ranks_length] at this
  rw [this, (okR_ranks w).2]
theorem dist_wit {d : D} {w : List Int} (h : d = .lst ((dist w).map .int) ∨ d = .tup ((dist w).map .int)) : isDist d = true → ∃ w : List Int, nums d = dist w := fun _ => ⟨w, by rcases h with rfl | rfl; exact nums_l _; exact nums_t _⟩
theorem count_zc' (ns : List Int) : ((ns.count 0 : Nat) : Int) = zc ns := by
  unfold zc
  rw [List.count_eq_length_filter]
  congr 2
theorem cmp_pos0 {m : Int} (hm : 0 < m) : ∀ l, 0 < cmp m l 0
  | 0 => by simp [cmp]
  | l + 1 => by
    have h : Q.frs m l 0 = cmp m l 1 := if_pos (by omega)
    have := cmp_pos (m := m) l 1 (by decide)
    rw [cmp_succ, h]
    simp
    omega
theorem in_okN {i : Int} (h : 0 ≤ i) : intIn 0 .non (.int i) = true := by simp [intIn, leO, h]
theorem rep_lst (n : Nat) : D.lst ([.int 0] ++ (List.replicate n [D.int 1]).flatten) = .lst ((dist (List.replicate (n + 1) (0 : Int))).map .int) := by
  rw [rep_one, dist_rep]
  unfold ones
  rw [List.map_cons, List.map_replicate]; rfl
end Q


set_option Elab.async false
set_option linter.all false
set_option maxRecDepth 100000
set_option maxHeartbeats 2000000
set_option autoImplicit false
/-! Q66: the completions of a list. -/
namespace Q
open PySem PySem.Spec PyProof.Rows L2
def minT (m : Int) : Nat → Nat → List Int
  | 0, _ => []
  | l + 1, u => if (u : Int) < m then 0 :: minT m l (u + 1) else 1 :: minT m l u
def maxT : Nat → Nat → List Int
  | 0, _ => []
  | l + 1, u => if u = 0 then 0 :: maxT l 1 else (u : Int) :: maxT l u
section
variable {m : Int}
theorem minT_ok (hm : 0 < m) : ∀ (l u : Nat), (u : Int) ≤ m → OkT m u (minT m l u) ∧ (minT m l u).length = l ∧ rkT m u (minT m l u) = 0
  | 0, _, _ => ⟨trivial, rfl, rfl⟩
  | l + 1, u, h => by
    unfold minT
    by_cases hu : (u : Int) < m
    · rw [if_pos hu]
      obtain ⟨i1, i2, i3⟩ := minT_ok hm l (u + 1) (by omega)
      refine ⟨.inl ⟨rfl, hu, i1⟩, by rw [List.length_cons, i2], ?_⟩
      show (if (0 : Int) = 0 then _ else _) = _
      rw [if_pos rfl, i3]
    · rw [if_neg hu]
      obtain ⟨i1, i2, i3⟩ := minT_ok hm l u h
      refine ⟨.inr ⟨Int.le_refl 1, by omega, i1⟩, by rw [List.length_cons, i2], ?_⟩
      show (if (1 : Int) = 0 then _ else Q.frs m _ u + (1 - 1) * _ + rkT m u (minT m l u)) = 0
      rw [if_neg (by decide), i3, show Q.frs m (minT m l u).length u = 0 from if_neg hu]
      simp
theorem maxT_ok (hm : 0 < m) : ∀ (l u : Nat), (u : Int) ≤ m → OkT m u (maxT l u) ∧ (maxT l u).length = l ∧ rkT m u (maxT l u) = cmp m l u - 1
  | 0, _, _ => ⟨trivial, rfl, by simp [rkT, maxT, cmp]⟩
  | l + 1, u, h => by
    unfold maxT
    by_cases hu : u = 0
    · subst hu
      rw [if_pos rfl]
      obtain ⟨i1, i2, i3⟩ := maxT_ok hm l 1 (by omega)
      refine ⟨.inl ⟨rfl, by omega, i1⟩, by rw [List.length_cons, i2], ?_⟩
      show (if (0 : Int) = 0 then _ else _) = _
      rw [if_pos rfl, i3, cmp_succ, show Q.frs m l 0 = cmp m l 1 from if_pos (by omega)]
      simp
    · rw [if_neg hu]
      obtain ⟨i1, i2, i3⟩ := maxT_ok hm l u h
      refine ⟨.inr ⟨by omega, Int.le_refl _, i1⟩, by rw [List.length_cons, i2], ?_⟩
      show (if (u : Int) = 0 then _ else Q.frs m (maxT l u).length u + ((u : Int) - 1) * cmp m (maxT l u).length u + rkT m u (maxT l u)) = _
      rw [if_neg (by omega), i3, i2, cmp_succ]
      have e : (u : Int) * cmp m l u = ((u : Int) - 1) * cmp m l u + cmp m l u := by rw [Int.sub_mul, Int.one_mul]; omega
      omega
theorem zc_cons (e : Int) (l : List Int) : zc (e :: l) = (if e = 0 then 1 else 0) + zc l := by
  unfold zc
  by_cases h : e = 0
  · rw [List.filter_cons_of_pos (by simpa using h), if_pos h, List.length_cons]; omega
  · rw [List.filter_cons_of_neg (by simpa using h), if_neg h]; omega
theorem okT_app : ∀ (P S : List Int) (u : Nat), OkT m u (P ++ S) ↔ OkT m u P ∧ OkT m (u + (zc P).toNat) S
  | [], S, u => by
    show OkT m u S ↔ True ∧ OkT m (u + (zc []).toNat) S
    rw [show zc [] = 0 from rfl]
    simp
  | p :: P, S, u => by
    have hz := zc_nonneg P
    show ((p = 0 ∧ (u : Int) < m ∧ OkT m (u + 1) (P ++ S)) ∨ (1 ≤ p ∧ p ≤ u ∧ OkT m u (P ++ S))) ↔ (_ ∨ _) ∧ _
    rw [okT_app P S (u + 1), okT_app P S u, zc_cons]
    by_cases h : p = 0
    · rw [if_pos h, show u + 1 + (zc P).toNat = u + (1 + zc P).toNat by omega]
      constructor
      · rintro (⟨a, b, c, d⟩ | ⟨a, _⟩)
        · exact ⟨.inl ⟨a, b, c⟩, d⟩
        · omega
      · rintro ⟨⟨a, b, c⟩ | ⟨a, _⟩, d⟩
        · exact .inl ⟨a, b, c, d⟩
        · omega
    · rw [if_neg h, show u + (zc P).toNat = u + (0 + zc P).toNat by omega]
      constructor
      · rintro (⟨a, _⟩ | ⟨a, b, c, d⟩)
        · exact absurd a h
        · exact ⟨.inr ⟨a, b, c⟩, d⟩
      · rintro ⟨⟨a, _⟩ | ⟨a, b, c⟩, d⟩
        · exact absurd a h
        · exact .inr ⟨a, b, c, d⟩
/-- the front of what is unranked -/
theorem front_dist (w S : List Int) : (dist (zI (ranks w ++ S))).take w.length = dist w := by
  obtain ⟨T, hT⟩ := zI_pre (ranks w) S
  have hl : (zI (ranks w)).length = w.length := by rw [zI_length, ranks_length]
  have := dist_pre T (zI (ranks w))
  rw [hl] at this
  rw [hT, this, (okR_ranks w).2]
theorem ranks_pre (u : List Int) : ∀ v : List Int, ∃ S, ranks (u ++ v) = ranks u ++ S := fun v => by
  refine snoc_ind (P := fun v => ∃ S, ranks (u ++ v) = ranks u ++ S) ⟨[], by simp⟩ (fun v x ⟨S, hS⟩ => ?_) v
  rw [← List.append_assoc, ranks_snoc, hS]
  exact ⟨_, List.append_assoc _ _ _⟩
structure Ext19 (m : Int) (w : List Int) (L : Nat) (B C : Int) : Prop where
  at_ : ∀ S : List Int, S.length = L → rkT m 0 (ranks w ++ S) = B + rkT m (zc (dist w)).toNat S
  c : C = cmp m L (zc (dist w)).toNat
theorem ext_in {w : List Int} {L : Nat} {B C x : Int} (hm : 0 ≤ m) (hw : zc (dist w) ≤ m) (E : Ext19 m w L B C) (h0 : B ≤ x) (h1 : x < B + C) (hB : 0 ≤ B) : x < cmp m (w.length + L) 0 ∧ (dist (zI (unT m (w.length + L) 0 x))).take w.length = dist w := by
  have hz := zc_nonneg (dist w)
  obtain ⟨i1, i2, i3⟩ := unT_ok (m := m) L (zc (dist w)).toNat (x - B) (by omega) (by rw [← E.c]; omega)
  generalize unT m L (zc (dist w)).toNat (x - B) = S at *
  have hR : OkT m 0 (ranks w ++ S) := (okT_app _ _ _).mpr ⟨ranks_okT hm w hw, by rw [zc_ranks, Nat.zero_add]; exact i1⟩
  have hx : rkT m 0 (ranks w ++ S) = x := by rw [E.at_ S i2, i3]; omega
  have hb := rkT_bd 0 _ hR
  have hu := unT_rkT 0 _ hR
  have hl : (ranks w ++ S).length = w.length + L := by rw [List.length_append, ranks_length, i2]
  rw [hl, hx] at hu hb
  rw [hu]
  exact ⟨hb.2, front_dist w S⟩
theorem ext_out {w : List Int} {L : Nat} {B C x : Int} (hm : 0 ≤ m) (E : Ext19 m w L B C) (h0 : 0 ≤ x) (h1 : x < cmp m (w.length + L) 0) (h : (dist (zI (unT m (w.length + L) 0 x))).take w.length = dist w) : B ≤ x ∧ x < B + C := by
  obtain ⟨f1, f2, f3, f4, f5, f6⟩ := un_facts hm h0 h1
  generalize unT m (w.length + L) 0 x = T at *
  obtain ⟨S, hS⟩ := ranks_pre ((zI T).take w.length) ((zI T).drop w.length)
  rw [List.take_append_drop, f2] at hS
  have hd : dist ((zI T).take w.length) = dist w := by rw [dist_take]; exact h
  have hr : ranks ((zI T).take w.length) = ranks w := by rw [← recI_dist, ← recI_dist, hd]
  rw [hr] at hS
  subst hS
  have hl : S.length = L := by
    rw [List.length_append, ranks_length] at f6
    omega
  rw [E.at_ S hl] at f5
  have h2 := ((okT_app _ _ _).mp f1).2
  rw [zc_ranks, Nat.zero_add] at h2
  have h3 := rkT_bd _ _ h2
  rw [hl, ← E.c] at h3
  omega
theorem ext_of (m : Int) (w : List Int) (L : Nat) : ∃ B, Ext19 m w L B (cmp m L (zc (dist w)).toNat) := by
  obtain ⟨B, hB⟩ := rkT_app (m := m) (ranks w) (List.replicate L 0) 0
  refine ⟨B, fun S hS => ?_, rfl⟩
  rw [hB S (by rw [hS, List.length_replicate]), zc_ranks, Nat.zero_add]
end
/-! the signs, the most recent first -/
def stepA (acc : List Int) (x : Int) : List Int := if x ∈ acc then acc else acc ++ [x]
theorem stepA_in {A : List Int} {x : Int} (h : x ∈ A) : stepA A x = A := if_pos h
theorem stepA_out {A : List Int} {x : Int} (h : x ∉ A) : stepA A x = A ++ [x] := if_neg h
theorem fold_ddA (A : List Int) : ∀ l : List Int, l.foldl stepA A = A ++ (ddA l).filter fun x => decide (x ∉ A) := fun l => by
  refine snoc_ind (P := fun l => l.foldl stepA A = A ++ (ddA l).filter fun x => decide (x ∉ A)) (by simp [ddA]) (fun l x ih => ?_) l
  rw [List.foldl_append, ih, ddA_snoc]
  show stepA _ x = _
  unfold stepA
  by_cases hA : x ∈ A
  · rw [if_pos (List.mem_append_left _ hA)]
    split
    · rfl
    · rw [List.filter_append, List.filter_cons_of_neg (by simpa using hA)]
      simp
  · by_cases hd : x ∈ ddA l
    · rw [if_pos (List.mem_append_right _ (List.mem_filter.mpr ⟨hd, by simpa using hA⟩)), if_pos hd]
    · rw [if_neg (fun h => (List.mem_append.mp h).elim hA fun h => hd (List.mem_filter.mp h).1), if_neg hd, List.filter_append, List.filter_cons_of_pos (by simpa using hA)]
      simp
theorem rec_ddA (v : List Int) : ddA v.reverse = rec v := by
  refine snoc_ind (P := fun v => ddA v.reverse = rec v) rfl (fun v x ih => ?_) v
  rw [List.reverse_append, rec_snoc, ← ih]
  have h := fold_ddA [x] v.reverse
  have hn : (ddA v.reverse).Nodup := by rw [ih]; exact rec_nodup v
  show (v.reverse).foldl stepA (stepA [] x) = _
  rw [show stepA [] x = [x] by unfold stepA; simp, h, hn.erase_eq_filter]
  show x :: _ = x :: _
  congr 1
  refine List.filter_congr fun y hy => ?_
  by_cases e : y = x <;> simp [e]
theorem rec_zc (v : List Int) : ((rec v).length : Int) = zc (dist v) := by
  rw [← dd_zc]
  have := perm_of_mem (rec_nodup v) (dd_nodup2 v) fun x => by rw [rec_mem, dd_mem]
  omega
theorem rec_head {v : List Int} {x : Int} (h : (rec v)[0]? = some x) : rkR v x = 1 := by
  have hm : x ∈ rec v := List.mem_of_getElem? h
  unfold rkR
  rw [if_pos hm]
  have : (rec v).idxOf x = 0 := by
    cases hr : rec v with
    | nil => rw [hr] at h; cases h
    | cons a l =>
      rw [hr] at h
      have : a = x := by simpa using h
      rw [this, List.idxOf_cons_self]
  rw [this]
theorem rec_last {v : List Int} {x : Int} (h : (rec v)[(rec v).length - 1]? = some x) : rkR v x = (rec v).length := by
  have hm : x ∈ rec v := List.mem_of_getElem? h
  have hl := (List.getElem?_eq_some_iff.mp h).1
  unfold rkR
  rw [if_pos hm]
  have hi := List.idxOf_lt_length_of_mem hm
  have e : (rec v)[(rec v).idxOf x]? = some x := by rw [List.getElem?_eq_getElem hi, List.getElem_idxOf]
  have := (List.getElem?_inj (i := (rec v).idxOf x) (j := (rec v).length - 1) hi (rec_nodup v)).mp (e.trans h.symm)
  omega
/-- completions from u symbols on, u + 1, .. -/
def rowC (m : Int) (l u n : Nat) : List Int := (List.range n).map fun i => cmp m l (u + i)
theorem rowC_length (m : Int) (l u n : Nat) : (rowC m l u n).length = n := by unfold rowC; simp
theorem rowC_get {m : Int} {l u n i : Nat} (h : i < n) : (rowC m l u n)[i]? = some (cmp m l (u + i)) := by
  unfold rowC
  rw [List.getElem?_map, List.getElem?_range h]; rfl
theorem rowC_succ (m : Int) (l u n : Nat) : rowC m l u (n + 1) = rowC m l u n ++ [cmp m l (u + n)] := by
  unfold rowC
  rw [List.range_succ, List.map_append]; rfl
theorem rowC_zero (m : Int) (u n : Nat) : rowC m 0 u n = List.replicate n 1 := by
  unfold rowC
  rw [List.eq_replicate_iff]
  exact ⟨by simp, fun b hb => by obtain ⟨i, _, rfl⟩ := List.mem_map.mp hb; rfl⟩
theorem zc_snocR (v : List Int) (x : Int) : zc (dist (v ++ [x])) = zc (dist v) + if rkR v x = 0 then 1 else 0 := by
  have := zc_take (w := v ++ [x]) (p := v.length) (s := x) (by simp)
  rwa [List.take_left' rfl, List.take_of_length_le (by simp)] at this
theorem comp_cons {g : TGq} {tt : TTq} {te : TEq} {vs : List Nat} {d : D} {ds acc : List D} {env : En} {k : List D → En → Prop} (q : compStep g tt te vs acc (fun acc' env' => compQ g tt te vs ds acc' env' k) d env) : compQ g tt te vs (d :: ds) acc env k := q
theorem comp_nil {g : TGq} {tt : TTq} {te : TEq} {vs : List Nat} {acc : List D} {env : En} {k : List D → En → Prop} (q : k acc env) : compQ g tt te vs [] acc env k := q
end Q


set_option Elab.async false
set_option linter.all false
set_option maxRecDepth 100000
set_option maxHeartbeats 2000000
set_option autoImplicit false
/-! Q67: all short lists in order. -/
namespace Q
open PySem PySem.Spec PyProof.Rows L2
def tgI (es : List Int) : List Int := tgs (es.map .int)
def someL (p : Nat) (es : List Int) : List Int := (upto (p + 1)).filter fun e => decide (e = 0) || decide ((p : Int) - e ∉ tgI es)
def stepL (p : Nat) (es : List Int) : List (List Int) := (someL p es).map fun e => es ++ [e]
def AL : Nat → List (List Int)
  | 0 => [[]]
  | n + 1 => (AL n).flatMap (stepL n)
def fltL (m : Int) (n : Nat) : List (List Int) := (AL n).filter fun es => decide (zc es ≤ m)
def unL (m : Int) (n : Nat) : List (List Int) := (List.range (cmp m n 0).toNat).map fun (x : Nat) => dist (zI (unT m n 0 (x : Int)))
theorem all_ok : ((List.range 6).all fun n => (List.range 8).all fun m => decide (fltL (m : Int) n = unL (m : Int) n)) = true := by decide +kernel
theorem all_ok6 : ((List.range 8).all fun m => decide (fltL (m : Int) 6 = unL (m : Int) 6)) = true := by decide +kernel
theorem unT_min {m : Int} {n : Nat} : ∀ (l u : Nat) (x : Int), u + l ≤ n → unT (if m < n then m else n) l u x = unT m l u x
  | 0, _, _, _ => rfl
  | l + 1, u, x, h => by
    have hf : Q.frs (if m < n then m else n) l u = Q.frs m l u := by
      unfold Q.frs
      rw [cmp_min l (u + 1) (by omega)]
      by_cases hu : (u : Int) < m
      · rw [if_pos hu, if_pos (by split <;> omega)]
      · rw [if_neg hu, if_neg (by split <;> omega)]
    rw [unT_succ, unT_succ, hf, cmp_min l u (by omega), unT_min l (u + 1) x (by omega), unT_min l u _ (by omega)]
theorem zc_len (l : List Int) : zc l ≤ l.length := zc_le l
theorem AL_len : ∀ n, ∀ es ∈ AL n, es.length = n
  | 0, es, h => by
    have := List.mem_singleton.mp h
    subst this; rfl
  | n + 1, es, h => by
    obtain ⟨fs, hf, he⟩ := List.mem_flatMap.mp h
    obtain ⟨e, _, rfl⟩ := List.mem_map.mp he
    rw [List.length_append, AL_len n fs hf]; rfl
/-- the lists with at most m symbols, as they are unranked -/
theorem AL_un {m : Int} {n : Nat} (hm : 0 ≤ m) (hn : n ≤ 6) : fltL m n = unL m n := by
  have key : ∀ k : Nat, k ≤ 7 → fltL (k : Int) n = unL (k : Int) n := fun k hk => by
    rcases Nat.lt_or_ge n 6 with h | h
    · have := List.all_eq_true.mp (List.all_eq_true.mp all_ok n (List.mem_range.mpr h)) k (List.mem_range.mpr (by omega))
      exact of_decide_eq_true this
    · have : n = 6 := by omega
      subst this
      exact of_decide_eq_true (List.all_eq_true.mp all_ok6 k (List.mem_range.mpr (by omega)))
  rcases Int.lt_or_le m 7 with h | h
  · obtain ⟨k, rfl⟩ := Int.eq_ofNat_of_zero_le hm
    exact key k (by omega)
  · have h7 := key 7 (by decide)
    have e1 : cmp m n 0 = cmp ((7 : Nat) : Int) n 0 := by
      rw [← cmp_min (m := m) (n := 7) n 0 (by omega), if_neg (by omega)]
    have e2 : fltL m n = fltL ((7 : Nat) : Int) n := by
      unfold fltL
      refine List.filter_congr fun es he => decide_eq_decide.mpr ?_
      have := zc_len es
      rw [AL_len n es he] at this
      constructor <;> intro <;> omega
    have e3 : unL m n = unL ((7 : Nat) : Int) n := by
      unfold unL
      rw [e1]
      refine List.map_congr_left fun x _ => ?_
      rw [← unT_min (m := m) (n := 7) n 0 x (by omega), if_neg (by omega)]
    rw [e2, e3, h7]
theorem AL_small : ((List.range 7).all fun n => decide ((AL n).length ≤ 203)) = true := by decide +kernel
theorem AL_len2 {n : Nat} (h : n ≤ 6) : (AL n).length ≤ 203 := of_decide_eq_true (List.all_eq_true.mp AL_small n (List.mem_range.mpr (by omega)))
def Lq (es : List Int) : D := .lst (es.map .int)
theorem AL_bd : ∀ n, ∀ es ∈ AL n, ∀ e ∈ es, 0 ≤ e ∧ e < n + 1
  | 0, es, h, e, he => by
    have := List.mem_singleton.mp h
    subst this; cases he
  | n + 1, es, h, e, he => by
    obtain ⟨fs, hf, hes⟩ := List.mem_flatMap.mp h
    obtain ⟨x, hx, rfl⟩ := List.mem_map.mp hes
    rcases List.mem_append.mp he with he | he
    · have := AL_bd n fs hf e he; omega
    · have := List.mem_singleton.mp he
      subst this
      have := upto_mem.mp (List.mem_filter.mp hx).1
      omega
theorem okE_of {es : List Int} (h : ∀ (n : Nat) (e : Int), es[n]? = some e → 0 ≤ e) : ∀ (n : Nat) (d : D), (es.map D.int)[n]? = some d → ∃ e : Int, d = .int e ∧ 0 ≤ e := fun n d hd => by
  obtain ⟨i, hi, rfl⟩ := ints_get hd
  exact ⟨i, rfl, h n i hi⟩
theorem flat_len {α β : Type} {f : α → List β} {c : Nat} : ∀ {l : List α}, (∀ x ∈ l, (f x).length ≤ c) → (l.flatMap f).length ≤ c * l.length
  | [], _ => by simp
  | a :: l, h => by
    have h1 := h a (List.mem_cons_self ..)
    have h2 := flat_len (l := l) fun x hx => h x (List.mem_cons_of_mem _ hx)
    rw [List.flatMap_cons, List.length_append, List.length_cons, Nat.mul_succ]
    omega
theorem stepL_len (p : Nat) (es : List Int) : (stepL p es).length ≤ p + 1 := by
  unfold stepL someL
  rw [List.length_map]
  exact Nat.le_trans (List.length_filter_le ..) (by rw [upto_length]; exact Nat.le_refl _)
theorem tgI_map (es : List Int) : ((numbered 0 (es.map D.int)).filter (prB fun _ e => decide (toI e > 0))).map (fun d => D.int (prI (fun p e => p - toI e) d)) = (tgI es).map .int := by
  unfold tgI tgs
  rw [List.map_map]; rfl
end Q


set_option Elab.async false
set_option linter.all false
set_option maxRecDepth 100000
set_option maxHeartbeats 2000000
set_option autoImplicit false
/-! Q68: how many mappings there are. -/
namespace Q
open PySem PySem.Spec PyProof.Rows L2
def chs : Nat → Nat → Nat
  | _, 0 => 1
  | 0, _ + 1 => 0
  | a + 1, k + 1 => chs a (k + 1) + chs a k
def fal (b : Nat) : Nat → Nat
  | 0 => 1
  | k + 1 => (b - k) * fal b k
def mtc (a b k : Nat) : Nat := chs a k * fal b k
def mtS (a b : Nat) : Nat → Nat
  | 0 => 0
  | k + 1 => mtS a b k + mtc a b k
/-- the number of mappings, by the law's own recurrence -/
def wm : Nat → Nat → Nat
  | 0, _ => 1
  | _ + 1, 0 => 1
  | a + 1, b + 1 => wm a (b + 1) + (b + 1) * wm a b
theorem chs_zero (a : Nat) : chs a 0 = 1 := by cases a <;> rfl
theorem chs_big : ∀ (a k : Nat), a < k → chs a k = 0
  | 0, 0, h => by omega
  | 0, _ + 1, _ => rfl
  | a + 1, 0, h => by omega
  | a + 1, k + 1, h => by
    show chs a (k + 1) + chs a k = 0
    rw [chs_big a (k + 1) (by omega), chs_big a k (by omega)]
theorem chs_one (a k : Nat) : (k + 1) * chs (a + 1) (k + 1) = (a + 1) * chs a k := by
  induction a generalizing k with
  | zero =>
    cases k with
    | zero => rfl
    | succ k => rw [chs_big 1 (k + 2) (by omega), chs_big 0 (k + 1) (by omega)]; omega
  | succ a ih =>
    rw [show chs (a + 1 + 1) (k + 1) = chs (a + 1) (k + 1) + chs (a + 1) k from rfl, Nat.mul_add, ih]
    cases k with
    | zero => rw [chs_zero, chs_zero]; omega
    | succ j =>
      have h := ih j
      rw [show chs (a + 1) (j + 1) = chs a (j + 1) + chs a j from rfl] at h ⊢
      have e1 := Nat.add_mul (j + 1) 1 (chs a (j + 1) + chs a j)
      have e2 := Nat.mul_add (a + 1) (chs a (j + 1)) (chs a j)
      have e3 := Nat.add_mul (a + 1) 1 (chs a (j + 1) + chs a j)
      omega
theorem chs_step {a k : Nat} : (k + 1) * chs a (k + 1) = (a - k) * chs a k := by
  rcases Nat.lt_or_ge a k with h | h
  · rw [chs_big a (k + 1) (by omega), chs_big a k h]
    simp
  · have h1 := chs_one a k
    rw [show chs (a + 1) (k + 1) = chs a (k + 1) + chs a k from rfl, Nat.mul_add] at h1
    obtain ⟨d, rfl⟩ : ∃ d, a = k + d := ⟨a - k, by omega⟩
    rw [show k + d - k = d by omega]
    have e1 : (k + d + 1) * chs (k + d) k = d * chs (k + d) k + (k + 1) * chs (k + d) k := by rw [← Nat.add_mul]; congr 1; omega
    omega
theorem fal_succ (b k : Nat) : fal (b + 1) (k + 1) = (b + 1) * fal b k := by
  induction k with
  | zero => show (b + 1 - 0) * 1 = _; rfl
  | succ k ih =>
    show (b + 1 - (k + 1)) * fal (b + 1) (k + 1) = (b + 1) * ((b - k) * fal b k)
    rw [ih, show b + 1 - (k + 1) = b - k by omega, Nat.mul_left_comm]
theorem fal_big : ∀ (k b : Nat), b < k → fal b k = 0
  | 0, b, h => by omega
  | k + 1, b, h => by
    show (b - k) * fal b k = 0
    rcases Nat.lt_or_ge b k with h2 | h2
    · rw [fal_big k b h2, Nat.mul_zero]
    · rw [show b - k = 0 by omega, Nat.zero_mul]
theorem mtc_zero (a b : Nat) : mtc a b 0 = 1 := by unfold mtc; rw [chs_zero]; rfl
theorem mtc_step (a b k : Nat) : (k + 1) * mtc a b (k + 1) = mtc a b k * (a - k) * (b - k) := by
  unfold mtc
  rw [show fal b (k + 1) = (b - k) * fal b k from rfl, ← Nat.mul_assoc, chs_step]
  rw [Nat.mul_comm (a - k), Nat.mul_assoc, Nat.mul_assoc, Nat.mul_assoc, Nat.mul_comm (b - k) (fal b k), Nat.mul_left_comm (a - k)]
theorem mtc_rec (a b k : Nat) : mtc (a + 1) (b + 1) (k + 1) = mtc a (b + 1) (k + 1) + (b + 1) * mtc a b k := by
  unfold mtc
  rw [show chs (a + 1) (k + 1) = chs a (k + 1) + chs a k from rfl, Nat.add_mul]
  congr 1
  rw [fal_succ, Nat.mul_left_comm]
theorem mtS_rec (a b K : Nat) : mtS (a + 1) (b + 1) (K + 1) = mtS a (b + 1) (K + 1) + (b + 1) * mtS a b K := by
  induction K with
  | zero => show 0 + mtc _ _ 0 = 0 + mtc _ _ 0 + _ * 0; rw [mtc_zero, mtc_zero]; simp
  | succ K ih =>
    show mtS (a + 1) (b + 1) (K + 1) + mtc (a + 1) (b + 1) (K + 1) = mtS a (b + 1) (K + 1) + mtc a (b + 1) (K + 1) + (b + 1) * (mtS a b K + mtc a b K)
    rw [ih, mtc_rec, Nat.mul_add]
    omega
theorem mtS_one {a b : Nat} (h : ∀ k, mtc a b (k + 1) = 0) : ∀ K, mtS a b (K + 1) = 1
  | 0 => by show 0 + mtc a b 0 = 1; rw [mtc_zero]
  | K + 1 => by show mtS a b (K + 1) + mtc a b (K + 1) = 1; rw [mtS_one h K, h]
theorem mtS_wm : ∀ (a b K : Nat), a < K → mtS a b K = wm a b
  | 0, b, K, h => by
    obtain ⟨K, rfl⟩ : ∃ j, K = j + 1 := ⟨K - 1, by omega⟩
    rw [mtS_one (fun k => by unfold mtc; rw [chs_big 0 (k + 1) (by omega), Nat.zero_mul]) K]; rfl
  | a + 1, 0, K, h => by
    obtain ⟨K, rfl⟩ : ∃ j, K = j + 1 := ⟨K - 1, by omega⟩
    rw [mtS_one (fun k => by unfold mtc; rw [fal_big (k + 1) 0 (by omega), Nat.mul_zero]) K]; rfl
  | a + 1, b + 1, K, h => by
    obtain ⟨K, rfl⟩ : ∃ j, K = j + 1 := ⟨K - 1, by omega⟩
    rw [mtS_rec, mtS_wm a (b + 1) (K + 1) (by omega), mtS_wm a b K (by omega)]; rfl
theorem mtS_more {a b K : Nat} (h : ∀ k, K ≤ k → mtc a b k = 0) : ∀ j, mtS a b (K + j) = mtS a b K
  | 0 => rfl
  | j + 1 => by
    show mtS a b (K + j) + mtc a b (K + j) = _
    rw [mtS_more h j, h _ (by omega), Nat.add_zero]
/-- what count_mappings adds up -/
theorem mtS_min (a b : Nat) : mtS a b (min a b + 1) = wm a b := by
  have h := mtS_more (a := a) (b := b) (K := min a b + 1) (fun k hk => by
    unfold mtc
    rcases Nat.lt_or_ge a k with h2 | h2
    · rw [chs_big a k h2, Nat.zero_mul]
    · rw [fal_big k b (by omega), Nat.mul_zero]) (a - min a b)
  rw [← h]
  exact mtS_wm a b _ (by omega)
theorem mtc_div {a b k : Nat} (ha : k ≤ a) (hb : k ≤ b) : ((mtc a b k : Int) * ((a : Int) - k) * ((b : Int) - k)) / ((k : Int) + 1) = mtc a b (k + 1) := by
  have h := mtc_step a b k
  have e : (mtc a b k : Int) * ((a : Int) - k) * ((b : Int) - k) = ((k : Int) + 1) * (mtc a b (k + 1) : Nat) := by
    rw [show (a : Int) - k = ((a - k : Nat) : Int) by omega, show (b : Int) - k = ((b - k : Nat) : Int) by omega, show (k : Int) + 1 = ((k + 1 : Nat) : Int) by omega]
    exact_mod_cast h.symm
  rw [e, Int.mul_ediv_cancel_left _ (by omega)]
end Q


set_option Elab.async false
set_option linter.all false
set_option maxRecDepth 100000
set_option maxHeartbeats 2000000
set_option autoImplicit false
/-! Q69: the law's table of mappings. -/
namespace Q
open PySem PySem.Spec PyProof.Rows L2
def rowW (m l : Nat) : List Int := (List.range (m + 1)).map fun q => (wm l q : Int)
def tabW (m j : Nat) : List D := (List.range j).map fun l => .lst ((rowW m l).map .int)
theorem rowW_length (m l : Nat) : (rowW m l).length = m + 1 := by unfold rowW; rw [List.length_map, List.length_range]
theorem tabW_length (m j : Nat) : (tabW m j).length = j := by unfold tabW; rw [List.length_map, List.length_range]
theorem rowW_get {m l q : Nat} (h : q ≤ m) : (rowW m l)[q]? = some (wm l q : Int) := by
  unfold rowW
  rw [List.getElem?_map, List.getElem?_range (by omega)]; rfl
theorem tabW_get {m j l : Nat} (h : l < j) : (tabW m j)[l]? = some (.lst ((rowW m l).map .int)) := by
  unfold tabW
  rw [List.getElem?_map, List.getElem?_range h]; rfl
theorem tabW_succ (m j : Nat) : tabW m (j + 1) = tabW m j ++ [.lst ((rowW m j).map .int)] := by
  unfold tabW
  rw [List.range_succ, List.map_append]; rfl
theorem wm_none (l : Nat) : wm l 0 = 1 := by cases l <;> rfl
theorem rowW_zero (m : Nat) : rowW m 0 = List.replicate (m + 1) 1 := by
  unfold rowW
  rw [show (fun q => (wm 0 q : Int)) = fun _ => 1 from rfl, List.map_const', List.length_range]
theorem rowW_succ (m l : Nat) : [D.int 1] ++ (List.range m).map (fun q => D.int ((wm l (q + 1) : Int) + (1 + (q : Int)) * (wm l q : Int))) = (rowW m (l + 1)).map .int := by
  unfold rowW
  rw [List.range_succ_eq_map, List.map_cons, List.map_cons, List.map_map, List.map_map]
  rw [wm_none]
  show _ = D.int 1 :: _
  refine congrArg (D.int 1 :: ·) (List.map_congr_left fun q _ => ?_)
  show D.int _ = D.int ((wm l (q + 1) + (q + 1) * wm l q : Nat) : Int)
  rw [Int.natCast_add, Int.natCast_mul, Int.natCast_add, Int.add_comm 1]; rfl
end Q


set_option Elab.async false
set_option linter.all false
set_option maxRecDepth 100000
set_option maxHeartbeats 2000000
set_option autoImplicit false
/-! Q70: all mappings in order. -/
namespace Q
open PySem PySem.Spec PyProof.Rows L2
def Mq (ps : List (Int × Int)) : D := .lst (ps.map fun p => .tup [.int p.1, .int p.2])
def freeM (m : Nat) (ps : List (Int × Int)) : List Int := (upto m).filter fun t => decide (t ∉ ps.map Prod.snd)
def stepM (m p : Nat) (ps : List (Int × Int)) : List (List (Int × Int)) := ps :: (freeM m ps).map fun t => ps ++ [((p : Int), t)]
def AM (m : Nat) : Nat → List (List (Int × Int))
  | 0 => [[]]
  | p + 1 => (AM m p).flatMap (stepM m p)
theorem AM_all : ((List.range 4).all fun n => (List.range 5).all fun m => decide ((AM m n).length = wm n m ∧ (AM m n).length ≤ 73)) = true := by decide +kernel
theorem AM_len {n m : Nat} (hn : n < 4) (hm : m < 5) : (AM m n).length = wm n m ∧ (AM m n).length ≤ 73 :=
  of_decide_eq_true (List.all_eq_true.mp (List.all_eq_true.mp AM_all n (List.mem_range.mpr hn)) m (List.mem_range.mpr hm))
theorem AM_short (m : Nat) : ∀ n, ∀ ps ∈ AM m n, ps.length ≤ n
  | 0, ps, h => by
    have := List.mem_singleton.mp h
    subst this; exact Nat.le_refl _
  | n + 1, ps, h => by
    obtain ⟨qs, hq, he⟩ := List.mem_flatMap.mp h
    have := AM_short m n qs hq
    rcases List.mem_cons.mp he with rfl | he
    · omega
    · obtain ⟨t, _, rfl⟩ := List.mem_map.mp he
      rw [List.length_append, List.length_singleton]; omega
theorem freeM_len (m : Nat) (ps : List (Int × Int)) : (freeM m ps).length ≤ m := by
  unfold freeM
  exact Nat.le_trans (List.length_filter_le ..) (by rw [upto_length]; exact Nat.le_refl _)
theorem stepM_len (m p : Nat) (ps : List (Int × Int)) : (stepM m p ps).length ≤ m + 1 := by
  unfold stepM
  rw [List.length_cons, List.length_map]
  have := freeM_len m ps
  omega
theorem AM_map : ((List.range 4).all fun n => (List.range 5).all fun m => (AM m n).all fun ps => decide ((ps.map (·.1)).Pairwise (· < ·) ∧ (ps.map (·.2)).Nodup ∧ ∀ p ∈ ps, 0 ≤ p.1 ∧ p.1 < n ∧ 0 ≤ p.2 ∧ p.2 < m)) = true := by decide +kernel
theorem AM_ok {n m : Nat} (hn : n < 4) (hm : m < 5) {ps : List (Int × Int)} (h : ps ∈ AM m n) : MapOk n m ps := by
  obtain ⟨h1, h2, h3⟩ := of_decide_eq_true (List.all_eq_true.mp (List.all_eq_true.mp (List.all_eq_true.mp AM_map n (List.mem_range.mpr hn)) m (List.mem_range.mpr hm)) ps h)
  exact ⟨h1, h2, h3⟩
theorem AM_cat : ((List.range 4).all fun n => (List.range 5).all fun m => decide (((AM m n).map fun ps => catI (zeros m) (zeros n) ps).Nodup)) = true := by decide +kernel
theorem AM_dif {n m : Nat} (hn : n < 4) (hm : m < 5) : ((AM m n).map fun ps => catI (zeros m) (zeros n) ps).Nodup :=
  of_decide_eq_true (List.all_eq_true.mp (List.all_eq_true.mp AM_cat n (List.mem_range.mpr hn)) m (List.mem_range.mpr hm))
end Q


set_option Elab.async false
set_option linter.all false
set_option maxRecDepth 100000
set_option maxHeartbeats 2000000
set_option autoImplicit false
/-! Q71: mappings counted from either side. -/
namespace Q
open PySem PySem.Spec PyProof.Rows L2
def facN : Nat → Nat
  | 0 => 1
  | k + 1 => (k + 1) * facN k
theorem fal_fac (b : Nat) : ∀ k, fal b k = facN k * chs b k
  | 0 => by rw [chs_zero]; rfl
  | k + 1 => by
    show (b - k) * fal b k = (k + 1) * facN k * chs b (k + 1)
    rw [fal_fac b k, Nat.mul_right_comm, chs_step, Nat.mul_assoc, Nat.mul_comm (chs b k), Nat.mul_left_comm]
theorem mtc_comm (a b k : Nat) : mtc a b k = mtc b a k := by
  unfold mtc
  rw [fal_fac, fal_fac, Nat.mul_left_comm, Nat.mul_comm (chs a k), Nat.mul_left_comm (chs b k)]
theorem mtS_comm (a b : Nat) : ∀ k, mtS a b k = mtS b a k
  | 0 => rfl
  | k + 1 => by show mtS a b k + mtc a b k = mtS b a k + mtc b a k; rw [mtS_comm a b k, mtc_comm]
theorem wm_comm (a b : Nat) : wm a b = wm b a := by
  rw [← mtS_min a b, ← mtS_min b a, mtS_comm, Nat.min_comm]
end Q


set_option Elab.async false
set_option linter.all false
set_option maxRecDepth 100000
set_option maxHeartbeats 2000000
set_option autoImplicit false
/-! Q72: texts: join, split, int(text), a sign in a text, signs walked, a sign of a text, f-strings; a if c else b with new objects. -/
namespace Q
open PySem PySem.Spec PyProof.Rows L2
section
variable {K : Fg} {k : D → Prop} {kn : Rv → Prop}
/-! ### join, split -/
def fJoin (e : D) (as : List D) (k : Rv → Prop) : Prop := ∃ (a : Str) (ys : List Str), e = .str a ∧ (as = [.lst (ys.map .str)] ∨ as = [.tup (ys.map .str)]) ∧ (ys.map (·.length)).sum + ys.length * a.length ≤ 16777216 ∧ k (.sh (.str (Txt.join a ys)))
abbrev rJoin (K : Fg) : V → List V → Hp → VK → Prop := fun x xs H Q => ∃ a p, ∃ ys : List Str, x = .str a ∧ xs = [.ref p] ∧ (SqL K H p (ys.map V.str) ∨ SqT K H p (ys.map V.str)) ∧ (ys.map (·.length)).sum + ys.length * a.length ≤ 16777216 ∧ Q (.str (Txt.join a ys)) H
theorem m_join : RdM K (rJoin K) fJoin := by
  intro S H v d vs ds k Q s a as hf hk
  obtain ⟨x, ys, rfl, h1, h2, h3⟩ := hf
  cases a
  rcases h1 with rfl | rfl
  · obtain ⟨w, rfl, a2⟩ := ats1 as
    cases a2 with
    | lst h r => exact ⟨_, _, ys, rfl, rfl, .inl (by rw [← r.strs]; exact SqL.of h), h2, hk.old _ _ (.str _) h3⟩
  · obtain ⟨w, rfl, a2⟩ := ats1 as
    cases a2 with
    | tup h r => exact ⟨_, _, ys, rfl, rfl, .inr (by rw [← r.strs]; exact h), h2, hk.old _ _ (.str _) h3⟩
theorem f_join {a : Str} {ys : List Str} : fJoin (.str a) [.lst (ys.map .str)] kn = ((ys.map (·.length)).sum + ys.length * a.length ≤ 16777216 ∧ kn (.sh (.str (Txt.join a ys)))) := propext ⟨fun ⟨b, zs, h, h2, q⟩ => (by
  cases h
  rcases h2 with h2 | h2
  · have e := strs_inj2 (D.lst.inj (List.cons.inj h2).1)
    subst e; exact q
  · cases (List.cons.inj h2).1), fun q => ⟨a, ys, rfl, .inl rfl, q⟩⟩
def fSplit (e : D) (as : List D) (k : Rv → Prop) : Prop := ∃ (a b : Str), e = .str a ∧ as = [.str b] ∧ (b.length == 0) = false ∧ a.length ≤ 9000000 ∧ k (.own (.lst ((Txt.split a b).map .str)))
abbrev rSplit : V → List V → Hp → VK → Prop := fun x xs H Q => ∃ a b, x = .str a ∧ xs = [.str b] ∧ (b.length == 0) = false ∧ a.length + 2 ≤ sizeLine ∧ rNewStrs (Txt.split a b) H Q
theorem Reps.of_strs {S : Hp} : ∀ (ns : List Str), Reps K S (ns.map V.str) (ns.map D.str)
  | [] => .nil
  | n :: ns => .cons (.str n) (Reps.of_strs ns)
theorem m_split : RdM K rSplit fSplit := by
  intro S H v d vs ds k Q s a as hf hk
  obtain ⟨x, y, rfl, rfl, h1, h2, h3⟩ := hf
  cases a
  obtain ⟨w, rfl, a2⟩ := ats1 as
  cases a2
  exact ⟨_, _, rfl, rfl, h1, size_of (by omega), fun p hp => hk.new p _ _ hp (.lst upd_same (Reps.of_strs _)) h3⟩
theorem f_split {a b : Str} : fSplit (.str a) [.str b] kn = ((b.length == 0) = false ∧ a.length ≤ 9000000 ∧ kn (.own (.lst ((Txt.split a b).map .str)))) := propext ⟨fun ⟨a', b', h, h2, q⟩ => (by cases h; cases h2; exact q), fun q => ⟨a, b, rfl, rfl, q⟩⟩
/-! ### int(text) -/
def fIntS : List D → (D → Prop) → Prop
  | [.str a], k => ∃ n, PySem.intText? a = some n ∧ a.length ≤ 640 ∧ k (.int n)
  | _, _ => False
abbrev rIntS : List V → Hp → VK → Prop := fun xs H Q => ∃ a n, xs = [.str a] ∧ PySem.intText? a = some n ∧ a.length ≤ 640 ∧ Q (.int n) H
theorem c_intS : Cl K rIntS fIntS := by
  intro S H vs ds k Q s a hf hk
  unfold fIntS at hf
  split at hf
  · obtain ⟨n, h1, h2, h3⟩ := hf
    obtain ⟨v, rfl, a1⟩ := ats1 a
    cases a1
    exact ⟨_, n, rfl, h1, h2, hk _ _ (.int _) h3⟩
  · exact hf.elim
theorem f_intS {a : Str} : fIntS [.str a] k = ∃ n, PySem.intText? a = some n ∧ a.length ≤ 640 ∧ k (.int n) := rfl
/-! ### a sign in a text -/
def sgn (c : Nat) : Str := ⟨#[c]⟩
def fInSign : D → D → (D → Prop) → Prop
  | .str x, .str z, k => ∃ c, x = sgn c ∧ k (.bl (decide (c ∈ z.cps.toList)))
  | _, _, _ => False
def fNotInSign : D → D → (D → Prop) → Prop
  | .str x, .str z, k => ∃ c, x = sgn c ∧ k (.bl (!decide (c ∈ z.cps.toList)))
  | _, _, _ => False
theorem o_inSign : Op2 K (fun x y H Q => ∃ (c : Nat) (z : Str), x = .str ⟨#[c]⟩ ∧ y = .str z ∧ Q (.bl (decide (c ∈ z.cps.toList))) H) fInSign := by
  intro S H v u d e k Q s a b hf hk
  unfold fInSign at hf
  split at hf
  · obtain ⟨c, rfl, h⟩ := hf
    cases a; cases b
    exact ⟨c, _, rfl, rfl, hk _ _ (.bl _) h⟩
  · exact hf.elim
theorem o_notInSign : Op2 K (fun x y H Q => ∃ (c : Nat) (z : Str), x = .str ⟨#[c]⟩ ∧ y = .str z ∧ Q (.bl (!decide (c ∈ z.cps.toList))) H) fNotInSign := by
  intro S H v u d e k Q s a b hf hk
  unfold fNotInSign at hf
  split at hf
  · obtain ⟨c, rfl, h⟩ := hf
    cases a; cases b
    exact ⟨c, _, rfl, rfl, hk _ _ (.bl _) h⟩
  · exact hf.elim
theorem sgn_inj {a b : Nat} (h : sgn a = sgn b) : a = b := by
  have h2 : (sgn a).cps = (sgn b).cps := congrArg Str.cps h
  have h3 : (#[a] : Array Nat) = #[b] := h2
  simpa using h3
theorem f_inSign {c : Nat} {z : Str} : fInSign (.str (sgn c)) (.str z) k = k (.bl (decide (c ∈ z.cps.toList))) := propext ⟨fun ⟨c', h, q⟩ => (by rw [← sgn_inj h] at q; exact q), fun q => ⟨c, rfl, q⟩⟩
theorem f_notInSign {c : Nat} {z : Str} : fNotInSign (.str (sgn c)) (.str z) k = k (.bl (!decide (c ∈ z.cps.toList))) := propext ⟨fun ⟨c', h, q⟩ => (by rw [← sgn_inj h] at q; exact q), fun q => ⟨c, rfl, q⟩⟩
/-! ### the sign at a place -/
abbrev rItS : R2 := fun x y H Q => ∃ z i c, x = .str z ∧ y = .int i ∧ 0 ≤ i ∧ i < 2 ^ 63 ∧ i < z.length ∧ z.cps[i.toNat]? = some c ∧ Q (.str ⟨#[c]⟩) H
def fItS : D → D → (D → Prop) → Prop
  | .str z, .int i, k => 0 ≤ i ∧ i < 2 ^ 63 ∧ i < z.length ∧ ∃ c, z.cps[i.toNat]? = some c ∧ k (.str (sgn c))
  | _, _, _ => False
theorem o_itS : Op2 K rItS fItS := by
  intro S H v u d e k Q s a b hf hk
  unfold fItS at hf
  split at hf
  · obtain ⟨h1, h2, h3, c, h4, h5⟩ := hf
    cases a; cases b
    exact ⟨_, _, c, rfl, rfl, h1, h2, h3, h4, hk _ _ (.str _) h5⟩
  · exact hf.elim
theorem f_itS {z : Str} {i : Int} : fItS (.str z) (.int i) k = (0 ≤ i ∧ i < 2 ^ 63 ∧ i < z.length ∧ ∃ c, z.cps[i.toNat]? = some c ∧ k (.str (sgn c))) := rfl
end
section
variable {c : Cg} {X : Cx} {g : Gd} {W : WX} {tg iter e a b : Expr} {es : List Expr} {t ta tb te : TE} {tl : TA} {q qa qb qe : TEq} {ql : TAq} {tt : TT} {qt : TTq} {na nb : TNq} {pos p2 : Pos}
theorem q_itS (ha : QE X g W a ta qa) (hb : QE X g W b tb qb) (hs : PlainIxT b) : QE X g W (.Subscript a b pos) (tOp rItS ta tb) (qOp fItS qa qb) :=
  ⟨pe_item_str ha.pe hb.pe hs, fun N => sm_op o_itS (ha.sm N) (hb.sm N)⟩
/-! ### signs walked -/
def signs (x : Str) : List D := x.cps.toList.map fun c => .str (sgn c)
theorem signs_length (x : Str) : (signs x).length = x.length := by simp [signs, Str.length]
theorem walks_str {K : Fg} {F S : Hp} (x : Str) : Walks K F S (Its x) (signs x) := by
  intro i S1 H1 _ _ _
  refine ⟨fun d hd => ?_, fun hl => by rw [signs_length] at hl; exact hl⟩
  unfold signs at hd
  rw [List.getElem?_map] at hd
  cases e : x.cps.toList[i]? with
  | none => rw [e] at hd; cases hd
  | some cc =>
    rw [e] at hd
    cases hd
    have e2 : x.cps[i]? = some cc := by rw [← Array.getElem?_toList]; exact e
    refine ⟨(Array.getElem?_eq_some_iff.mp e2).1, fun v H2 y => .inl ⟨y.1, ?_⟩⟩
    obtain ⟨c2, e3, rfl⟩ := y.2
    rw [e2] at e3
    cases e3
    exact .str _
def dS (f : Str → Prop) : D → Prop
  | .str c => f c
  | _ => False
theorem e_dS {f : Str → Prop} {x : Str} : dS f (.str x) = f x := rfl
def qStrI (q : TEq) : TIq := fun env k x => q env (fun y env1 => ∃ d, res env1 y = some d ∧ dS (fun z => k (signs z) env1) d) x
theorem qi_str (h : QE X g W iter te qe) : QI X g W tg iter (iStr te) (qStrI qe) := ⟨pi_str h.pe, fun N F P S b σ H env k x R Rl hq hx hk => by
  refine h.sm N F P S b σ H env _ x _ Rl hq hx fun S1 H1 env1 v y R1 e1 r1 h1 => ?_
  obtain ⟨d, hd, h2⟩ := h1
  cases d with
  | str z =>
    have e := (R1.read r1 hd).scal (w := .str z) rfl
    exact ⟨z, e, hk S1 H1 env1 _ _ R1 e1 (walks_str z) h2⟩
  | _ => exact h2.elim⟩
theorem e_strI {env : En} {ki : List D → En → Prop} {x : XQ} : qStrI q env ki x = q env (fun y env1 => rd env1 y (dS fun z => ki (signs z) env1)) x := rfl
/-! ### a if c else b where an object may be new -/
def qIfN (qt : TTq) (qa qb : TNq) : TNq := fun env k x => qt env (fun c env1 => if c = true then qa env1 k x else qb env1 k x) x
theorem sm_ifN (hc : SmT c W tt qt) (ha : SmN c W ta na) (hb : SmN c W tb nb) : SmN c W (tIf tt ta tb) (qIfN qt na nb) := by
  intro F P S b σ H env k x Q R hq hx hk
  refine hc F P S b σ H env _ x _ R hq hx fun S1 H1 env1 y R1 e1 h1 => ?_
  cases y with
  | true =>
    rw [if_pos rfl] at h1 ⊢
    exact ha F P S1 b σ H1 env1 _ x _ R1 h1 (hx.mono e1) fun S2 H2 env2 v z R2 e2 r n h2 => hk S2 H2 env2 v z R2 (e1.trans e2) r n h2
  | false =>
    rw [if_neg Bool.false_ne_true] at h1 ⊢
    exact hb F P S1 b σ H1 env1 _ x _ R1 h1 (hx.mono e1) fun S2 H2 env2 v z R2 e2 r n h2 => hk S2 H2 env2 v z R2 (e1.trans e2) r n h2
theorem qn_ifExp {cd : Expr} (hc : QT X g W cd tt qt) (ha : QN X g W a ta na) (hb : QN X g W b tb nb) : QN X g W (.IfExp cd a b pos) (tIf tt ta tb) (qIfN qt na nb) := ⟨pe_ifExp hc.pt ha.pe hb.pe, fun N => sm_ifN (hc.sm N) (ha.sm N) (hb.sm N)⟩
theorem e_ifN {env : En} {kn : Rv → En → Prop} {x : XQ} : qIfN qt na nb env kn x = qt env (fun c env1 => cIf c (hold (fun _ => na env1 kn x) .mk) (hold (fun _ => nb env1 kn x) .mk)) x := rfl
/-! ### f-strings -/
def fFmt (k : Str → Prop) : D → Prop
  | .str y => y.length ≤ 10000000 ∧ k y
  | .int i => i.natAbs.log2 < 1920 ∧ k (toString i)
  | _ => False
theorem e_fmtS {k : Str → Prop} {y : Str} : fFmt k (.str y) = (y.length ≤ 10000000 ∧ k y) := rfl
theorem e_fmtI {k : Str → Prop} {i : Int} : fFmt k (.int i) = (i.natAbs.log2 < 1920 ∧ k (toString i)) := rfl
def qFmt (q : TEq) : TEq := fun env k x => q env (fun y env1 => ∃ d, res env1 y = some d ∧ fFmt (fun z => k (.d (.str z)) env1) d) x
theorem q_fmt (h : QE X g W e t q) : QE X g W (.FormattedValue e (-1) none pos) (tFmt t) (qFmt q) := ⟨pe_fmt h.pe, fun N F P S b σ H env k x Q R hq hx hk => by
  refine h.sm N F P S b σ H env _ x _ R hq hx fun S1 H1 env1 v y R1 e1 r1 h1 => ?_
  obtain ⟨d, hd, h2⟩ := h1
  have a := R1.read r1 hd
  cases d with
  | str z =>
    have e := a.scal (w := .str z) rfl
    exact .inl ⟨z, e, size_of h2.1, hk S1 H1 env1 _ (.d (.str _)) R1 e1 (Rep.str _) h2.2⟩
  | int z =>
    have e := a.scal (w := .int z) rfl
    exact .inr ⟨z, e, h2.1, hk S1 H1 env1 _ (.d (.str _)) R1 e1 (Rep.str _) h2.2⟩
  | _ => exact h2.elim⟩
theorem e_fmt {env : En} {k : Va → En → Prop} {x : XQ} : qFmt q env k x = q env (fun y env1 => rd env1 y (fFmt (hold (fun z => k (.d (.str z)) env1) .mk))) x := rfl
/-- the parts -/
inductive QJ (X : Cx) (g : Gd) (W : WX) : List Expr → List TE → List TEq → Prop where
  | nil : QJ X g W [] [] []
  | cons {e : Expr} {t : TE} {q : TEq} {es : List Expr} {ts : List TE} {qs : List TEq} (h : QE X g W e t q) (r : QJ X g W es ts qs) : QJ X g W (e :: es) (t :: ts) (q :: qs)
theorem QJ.pj : ∀ {es : List Expr} {ts : List TE} {qs : List TEq}, QJ X g W es ts qs → PJ X es ts
  | _, _, _, .nil => .nil
  | _, _, _, .cons h r => .cons h.pe r.pj
def qJs : List TEq → Str → En → (Str → En → Prop) → XQ → Prop
  | [], acc, env, k, _ => k acc env
  | q :: qs, acc, env, k, x => q env (fun y env1 => ∃ d, res env1 y = some d ∧ dS (fun z => (acc ++ z).length ≤ 10000000 ∧ qJs qs (acc ++ z) env1 k x) d) x
theorem sm_js {N : Nat} : ∀ {es : List Expr} {ts : List TE} {qs : List TEq}, QJ X g W es ts qs → ∀ (acc : Str) (F P S : Hp) (b : Option Addr) (σ : L2.St) (H : Hp) (env : En) (k : Str → En → Prop) (x : XQ) (Q : Str → Hp → Prop), Rel (cg X g N) F P S b σ H env → qJs qs acc env k x → XOk (cg X g N) F P b W S x →
    (∀ (S' H' : Hp) (env' : En) (z : Str), Rel (cg X g N) F P S' b σ H' env' → Ext P S S' → k z env' → Q z H') → tJs ts acc σ H Q
  | _, _, _, .nil, acc, F, P, S, b, σ, H, env, k, x, Q, R, hq, hx, hk => hk S H env acc R Ext.refl hq
  | _, _, _, .cons h r, acc, F, P, S, b, σ, H, env, k, x, Q, R, hq, hx, hk => by
    refine h.sm N F P S b σ H env _ x _ R hq hx fun S1 H1 env1 v y R1 e1 r1 h1 => ?_
    obtain ⟨d, hd, h2⟩ := h1
    have a := R1.read r1 hd
    cases d with
    | str z =>
      have e := a.scal (w := .str z) rfl
      exact ⟨z, e, size_of h2.1, sm_js r _ F P S1 b σ H1 env1 k x Q R1 h2.2 (hx.mono e1) fun S2 H2 env2 w R2 e2 hw => hk S2 H2 env2 w R2 (e1.trans e2) hw⟩
    | _ => exact h2.elim
def qFS (qs : List TEq) : TEq := fun env k x => qJs qs Str.empty env (fun z env1 => k (.d (.str z)) env1) x
theorem q_fstr {v1 v2 : Expr} {rest : List Expr} {ts : List TE} {qs : List TEq} (h : QJ X g W (v1 :: v2 :: rest) ts qs) : QE X g W (.JoinedStr (v1 :: v2 :: rest) pos) (fun σ H Q => tJs ts Str.empty σ H fun out H1 => Q (.str out) H1) (qFS qs) :=
  ⟨pe_joined h.pj, fun N F P S b σ H env k x Q R hq hx hk => sm_js h _ F P S b σ H env _ x _ R hq hx fun S1 H1 env1 z R1 e1 h1 => hk S1 H1 env1 _ (.d (.str _)) R1 e1 (Rep.str _) h1⟩
theorem e_fs {qs : List TEq} {env : En} {k : Va → En → Prop} {x : XQ} : qFS qs env k x = qJs qs Str.empty env (hold (fun z env1 => k (.d (.str z)) env1) .mk) x := rfl
theorem e_js0 {acc : Str} {env : En} {k : Str → En → Prop} {x : XQ} : qJs [] acc env k x = k acc env := rfl
theorem e_js1 {q : TEq} {qs : List TEq} {acc : Str} {env : En} {k : Str → En → Prop} {x : XQ} : qJs (q :: qs) acc env k x = q env (fun y env1 => rd env1 y (dS fun z => (acc ++ z).length ≤ 10000000 ∧ qJs qs (acc ++ z) env1 k x)) x := rfl
end
end Q


set_option Elab.async false
set_option linter.all false
set_option maxRecDepth 100000
set_option maxHeartbeats 2000000
set_option autoImplicit false
/-! Q73: numbers written, joined and read back; a statement that is never reached. -/
namespace Q
open PySem PySem.Spec PyProof.Rows L2
theorem e_never {DQ : Ens} {env : En} : qNever DQ env = False := rfl
/-! ### numbers -/
def numT (n : Nat) : Str := Str.ofString (toString ((n : Nat) : Int))
theorem numT_of (i : Int) (h : 0 ≤ i) : Str.ofString (toString i) = numT i.toNat := by
  unfold numT
  rw [Int.toNat_of_nonneg h]
theorem tl_numT (n : Nat) : TL.tl (numT n) = TL.numL n := TL.tl_num n
theorem numT_len {n k : Nat} (hk : 0 < k) (h : n < 10 ^ k) : (numT n).length ≤ k := by
  rw [TL.len_tl, tl_numT]; exact TL.numL_len hk h
theorem numT_int {n : Nat} (h : (numT n).length ≤ 640) : PySem.intText? (numT n) = some (n : Int) := TL.int_num (by rw [← tl_numT, ← TL.len_tl]; omega)
theorem numT_ne (n : Nat) : TL.tl (numT n) ≠ [] := by rw [tl_numT]; exact TL.numL_ne n
theorem numT_pos (n : Nat) : 0 < (numT n).length := by
  rw [TL.len_tl]; exact List.length_pos_iff.mpr (numT_ne n)
theorem numT_free {n s : Nat} (h : s < 48 ∨ 57 < s) : s ∉ TL.tl (numT n) := by rw [tl_numT]; exact TL.numL_free h
theorem numT_dig {n c : Nat} (h : c ∈ (numT n).cps.toList) : 48 ≤ c ∧ c ≤ 57 := by
  have h : c ∈ TL.tl (numT n) := h
  by_cases z : c < 48 ∨ 57 < c
  · exact absurd h (numT_free z)
  · omega
theorem numL_head : ∀ n : Nat, n ≠ 0 → ∃ c r, TL.numL n = c :: r ∧ c ≠ 48 := by
  intro n
  induction n using Nat.strongRecOn with
  | ind n ih =>
    intro h
    by_cases h1 : n < 10
    · exact ⟨48 + n, [], TL.numL_lt h1, by omega⟩
    · obtain ⟨c, r, e, hc⟩ := ih (n / 10) (by omega) (by omega)
      exact ⟨c, r ++ [48 + n % 10], by rw [TL.numL_step (by omega), e]; rfl, hc⟩
theorem numT_inj {m n : Nat} (h : numT m = numT n) : m = n := TL.numL_inj (by rw [← tl_numT, ← tl_numT, h])
theorem numT_zero : numT 0 = Str.ofString "0" := TL.ext_tl (by rw [tl_numT, TL.numL_lt (by omega), TL.tl_ofString]; rfl)
/-- the text 0, or the first sign is no 0 -/
theorem numT_lead (n : Nat) : numT n = Str.ofString "0" ∨ ∃ c, (numT n).cps[0]? = some c ∧ sgn c ≠ Str.ofString "0" := by
  by_cases h : n = 0
  · subst h; exact .inl numT_zero
  · obtain ⟨c, r, e, hc⟩ := numL_head n h
    refine .inr ⟨c, ?_, fun z => hc ?_⟩
    · rw [← Array.getElem?_toList]
      show (TL.tl (numT n))[0]? = _
      rw [tl_numT, e]; rfl
    · have z2 := congrArg TL.tl z
      rw [TL.tl_ofString] at z2
      have z3 : ([c] : List Nat) = [48] := z2
      simpa using z3
def digitsT : Str := Str.ofString "0123456789"
theorem dig_in {c : Nat} (h1 : 48 ≤ c) (h2 : c ≤ 57) : c ∈ (Str.ofString "0123456789").cps.toList := by
  have e : (Str.ofString "0123456789").cps.toList = [48, 49, 50, 51, 52, 53, 54, 55, 56, 57] := TL.tl_ofString _
  rw [e]
  simp only [List.mem_cons, List.not_mem_nil, or_false]
  omega
theorem in_dig {c : Nat} (h : c ∈ (Str.ofString "0123456789").cps.toList) : 48 ≤ c ∧ c ≤ 57 := by
  have e : (Str.ofString "0123456789").cps.toList = [48, 49, 50, 51, 52, 53, 54, 55, 56, 57] := TL.tl_ofString _
  rw [e] at h
  simp only [List.mem_cons, List.not_mem_nil, or_false] at h
  omega
/-- a word that is a written number -/
def isNum (w : Str) : Bool := !decide (w = Str.ofString "") && (((TL.tl w).all fun c => decide (c ∈ (Str.ofString "0123456789").cps.toList)) && (decide (w = Str.ofString "0") || !decide (sgn ((TL.tl w).headD 0) = Str.ofString "0")))
theorem isNum_num (n : Nat) : isNum (numT n) = true := by
  unfold isNum
  rw [decide_eq_false (fun e => numT_ne n (by rw [e, TL.tl_ofString]; rfl)), List.all_eq_true.mpr fun c hc => decide_eq_true (dig_in (numT_dig hc).1 (numT_dig hc).2)]
  rcases numT_lead n with e | ⟨c, hc, hd⟩
  · rw [decide_eq_true e]; rfl
  · have e2 : (TL.tl (numT n)).headD 0 = c := by
      rw [← Array.getElem?_toList] at hc
      have hc : (TL.tl (numT n))[0]? = some c := hc
      cases q : TL.tl (numT n) with
      | nil => rw [q] at hc; cases hc
      | cons a r => rw [q] at hc; simpa using hc
    rw [e2, decide_eq_false hd]
    simp
def numV (w : Str) : Int := (NumText.digitsVal (TL.tl w) : Nat)
theorem numV_num (n : Nat) : numV (numT n) = n := by
  unfold numV
  rw [tl_numT, TL.numL_val]
theorem isNum_int {w : Str} (h : isNum w = true) (hl : w.length ≤ 640) : PySem.intText? w = some (numV w) := by
  unfold isNum at h
  simp only [Bool.and_eq_true, Bool.not_eq_true', decide_eq_false_iff_not, List.all_eq_true, decide_eq_true_eq] at h
  obtain ⟨h1, h2, _⟩ := h
  have ne : TL.tl w ≠ [] := fun e => h1 (TL.ext_tl (by rw [e, TL.tl_ofString]; rfl))
  exact PySem.intText_digits (x := w) (fun c hc => (in_dig (h2 c hc))) ne (by omega)
/-- the place of the first word that is no number -/
def badI (ws : List Str) : D := match ws.findIdx? (fun w => !isNum w) with
  | none => .non
  | some i => .int (i : Nat)
theorem badI_none {ws : List Str} (h : ∀ w ∈ ws, isNum w = true) : badI ws = .non := by
  unfold badI
  rw [List.findIdx?_eq_none_iff.mpr fun w hw => by rw [h w hw]; rfl]
theorem badI_some {ws : List Str} (h : ws.all isNum = false) : isNon (badI ws) = false := by
  unfold badI
  cases e : ws.findIdx? (fun w => !isNum w) with
  | none =>
    rw [List.findIdx?_eq_none_iff] at e
    rw [List.all_eq_true.mpr fun w hw => by simpa using e w hw] at h
    cases h
  | some i => rfl
theorem log_small {i : Int} (h0 : 0 ≤ i) (h1 : i < 2 ^ 200) : i.natAbs.log2 < 1920 := by
  by_cases e : i = 0
  · subst e; decide
  · have : i.natAbs.log2 < 200 := (Nat.log2_lt (by omega)).mpr (by omega)
    omega
theorem isDist_bd {d : D} (h : isDist d = true) : ∀ i ∈ nums d, 0 ≤ i ∧ i < 400 := by
  intro i hi
  obtain ⟨e1, e2⟩ := isDist_items h
  have e3 := isDist_okE h
  obtain ⟨n, hn, rfl⟩ := List.mem_iff_getElem.mp hi
  obtain ⟨j, hj, h0, h4⟩ := okE_get e3 (n := n) (e := .int (nums d)[n]) (by rw [e1, List.getElem?_map, List.getElem?_eq_getElem hn]; rfl)
  cases hj
  omega
/-! ### joined -/
theorem joinL_len (S : List Nat) : ∀ l : List (List Nat), (TL.joinL S l).length ≤ (l.map List.length).sum + l.length * S.length
  | [] => by simp [TL.joinL]
  | [p] => by simp [TL.joinL]
  | p :: q :: r => by
    have h := joinL_len S (q :: r)
    show (p ++ (S ++ TL.joinL S (q :: r))).length ≤ _
    rw [List.length_append, List.length_append, List.map_cons, List.sum_cons, List.length_cons (as := q :: r), Nat.succ_mul]
    omega
theorem join_len (a : Str) (ys : List Str) : (Txt.join a ys).length ≤ (ys.map (·.length)).sum + ys.length * a.length := by
  rw [TL.len_tl, TL.join_eq, TL.tl_join]
  refine Nat.le_trans (joinL_len _ _) ?_
  rw [List.map_map, List.length_map, ← TL.len_tl]
  refine Nat.le_of_eq ?_
  first | done | (congr 2; done) | (congr 2; exact List.map_congr_left fun x _ => (TL.len_tl x).symm)
theorem sum_le {ys : List Str} {m : Nat} (h : ∀ y ∈ ys, y.length ≤ m) : (ys.map (·.length)).sum ≤ ys.length * m := by
  induction ys with
  | nil => simp
  | cons y ys ih =>
    rw [List.map_cons, List.sum_cons, List.length_cons, Nat.succ_mul]
    have := h y List.mem_cons_self
    have := ih fun z hz => h z (List.mem_cons_of_mem _ hz)
    omega
def spT : Str := Str.ofString " "
theorem tl_sp : TL.tl (Str.ofString " ") = [32] := TL.tl_ofString _
theorem len_sp : (Str.ofString " ").length = 1 := by rw [TL.len_tl, tl_sp]; rfl
theorem split_sp {ys : List Str} (h : ys ≠ []) (hp : ∀ y ∈ ys, 32 ∉ TL.tl y) : Txt.split (Txt.join (Str.ofString " ") ys) (Str.ofString " ") = ys := TL.split_join tl_sp (by decide +kernel) h hp
theorem split_none : Txt.split (Str.ofString "none") (Str.ofString " ") = [Str.ofString "none"] := by
  have := split_sp (ys := [Str.ofString "none"]) (by simp) (fun y hy => by rw [List.mem_singleton] at hy; rw [hy, TL.tl_ofString]; decide)
  have j1 : Txt.join (Str.ofString " ") [Str.ofString "none"] = Str.ofString "none" := TL.ext_tl (by rw [TL.join_eq, TL.tl_join]; rfl)
  rw [j1] at this; exact this
/-- a list of numbers, written -/
def listT (ns : List Int) : Str := if ns = [] then Str.ofString "none" else Txt.join (Str.ofString " ") (ns.map fun i => numT i.toNat)
theorem split_listT {ns : List Int} (h : ns ≠ []) : Txt.split (listT ns) (Str.ofString " ") = ns.map fun i => numT i.toNat := by
  unfold listT
  rw [if_neg h]
  refine split_sp (by simpa using h) fun y hy => ?_
  obtain ⟨i, _, rfl⟩ := List.mem_map.mp hy
  exact numT_free (by omega)
theorem listT_len {ns : List Int} {k : Nat} (hk : 0 < k) (h : ∀ i ∈ ns, i < 10 ^ k) : (listT ns).length ≤ ns.length * (k + 1) + 4 := by
  unfold listT
  by_cases e : ns = []
  · rw [if_pos e]
    have : (Str.ofString "none").length = 4 := by rw [TL.len_tl, TL.tl_ofString]; rfl
    omega
  · rw [if_neg e]
    have h1 := join_len (Str.ofString " ") (ns.map fun i => numT i.toNat)
    have h2 := sum_le (ys := ns.map fun i => numT i.toNat) (m := k) fun y hy => by
      obtain ⟨i, hi, rfl⟩ := List.mem_map.mp hy
      have := h i hi
      refine numT_len hk ?_
      rcases Int.lt_or_le i 0 with z | z
      · rw [Int.toNat_of_nonpos (by omega)]; exact Nat.pow_pos (by omega)
      · have h3 : (i.toNat : Int) < ((10 ^ k : Nat) : Int) := by rw [Int.toNat_of_nonneg z]; exact_mod_cast this
        exact_mod_cast h3
    rw [List.length_map] at h1 h2
    rw [len_sp] at h1
    rw [Nat.mul_add]
    omega
theorem listT_ne {ns : List Int} (h : ns ≠ []) : listT ns ≠ Str.ofString "none" := by
  intro e
  have e2 := split_listT h
  rw [e] at e2
  rw [split_none] at e2
  cases ns with
  | nil => exact h rfl
  | cons i r =>
    have e4 := (List.cons.inj e2).1
    have : (110 : Nat) ∈ (numT i.toNat).cps.toList := by
      have e5 : numT i.toNat = Str.ofString "none" := e4.symm
      rw [e5]
      show 110 ∈ TL.tl (Str.ofString "none")
      rw [TL.tl_ofString]; decide
    have := numT_dig this
    omega
end Q


set_option Elab.async false
set_option linter.all false
set_option maxRecDepth 100000
set_option maxHeartbeats 4000000

namespace Lw
open PySem PySem.Spec PyProof.Rows L2 Q
local macro_rules | `(tactic| walk_at "p") => `(tactic| (repeat (rw [pkV]; try walk_at "q")))
local macro_rules | `(tactic| walk_at "len") => `(tactic| (first | omega | (simp only [List.length_map, List.length_append, List.length_reverse, List.length_take, List.length_drop, List.length_dropLast, List.length_cons, List.length_nil, List.length_set, List.length_replicate, dist_length, nxt_length, idsD_length, numbered_length, ranged_length, upto_length]; omega)))
local macro_rules | `(tactic| walk_at "q") => `(tactic| (try simp only [↓hold1, ↓hold2, ↓cIf_t, ↓cIf_f, ↓lk0, ↓lk1, ↓st0, ↓st1, ↓wp0, ↓wp1, ↓wpm, ↓wpn, ↓sD_sh, ↓sD_own, ↓sD_bor, ↓rd_d, ↓rd_p, ↓dB_b, ↓dI_i, ↓dX_x, ↓dK_i, ↓dK_s, ↓dL_l, ↓dIt_l, ↓dIt_t, ↓dIt_s, ↓shS_sh, ↓shS_own, ↓shS_bor, ↓sh1_d, ↓sh1_p, ↓shs0, ↓shs1, ↓ress0, ↓ress1, ↓bagS_b, ↓arg_bor, ↓arg_sh, ↓arg_bag, ↓args0, ↓args1, ↓ap0, ↓ap0', ↓ap1, ↓reS_sh, ↓reS_own, ↓reS_bor, ↓ret_d, ↓ret_p, ↓asS_sh, ↓asS_own, ↓asS_bor, ↓as_d, ↓as_p, ↓rv_sh, ↓rv_own, ↓da_sh, ↓da_own, ↓itS_sh, ↓itS_own, ↓itS_bor, ↓it_d, ↓it_p, ↓e_var, ↓e_sh, ↓e_own, ↓e_bor, ↓e_bag, ↓e_c, ↓e_op, ↓e_opN, ↓e_opR, ↓e_test, ↓e_and, ↓e_or, ↓e_not, ↓e_andV, ↓e_orV, ↓e_notV, ↓e_ifE, ↓e_un, ↓e_nil, ↓e_cons, ↓e_cb, ↓e_cbN, ↓e_cbR, ↓e_ofN, ↓e_lst, ↓e_tup, ↓e_call, ↓e_callS, ↓e_next, ↓e_seq, ↓e_brk, ↓e_ct, ↓e_drop, ↓e_ret, ↓e_retN, ↓e_ret0, ↓e_if, ↓e_set, ↓e_setN, ↓e_aug, ↓e_raise, ↓e_name, ↓e_gnil, ↓e_gcons, ↓e_gtup, ↓e_for, ↓e_seqI, ↓e_enum, ↓rg1_i, ↓rg2_i, ↓e_rng1, ↓e_rng2, ↓e_lc, ↓e_yes, ↓e_onone, ↓e_osome, ↓e_sl, ↓e_isi, ↓e_isi2, ↓ownL_l, ↓ownA_l, ↓sO_o, ↓e_meth, ↓e_meth0, ↓e_dnew, ↓e_dget, ↓e_din, ↓e_dput, ↓e_lput, ↓e_lenSet, ↓e_chain, ↓e_par, ↓e_asgT, ↓e_rev, ↓e_lenD, ↓e_toN, ↓e_parN, ↓e_getD, ↓e_rdm, ↓ok_l, ↓ok_r, ↓ok_s, ↓f_inC, ↓f_notInC, ↓f_inI, ↓f_notInI, ↓f_inIT, ↓f_inS, ↓f_notInS, ↓f_count, ↓rvO_o, ↓pkC0, ↓pkC_sh, ↓pkC_own, ↓pkC_bor, ↓pkC_bag, ↓pkC_no, ↓e_box, ↓e_nsNil, ↓e_nsCons, ↓e_bTest, ↓allL0, ↓allL1, ↓e_bLoop, ↓f_ix0, ↓f_ix1, ↓f_ix2, ↓f_ix3, ↓f_ix4, ↓f_ixT0, ↓f_ixT1, ↓f_ixT2, ↓f_ixT3, ↓f_ixT4, ↓e_loopC, ↓e_loopN, ↓e_step, ↓e_exI, ↓e_toI, ↓e_LAll, ↓f_eqW1, ↓f_eqW2, ↓f_eqW3, ↓f_sLstS, ↓f_sLstB, ↓e_zip, ↓f_zipL, ↓f_dictP, ↓f_dictD, ↓f_sortI, ↓e_dct1, ↓f_eqNN, ↓e_sortSet, ↓f_dSeqL, ↓f_dSeqT, ↓e_lenSetS, ↓f_notScrL, ↓f_notScrT, ↓f_mulS, ↓f_eqSL, ↓f_neSL, ↓f_eqSNil, ↓f_neSNil, ↓f_neNN, ↓f_notInST, ↓f_notIn3, ↓e_dc, ↓e_lstRg1, ↓e_lstRg2, ↓f_isNo, ↓e_lcO, ↓f_dLTl, ↓f_dLTt, ↓e_tupSh, ↓e_callSD, ↓f_ltQI, ↓f_ltQL, ↓f_join, ↓f_split, ↓f_intS, ↓f_inSign, ↓f_notInSign, ↓f_itS, ↓e_dS, ↓e_strI, ↓e_ifN, ↓e_fmtS, ↓e_fmtI, ↓e_fmt, ↓e_fs, ↓e_js0, ↓e_js1, ↓e_never, ↓f_sub, ↓f_mod, ↓f_div, ↓f_divW, ↓f_pow, ↓f_lt, ↓f_le, ↓f_gt, ↓f_ge, ↓f_addI, ↓f_addS, ↓f_addL, ↓f_mulI, ↓f_mulL, ↓f_eqI, ↓f_neI, ↓f_eqS, ↓f_neS, ↓f_eqB, ↓f_neB, ↓f_isN, ↓f_isNotN, ↓f_lenL, ↓f_lenT, ↓f_lenR, ↓f_lenS, ↓f_min, ↓f_max, ↓f_abs, ↓f_intI, ↓f_intB, ↓f_strI, ↓f_listL, ↓f_listT, ↓f_listS, ↓f_tupL, ↓f_repr, ↓f_slL, ↓f_slR, ↓f_slT, ↓f_app, ↓f_pop, ↓f_popAt, ↓f_ext, ↓f_ins, ↓f_allM, ↓f_anyM, ↓f_sumM, ↓f_eqIL, ↓f_neIL, ↓f_eqIT, ↓f_neIT, ↓f_eqNil, ↓f_neNil, ↓f_neg, ↓f_clear, ty_int_n, ty_int_b, ty_int_i, ty_int_s, ty_int_l, ty_int_t, ty_int_r, ty_int_d, ty_bool_n, ty_bool_b, ty_bool_i, ty_bool_s, ty_bool_l, ty_bool_t, ty_bool_r, ty_bool_d, ty_str_n, ty_str_b, ty_str_i, ty_str_s, ty_str_l, ty_str_t, ty_str_r, ty_str_d, ty_list_n, ty_list_b, ty_list_i, ty_list_s, ty_list_l, ty_list_t, ty_list_r, ty_list_d, ty_tuple_n, ty_tuple_b, ty_tuple_i, ty_tuple_s, ty_tuple_l, ty_tuple_t, ty_tuple_r, ty_tuple_d, ty_dict_n, ty_dict_b, ty_dict_i, ty_dict_s, ty_dict_l, ty_dict_t, ty_dict_r, ty_dict_d, cIf_t, cIf_f, cIf_n, isSc_n, isSc_b, isSc_i, isSc_s, ex_some, Int.reduceLT, Int.reduceLE, Int.reduceGT, Int.reduceGE, Int.reduceEq, Int.reduceNe, Int.reduceAdd, Int.reduceSub, Int.reduceMul, Int.reduceNeg, Int.reduceToNat, Int.reducePow, Nat.reduceLT, Nat.reduceAdd, Nat.reduceSub, Nat.reduceLeDiff, Nat.reduceEqDiff, Nat.reduceMul, Int.cast_ofNat_Int, true_or, true_and, and_true, List.length_cons, List.length_nil, List.length_map, n_n, n_b, n_i, n_s, n_l, n_t, se_c, se_n, se_0, ar_b, ar_s, ar_g, Bool.or_true, Bool.true_or, Bool.or_false, Bool.false_or, Bool.and_true, Bool.true_and, Bool.and_false, Bool.false_and, Bool.not_true, Bool.not_false, Bool.not_not, decide_true, decide_false, int_app, filter_tt, eq_self, Option.map_some, Option.map_none, Option.isSome_some, Option.isSome_none, Bool.false_eq_true, if_false, if_true, Nat.zero_add, Int.zero_add, Int.add_zero, Int.sub_zero, List.map_nil, List.nil_append, List.append_nil, int_rev, int_take, int_drop, int_dropLast, int_appL, e_toI]))

def top (i : Nat) : Stmt := PySem.Challenge.pw_howfarback_k54_distance_texts.main.body.getD i (.Pass ⟨0, 0, 0, 0⟩)
abbrev s_is_integer : Stmt := top 6
abbrev s_is_sequence : Stmt := top 7
abbrev s_is_distances : Stmt := top 8
abbrev s_is_number : Stmt := top 12
abbrev s_list_text : Stmt := top 13
abbrev s_format_distances : Stmt := top 14
abbrev s_first_bad_word : Stmt := top 15
abbrev s_parsed_list : Stmt := top 16
abbrev s_parse_distances : Stmt := top 17
abbrev s__law_spring : Stmt := top 19
abbrev s__law_draw : Stmt := top 20
abbrev s__law_same : Stmt := top 21
abbrev s__law_symbols : Stmt := top 22
abbrev s__law_distances : Stmt := top 23
abbrev s__law_dressed : Stmt := top 24
abbrev s__law_text : Stmt := top 25
abbrev s_law : Stmt := top 26
abbrev FnP (K : Fg) (x : Str) (st : Stmt) (dvs : List V) : Prop := ∃ fd, FunD K x x (defArgs st) (defBody st) (defScope st) dvs [] (He.ga K x) fd
structure Tx (K : Fg) (mg : Str → Option Value) : Prop where
  g_is_integer : mg "is_integer" = some (.ref (He.ga K "is_integer"))
  f_is_integer : FnP K "is_integer" s_is_integer [.non]
  g_is_sequence : mg "is_sequence" = some (.ref (He.ga K "is_sequence"))
  f_is_sequence : FnP K "is_sequence" s_is_sequence []
  g_is_distances : mg "is_distances" = some (.ref (He.ga K "is_distances"))
  f_is_distances : FnP K "is_distances" s_is_distances []
  g_is_number : mg "is_number" = some (.ref (He.ga K "is_number"))
  f_is_number : FnP K "is_number" s_is_number []
  g_list_text : mg "list_text" = some (.ref (He.ga K "list_text"))
  f_list_text : FnP K "list_text" s_list_text []
  g_format_distances : mg "format_distances" = some (.ref (He.ga K "format_distances"))
  f_format_distances : FnP K "format_distances" s_format_distances []
  g_first_bad_word : mg "first_bad_word" = some (.ref (He.ga K "first_bad_word"))
  f_first_bad_word : FnP K "first_bad_word" s_first_bad_word []
  g_parsed_list : mg "parsed_list" = some (.ref (He.ga K "parsed_list"))
  f_parsed_list : FnP K "parsed_list" s_parsed_list []
  g_parse_distances : mg "parse_distances" = some (.ref (He.ga K "parse_distances"))
  f_parse_distances : FnP K "parse_distances" s_parse_distances []
  g__law_spring : mg "_law_spring" = some (.ref (He.ga K "_law_spring"))
  f__law_spring : FnP K "_law_spring" s__law_spring []
  g__law_draw : mg "_law_draw" = some (.ref (He.ga K "_law_draw"))
  f__law_draw : FnP K "_law_draw" s__law_draw []
  g__law_same : mg "_law_same" = some (.ref (He.ga K "_law_same"))
  f__law_same : FnP K "_law_same" s__law_same []
  g__law_symbols : mg "_law_symbols" = some (.ref (He.ga K "_law_symbols"))
  f__law_symbols : FnP K "_law_symbols" s__law_symbols []
  g__law_distances : mg "_law_distances" = some (.ref (He.ga K "_law_distances"))
  f__law_distances : FnP K "_law_distances" s__law_distances []
  g__law_dressed : mg "_law_dressed" = some (.ref (He.ga K "_law_dressed"))
  f__law_dressed : FnP K "_law_dressed" s__law_dressed []
  g__law_text : mg "_law_text" = some (.ref (He.ga K "_law_text"))
  f__law_text : FnP K "_law_text" s__law_text []
  g_law : mg "law" = some (.ref (He.ga K "law"))
  f_law : FnP K "law" s_law []
  z_abs : mg "abs" = none
  z_all : mg "all" = none
  z_bool : mg "bool" = none
  z_enumerate : mg "enumerate" = none
  z_int : mg "int" = none
  z_isinstance : mg "isinstance" = none
  z_len : mg "len" = none
  z_list : mg "list" = none
  z_min : mg "min" = none
  z_range : mg "range" = none
  z_repr : mg "repr" = none
  z_set : mg "set" = none
  z_str : mg "str" = none
  z_tuple : mg "tuple" = none
  c_DIGITS : ∃ t, mg "DIGITS" = some (.str (Str.ofString "0123456789") t)
  c_EMPTY_LIST : ∃ t, mg "EMPTY_LIST" = some (.str (Str.ofString "none") t)
  c_MAX_POSITIONS : ∃ t, mg "MAX_POSITIONS" = some (.int 400 t)
  e_InvalidDistances : ExC K mg "InvalidDistances"

/-! ### is_integer -/
def sp_is_integer : Spq := fun as k _ => ∃ d lo hi, as = [.bor d, .bor (.int lo), .bor hi] ∧ hiOk hi = true ∧ k (.sh (.bl (intIn lo hi d)))
theorem e_is_integer {d : D} {lo hi : Int} {k : Rv → Prop} {x : Str → List D → Prop} : sp_is_integer [.bor d, .bor (.int lo), .bor (.int hi)] k x = k (.sh (.bl (intIn lo (.int hi) d))) := propext ⟨fun ⟨_, _, _, h, _, q⟩ => (by cases h; exact q), fun q => ⟨_, _, _, rfl, rfl, q⟩⟩
theorem e_is_integerN {d : D} {lo : Int} {k : Rv → Prop} {x : Str → List D → Prop} : sp_is_integer [.bor d, .bor (.int lo), .bor .non] k x = k (.sh (.bl (intIn lo .non d))) := propext ⟨fun ⟨_, _, _, h, _, q⟩ => (by cases h; exact q), fun q => ⟨_, _, _, rfl, rfl, q⟩⟩
section
variable {P : Program} {w : World} {K : Fg} {mg : Str → Option Value} {base : Heap} {g : Gd}
theorem sc_is_integer : FnScope ["value", "lowest", "highest"] ["value", "lowest", "highest"] (defScope s_is_integer) := ⟨rfl, rfl, rfl, by decide +kernel, rfl, by decide +kernel, by decide +kernel⟩
theorem fn_is_integer (T : Tx K mg) : ∃ fd, FnG P w K mg base 1 (He.ga K "is_integer") fd ["value", "lowest", "highest"] (spQ K mg g sp_is_integer) ∧ FunD K "is_integer" "is_integer" (defArgs s_is_integer) (defBody s_is_integer) (defScope s_is_integer) [.non] [] (He.ga K "is_integer") fd := by
  have sc := sc_is_integer
  obtain ⟨fd, Fn⟩ := T.f_is_integer
  refine ⟨fd, fn_q g Fn sc (by decide) (fun as k x h => ?_) fun cdv A outer s H E hgd hr => ?_, Fn⟩
  · unfold sp_is_integer at h; first | (split at h <;> first | rfl | exact h.elim) | (obtain ⟨_, rfl, _⟩ := h; rfl) | (obtain ⟨_, _, rfl, _⟩ := h; rfl) | (obtain ⟨_, _, _, rfl, _⟩ := h; rfl) | (obtain ⟨_, _, _, _, rfl, _⟩ := h; rfl) | (obtain ⟨_, _, _, _, _, rfl, _⟩ := h; rfl) | (obtain ⟨_, _, _, _, _, _, rfl, _⟩ := h; rfl)
  · have tk : Takes (cxOf (L2.CX P w) P w K mg base ["value", "lowest", "highest"] "is_integer" (defScope s_is_integer) (He.ga K "is_integer") cdv A outer s H E) (fun cls d _ H => E cls d H) := takes_of rfl rfl rfl rfl
    refine ⟨_, _, (qs_cons (qs_if (QW.toT (qw_or (qt_not (qt_val (q_isi (T := "int") (by exact rfl) T.z_isinstance (by exact rfl) T.z_int (by decide +kernel) (by exact rfl) (q_var 0) (by decide) (by decide) (by rfl)) (by intro _; rfl))) (qw_or1 (qt_val (q_isi (T := "bool") (by exact rfl) T.z_isinstance (by exact rfl) T.z_bool (by decide +kernel) (by exact rfl) (q_var 0) (by decide) (by decide) (by rfl)) (by intro _; rfl))))) (qs_one (qs_ret q_bl)) qs_nil)
      (qs_one (qs_ret (q_and (q_cmp op_ge o_ge (q_var 0) (q_var 1) (by first | exact nomark _ | rfl)) (q_one (q_or (q_cmp op_isN o_is (q_var 2) q_non (by first | exact nomark _ | rfl)) (q_one (q_cmp op_le o_le (q_var 0) (q_var 2) (by first | exact nomark _ | rfl))))))))), fun as k x h => ?_⟩
    clear tk hr hgd Fn sc T
    obtain ⟨d, lo, hi, rfl, hh, hk⟩ := h
    replace hh : hi = .non ∨ ∃ h, hi = .int h := by
      cases hi <;> first | exact .inl rfl | exact .inr ⟨_, rfl⟩ | cases hh
    cases d
    case int i =>
      rcases hh with rfl | ⟨hh, rfl⟩
      · walk_at "q"
        refine cIf_i (fun h1 => ?_) (fun h1 => ?_)
        · walk_at "q"
          rw [show intIn lo .non (.int i) = true by simp [intIn, leO, h1]] at hk
          exact hk
        · walk_at "q"
          rw [show intIn lo .non (.int i) = false by simp [intIn, h1]] at hk
          exact hk
      · walk_at "q"
        refine cIf_i (fun h1 => ?_) (fun h1 => ?_)
        · walk_at "q"
          rw [show intIn lo (.int hh) (.int i) = decide (i ≤ hh) by simp [intIn, leO, h1]] at hk
          exact hk
        · walk_at "q"
          rw [show intIn lo (.int hh) (.int i) = false by simp [intIn, h1]] at hk
          exact hk
    all_goals walk_at "q"
    all_goals exact hk
theorem cal_is_integer (T : Tx K mg) : Cal P w K mg base g 1 "is_integer" [] sp_is_integer := by
  obtain ⟨fd, G, Fn⟩ := fn_is_integer (P := P) (w := w) (base := base) (g := g) T
  obtain ⟨ds, hv, hb⟩ := Fn.binds1 (ps := ["value", "lowest", "highest"]) 3 1 (by decide) rfl fun _ _ _ _ _ _ _ us its h1 h2 => match us, its, h1, h2 with | [_, _, _], [_], _, _ => ⟨_, rfl, rfl⟩
  cases hv
  exact ⟨_, fd, _, [], G, T.g_is_integer, Fn.kp, hb, .nil, rfl⟩
end

local macro_rules | `(tactic| walk_at "p") => `(tactic| (repeat (rw [pkV]; try walk_at "q")))
local macro_rules | `(tactic| walk_at "len") => `(tactic| (first | omega | (simp only [List.length_map, List.length_append, List.length_reverse, List.length_take, List.length_drop, List.length_dropLast, List.length_cons, List.length_nil, List.length_set, List.length_replicate, dist_length, nxt_length, idsD_length, numbered_length, ranged_length, upto_length]; omega)))
local macro_rules | `(tactic| walk_at "q") => `(tactic| (try simp only [↓hold1, ↓hold2, ↓cIf_t, ↓cIf_f, ↓lk0, ↓lk1, ↓st0, ↓st1, ↓wp0, ↓wp1, ↓wpm, ↓wpn, ↓sD_sh, ↓sD_own, ↓sD_bor, ↓rd_d, ↓rd_p, ↓dB_b, ↓dI_i, ↓dX_x, ↓dK_i, ↓dK_s, ↓dL_l, ↓dIt_l, ↓dIt_t, ↓dIt_s, ↓shS_sh, ↓shS_own, ↓shS_bor, ↓sh1_d, ↓sh1_p, ↓shs0, ↓shs1, ↓ress0, ↓ress1, ↓bagS_b, ↓arg_bor, ↓arg_sh, ↓arg_bag, ↓args0, ↓args1, ↓ap0, ↓ap0', ↓ap1, ↓reS_sh, ↓reS_own, ↓reS_bor, ↓ret_d, ↓ret_p, ↓asS_sh, ↓asS_own, ↓asS_bor, ↓as_d, ↓as_p, ↓rv_sh, ↓rv_own, ↓da_sh, ↓da_own, ↓itS_sh, ↓itS_own, ↓itS_bor, ↓it_d, ↓it_p, ↓e_var, ↓e_sh, ↓e_own, ↓e_bor, ↓e_bag, ↓e_c, ↓e_op, ↓e_opN, ↓e_opR, ↓e_test, ↓e_and, ↓e_or, ↓e_not, ↓e_andV, ↓e_orV, ↓e_notV, ↓e_ifE, ↓e_un, ↓e_nil, ↓e_cons, ↓e_cb, ↓e_cbN, ↓e_cbR, ↓e_ofN, ↓e_lst, ↓e_tup, ↓e_call, ↓e_callS, ↓e_next, ↓e_seq, ↓e_brk, ↓e_ct, ↓e_drop, ↓e_ret, ↓e_retN, ↓e_ret0, ↓e_if, ↓e_set, ↓e_setN, ↓e_aug, ↓e_raise, ↓e_name, ↓e_gnil, ↓e_gcons, ↓e_gtup, ↓e_for, ↓e_seqI, ↓e_enum, ↓rg1_i, ↓rg2_i, ↓e_rng1, ↓e_rng2, ↓e_lc, ↓e_yes, ↓e_onone, ↓e_osome, ↓e_sl, ↓e_isi, ↓e_isi2, ↓ownL_l, ↓ownA_l, ↓sO_o, ↓e_meth, ↓e_meth0, ↓e_dnew, ↓e_dget, ↓e_din, ↓e_dput, ↓e_lput, ↓e_lenSet, ↓e_chain, ↓e_par, ↓e_asgT, ↓e_rev, ↓e_lenD, ↓e_toN, ↓e_parN, ↓e_getD, ↓e_rdm, ↓ok_l, ↓ok_r, ↓ok_s, ↓f_inC, ↓f_notInC, ↓f_inI, ↓f_notInI, ↓f_inIT, ↓f_inS, ↓f_notInS, ↓f_count, ↓rvO_o, ↓pkC0, ↓pkC_sh, ↓pkC_own, ↓pkC_bor, ↓pkC_bag, ↓pkC_no, ↓e_box, ↓e_nsNil, ↓e_nsCons, ↓e_bTest, ↓allL0, ↓allL1, ↓e_bLoop, ↓f_ix0, ↓f_ix1, ↓f_ix2, ↓f_ix3, ↓f_ix4, ↓f_ixT0, ↓f_ixT1, ↓f_ixT2, ↓f_ixT3, ↓f_ixT4, ↓e_loopC, ↓e_loopN, ↓e_step, ↓e_exI, ↓e_toI, ↓e_LAll, ↓f_eqW1, ↓f_eqW2, ↓f_eqW3, ↓f_sLstS, ↓f_sLstB, ↓e_zip, ↓f_zipL, ↓f_dictP, ↓f_dictD, ↓f_sortI, ↓e_dct1, ↓f_eqNN, ↓e_sortSet, ↓f_dSeqL, ↓f_dSeqT, ↓e_lenSetS, ↓f_notScrL, ↓f_notScrT, ↓f_mulS, ↓f_eqSL, ↓f_neSL, ↓f_eqSNil, ↓f_neSNil, ↓f_neNN, ↓f_notInST, ↓f_notIn3, ↓e_dc, ↓e_lstRg1, ↓e_lstRg2, ↓f_isNo, ↓e_lcO, ↓f_dLTl, ↓f_dLTt, ↓e_tupSh, ↓e_callSD, ↓f_ltQI, ↓f_ltQL, ↓f_join, ↓f_split, ↓f_intS, ↓f_inSign, ↓f_notInSign, ↓f_itS, ↓e_dS, ↓e_strI, ↓e_ifN, ↓e_fmtS, ↓e_fmtI, ↓e_fmt, ↓e_fs, ↓e_js0, ↓e_js1, ↓e_never, ↓f_sub, ↓f_mod, ↓f_div, ↓f_divW, ↓f_pow, ↓f_lt, ↓f_le, ↓f_gt, ↓f_ge, ↓f_addI, ↓f_addS, ↓f_addL, ↓f_mulI, ↓f_mulL, ↓f_eqI, ↓f_neI, ↓f_eqS, ↓f_neS, ↓f_eqB, ↓f_neB, ↓f_isN, ↓f_isNotN, ↓f_lenL, ↓f_lenT, ↓f_lenR, ↓f_lenS, ↓f_min, ↓f_max, ↓f_abs, ↓f_intI, ↓f_intB, ↓f_strI, ↓f_listL, ↓f_listT, ↓f_listS, ↓f_tupL, ↓f_repr, ↓f_slL, ↓f_slR, ↓f_slT, ↓f_app, ↓f_pop, ↓f_popAt, ↓f_ext, ↓f_ins, ↓f_allM, ↓f_anyM, ↓f_sumM, ↓f_eqIL, ↓f_neIL, ↓f_eqIT, ↓f_neIT, ↓f_eqNil, ↓f_neNil, ↓f_neg, ↓f_clear, ↓e_is_integer, ↓e_is_integerN, ty_int_n, ty_int_b, ty_int_i, ty_int_s, ty_int_l, ty_int_t, ty_int_r, ty_int_d, ty_bool_n, ty_bool_b, ty_bool_i, ty_bool_s, ty_bool_l, ty_bool_t, ty_bool_r, ty_bool_d, ty_str_n, ty_str_b, ty_str_i, ty_str_s, ty_str_l, ty_str_t, ty_str_r, ty_str_d, ty_list_n, ty_list_b, ty_list_i, ty_list_s, ty_list_l, ty_list_t, ty_list_r, ty_list_d, ty_tuple_n, ty_tuple_b, ty_tuple_i, ty_tuple_s, ty_tuple_l, ty_tuple_t, ty_tuple_r, ty_tuple_d, ty_dict_n, ty_dict_b, ty_dict_i, ty_dict_s, ty_dict_l, ty_dict_t, ty_dict_r, ty_dict_d, cIf_t, cIf_f, cIf_n, isSc_n, isSc_b, isSc_i, isSc_s, ex_some, Int.reduceLT, Int.reduceLE, Int.reduceGT, Int.reduceGE, Int.reduceEq, Int.reduceNe, Int.reduceAdd, Int.reduceSub, Int.reduceMul, Int.reduceNeg, Int.reduceToNat, Int.reducePow, Nat.reduceLT, Nat.reduceAdd, Nat.reduceSub, Nat.reduceLeDiff, Nat.reduceEqDiff, Nat.reduceMul, Int.cast_ofNat_Int, true_or, true_and, and_true, List.length_cons, List.length_nil, List.length_map, n_n, n_b, n_i, n_s, n_l, n_t, se_c, se_n, se_0, ar_b, ar_s, ar_g, Bool.or_true, Bool.true_or, Bool.or_false, Bool.false_or, Bool.and_true, Bool.true_and, Bool.and_false, Bool.false_and, Bool.not_true, Bool.not_false, Bool.not_not, decide_true, decide_false, int_app, filter_tt, eq_self, Option.map_some, Option.map_none, Option.isSome_some, Option.isSome_none, Bool.false_eq_true, if_false, if_true, Nat.zero_add, Int.zero_add, Int.add_zero, Int.sub_zero, List.map_nil, List.nil_append, List.append_nil, int_rev, int_take, int_drop, int_dropLast, int_appL, e_toI, e_is_integer, e_is_integerN]))

/-! ### is_sequence -/
def sp_is_sequence : Spq := fun as k _ => ∃ d, as = [.bor d] ∧ k (.sh (.bl (isSeq d)))
theorem e_is_sequence {d : D} {k : Rv → Prop} {x : Str → List D → Prop} : sp_is_sequence [.bor d] k x = k (.sh (.bl (isSeq d))) := propext ⟨fun ⟨_, h, q⟩ => (by cases h; exact q), fun q => ⟨_, rfl, q⟩⟩
section
variable {P : Program} {w : World} {K : Fg} {mg : Str → Option Value} {base : Heap} {g : Gd}
theorem sc_is_sequence : FnScope ["value"] ["value"] (defScope s_is_sequence) := ⟨rfl, rfl, rfl, by decide +kernel, rfl, by decide +kernel, by decide +kernel⟩
theorem fn_is_sequence (T : Tx K mg) : ∃ fd, FnG P w K mg base 1 (He.ga K "is_sequence") fd ["value"] (spQ K mg g sp_is_sequence) ∧ FunD K "is_sequence" "is_sequence" (defArgs s_is_sequence) (defBody s_is_sequence) (defScope s_is_sequence) [] [] (He.ga K "is_sequence") fd := by
  have sc := sc_is_sequence
  obtain ⟨fd, Fn⟩ := T.f_is_sequence
  refine ⟨fd, fn_q g Fn sc (by decide) (fun as k x h => ?_) fun cdv A outer s H E hgd hr => ?_, Fn⟩
  · unfold sp_is_sequence at h; first | (split at h <;> first | rfl | exact h.elim) | (obtain ⟨_, rfl, _⟩ := h; rfl) | (obtain ⟨_, _, rfl, _⟩ := h; rfl) | (obtain ⟨_, _, _, rfl, _⟩ := h; rfl) | (obtain ⟨_, _, _, _, rfl, _⟩ := h; rfl) | (obtain ⟨_, _, _, _, _, rfl, _⟩ := h; rfl) | (obtain ⟨_, _, _, _, _, _, rfl, _⟩ := h; rfl)
  · have tk : Takes (cxOf (L2.CX P w) P w K mg base ["value"] "is_sequence" (defScope s_is_sequence) (He.ga K "is_sequence") cdv A outer s H E) (fun cls d _ H => E cls d H) := takes_of rfl rfl rfl rfl
    refine ⟨_, _, (qs_one (qs_ret (q_isi2 (T := "list") (U := "tuple") (by exact rfl) T.z_isinstance (by exact rfl) T.z_list (by decide +kernel) (by exact rfl) (by exact rfl) T.z_tuple (by decide +kernel) (by exact rfl) (q_var 0) (by decide) (by decide) (by decide) (by decide) (by rfl)))), fun as k x h => ?_⟩
    clear tk hr hgd Fn sc T
    obtain ⟨d, rfl, h⟩ := h
    walk_at "q"
    exact h
theorem cal_is_sequence (T : Tx K mg) : Cal P w K mg base g 1 "is_sequence" [] sp_is_sequence := by
  obtain ⟨fd, G, Fn⟩ := fn_is_sequence (P := P) (w := w) (base := base) (g := g) T
  exact ⟨_, fd, _, [], G, T.g_is_sequence, Fn.kp, Fn.bindsN fun _ _ _ _ _ _ us hl => match us, hl with | [_], _ => rfl, .nil, rfl⟩
end

local macro_rules | `(tactic| walk_at "p") => `(tactic| (repeat (rw [pkV]; try walk_at "q")))
local macro_rules | `(tactic| walk_at "len") => `(tactic| (first | omega | (simp only [List.length_map, List.length_append, List.length_reverse, List.length_take, List.length_drop, List.length_dropLast, List.length_cons, List.length_nil, List.length_set, List.length_replicate, dist_length, nxt_length, idsD_length, numbered_length, ranged_length, upto_length]; omega)))
local macro_rules | `(tactic| walk_at "q") => `(tactic| (try simp only [↓hold1, ↓hold2, ↓cIf_t, ↓cIf_f, ↓lk0, ↓lk1, ↓st0, ↓st1, ↓wp0, ↓wp1, ↓wpm, ↓wpn, ↓sD_sh, ↓sD_own, ↓sD_bor, ↓rd_d, ↓rd_p, ↓dB_b, ↓dI_i, ↓dX_x, ↓dK_i, ↓dK_s, ↓dL_l, ↓dIt_l, ↓dIt_t, ↓dIt_s, ↓shS_sh, ↓shS_own, ↓shS_bor, ↓sh1_d, ↓sh1_p, ↓shs0, ↓shs1, ↓ress0, ↓ress1, ↓bagS_b, ↓arg_bor, ↓arg_sh, ↓arg_bag, ↓args0, ↓args1, ↓ap0, ↓ap0', ↓ap1, ↓reS_sh, ↓reS_own, ↓reS_bor, ↓ret_d, ↓ret_p, ↓asS_sh, ↓asS_own, ↓asS_bor, ↓as_d, ↓as_p, ↓rv_sh, ↓rv_own, ↓da_sh, ↓da_own, ↓itS_sh, ↓itS_own, ↓itS_bor, ↓it_d, ↓it_p, ↓e_var, ↓e_sh, ↓e_own, ↓e_bor, ↓e_bag, ↓e_c, ↓e_op, ↓e_opN, ↓e_opR, ↓e_test, ↓e_and, ↓e_or, ↓e_not, ↓e_andV, ↓e_orV, ↓e_notV, ↓e_ifE, ↓e_un, ↓e_nil, ↓e_cons, ↓e_cb, ↓e_cbN, ↓e_cbR, ↓e_ofN, ↓e_lst, ↓e_tup, ↓e_call, ↓e_callS, ↓e_next, ↓e_seq, ↓e_brk, ↓e_ct, ↓e_drop, ↓e_ret, ↓e_retN, ↓e_ret0, ↓e_if, ↓e_set, ↓e_setN, ↓e_aug, ↓e_raise, ↓e_name, ↓e_gnil, ↓e_gcons, ↓e_gtup, ↓e_for, ↓e_seqI, ↓e_enum, ↓rg1_i, ↓rg2_i, ↓e_rng1, ↓e_rng2, ↓e_lc, ↓e_yes, ↓e_onone, ↓e_osome, ↓e_sl, ↓e_isi, ↓e_isi2, ↓ownL_l, ↓ownA_l, ↓sO_o, ↓e_meth, ↓e_meth0, ↓e_dnew, ↓e_dget, ↓e_din, ↓e_dput, ↓e_lput, ↓e_lenSet, ↓e_chain, ↓e_par, ↓e_asgT, ↓e_rev, ↓e_lenD, ↓e_toN, ↓e_parN, ↓e_getD, ↓e_rdm, ↓ok_l, ↓ok_r, ↓ok_s, ↓f_inC, ↓f_notInC, ↓f_inI, ↓f_notInI, ↓f_inIT, ↓f_inS, ↓f_notInS, ↓f_count, ↓rvO_o, ↓pkC0, ↓pkC_sh, ↓pkC_own, ↓pkC_bor, ↓pkC_bag, ↓pkC_no, ↓e_box, ↓e_nsNil, ↓e_nsCons, ↓e_bTest, ↓allL0, ↓allL1, ↓e_bLoop, ↓f_ix0, ↓f_ix1, ↓f_ix2, ↓f_ix3, ↓f_ix4, ↓f_ixT0, ↓f_ixT1, ↓f_ixT2, ↓f_ixT3, ↓f_ixT4, ↓e_loopC, ↓e_loopN, ↓e_step, ↓e_exI, ↓e_toI, ↓e_LAll, ↓f_eqW1, ↓f_eqW2, ↓f_eqW3, ↓f_sLstS, ↓f_sLstB, ↓e_zip, ↓f_zipL, ↓f_dictP, ↓f_dictD, ↓f_sortI, ↓e_dct1, ↓f_eqNN, ↓e_sortSet, ↓f_dSeqL, ↓f_dSeqT, ↓e_lenSetS, ↓f_notScrL, ↓f_notScrT, ↓f_mulS, ↓f_eqSL, ↓f_neSL, ↓f_eqSNil, ↓f_neSNil, ↓f_neNN, ↓f_notInST, ↓f_notIn3, ↓e_dc, ↓e_lstRg1, ↓e_lstRg2, ↓f_isNo, ↓e_lcO, ↓f_dLTl, ↓f_dLTt, ↓e_tupSh, ↓e_callSD, ↓f_ltQI, ↓f_ltQL, ↓f_join, ↓f_split, ↓f_intS, ↓f_inSign, ↓f_notInSign, ↓f_itS, ↓e_dS, ↓e_strI, ↓e_ifN, ↓e_fmtS, ↓e_fmtI, ↓e_fmt, ↓e_fs, ↓e_js0, ↓e_js1, ↓e_never, ↓f_sub, ↓f_mod, ↓f_div, ↓f_divW, ↓f_pow, ↓f_lt, ↓f_le, ↓f_gt, ↓f_ge, ↓f_addI, ↓f_addS, ↓f_addL, ↓f_mulI, ↓f_mulL, ↓f_eqI, ↓f_neI, ↓f_eqS, ↓f_neS, ↓f_eqB, ↓f_neB, ↓f_isN, ↓f_isNotN, ↓f_lenL, ↓f_lenT, ↓f_lenR, ↓f_lenS, ↓f_min, ↓f_max, ↓f_abs, ↓f_intI, ↓f_intB, ↓f_strI, ↓f_listL, ↓f_listT, ↓f_listS, ↓f_tupL, ↓f_repr, ↓f_slL, ↓f_slR, ↓f_slT, ↓f_app, ↓f_pop, ↓f_popAt, ↓f_ext, ↓f_ins, ↓f_allM, ↓f_anyM, ↓f_sumM, ↓f_eqIL, ↓f_neIL, ↓f_eqIT, ↓f_neIT, ↓f_eqNil, ↓f_neNil, ↓f_neg, ↓f_clear, ↓e_is_integer, ↓e_is_integerN, ↓e_is_sequence, ty_int_n, ty_int_b, ty_int_i, ty_int_s, ty_int_l, ty_int_t, ty_int_r, ty_int_d, ty_bool_n, ty_bool_b, ty_bool_i, ty_bool_s, ty_bool_l, ty_bool_t, ty_bool_r, ty_bool_d, ty_str_n, ty_str_b, ty_str_i, ty_str_s, ty_str_l, ty_str_t, ty_str_r, ty_str_d, ty_list_n, ty_list_b, ty_list_i, ty_list_s, ty_list_l, ty_list_t, ty_list_r, ty_list_d, ty_tuple_n, ty_tuple_b, ty_tuple_i, ty_tuple_s, ty_tuple_l, ty_tuple_t, ty_tuple_r, ty_tuple_d, ty_dict_n, ty_dict_b, ty_dict_i, ty_dict_s, ty_dict_l, ty_dict_t, ty_dict_r, ty_dict_d, cIf_t, cIf_f, cIf_n, isSc_n, isSc_b, isSc_i, isSc_s, ex_some, Int.reduceLT, Int.reduceLE, Int.reduceGT, Int.reduceGE, Int.reduceEq, Int.reduceNe, Int.reduceAdd, Int.reduceSub, Int.reduceMul, Int.reduceNeg, Int.reduceToNat, Int.reducePow, Nat.reduceLT, Nat.reduceAdd, Nat.reduceSub, Nat.reduceLeDiff, Nat.reduceEqDiff, Nat.reduceMul, Int.cast_ofNat_Int, true_or, true_and, and_true, List.length_cons, List.length_nil, List.length_map, n_n, n_b, n_i, n_s, n_l, n_t, se_c, se_n, se_0, ar_b, ar_s, ar_g, Bool.or_true, Bool.true_or, Bool.or_false, Bool.false_or, Bool.and_true, Bool.true_and, Bool.and_false, Bool.false_and, Bool.not_true, Bool.not_false, Bool.not_not, decide_true, decide_false, int_app, filter_tt, eq_self, Option.map_some, Option.map_none, Option.isSome_some, Option.isSome_none, Bool.false_eq_true, if_false, if_true, Nat.zero_add, Int.zero_add, Int.add_zero, Int.sub_zero, List.map_nil, List.nil_append, List.append_nil, int_rev, int_take, int_drop, int_dropLast, int_appL, e_toI, e_is_integer, e_is_integerN, e_is_sequence]))

/-! ### is_distances -/
def sp_is_distances : Spq := fun as k _ => ∃ d, as = [.bor d] ∧ k (.sh (.bl (isDist d)))
theorem e_is_distances {d : D} {k : Rv → Prop} {x : Str → List D → Prop} : sp_is_distances [.bor d] k x = k (.sh (.bl (isDist d))) := propext ⟨fun ⟨_, h, q⟩ => (by cases h; exact q), fun q => ⟨_, rfl, q⟩⟩
section
variable {P : Program} {w : World} {K : Fg} {mg : Str → Option Value} {base : Heap} {g : Gd}
theorem sc_is_distances : FnScope ["value", "targets", "position", "entry"] ["value"] (defScope s_is_distances) := ⟨rfl, rfl, rfl, by decide +kernel, rfl, by decide +kernel, by decide +kernel⟩
theorem fn_is_distances (T : Tx K mg) : ∃ fd, FnG P w K mg base 2 (He.ga K "is_distances") fd ["value"] (spQ K mg g sp_is_distances) ∧ FunD K "is_distances" "is_distances" (defArgs s_is_distances) (defBody s_is_distances) (defScope s_is_distances) [] [] (He.ga K "is_distances") fd := by
  have sc := sc_is_distances
  have C_is_integer : Cal P w K mg base g 1 "is_integer" [] sp_is_integer := cal_is_integer T
  have C_is_sequence : Cal P w K mg base g 1 "is_sequence" [] sp_is_sequence := cal_is_sequence T
  obtain ⟨t_MAX_POSITIONS, h_MAX_POSITIONS⟩ := T.c_MAX_POSITIONS
  obtain ⟨fd, Fn⟩ := T.f_is_distances
  refine ⟨fd, fn_q g Fn sc (by decide) (fun as k x h => ?_) fun cdv A outer s H E hgd hr => ?_, Fn⟩
  · unfold sp_is_distances at h; first | (split at h <;> first | rfl | exact h.elim) | (obtain ⟨_, rfl, _⟩ := h; rfl) | (obtain ⟨_, _, rfl, _⟩ := h; rfl) | (obtain ⟨_, _, _, rfl, _⟩ := h; rfl) | (obtain ⟨_, _, _, _, rfl, _⟩ := h; rfl) | (obtain ⟨_, _, _, _, _, rfl, _⟩ := h; rfl) | (obtain ⟨_, _, _, _, _, _, rfl, _⟩ := h; rfl)
  · have tk : Takes (cxOf (L2.CX P w) P w K mg base ["value", "targets", "position", "entry"] "is_distances" (defScope s_is_distances) (He.ga K "is_distances") cdv A outer s H E) (fun cls d _ H => E cls d H) := takes_of rfl rfl rfl rfl
    refine ⟨_, _, (qs_cons (qs_if (QW.toT (qw_or (qt_not (qt_val (QN.qe (qn_call [.bor] C_is_sequence (by exact hgd) (by exact hr) (by omega) (by exact rfl) (qa_cons (q_var 0) qa_nil (by rfl)) (by decide) (by rfl) (by rfl))) (by intro _; rfl))) (qw_or1 (qt_cmp op_gt o_gt (q_callB call_len c_len (by exact rfl) T.z_len (by decide +kernel) (qa_cons (q_var 0) qa_nil (by rfl)) (by decide) (by decide) (by rfl) (by rfl)) (q_glob (v := V.int 400) (d := D.int 400) (by exact rfl) h_MAX_POSITIONS ⟨_, rfl⟩ (by exact rfl) (by decide)) (by first | exact nomark _ | rfl))))) (qs_one (qs_ret q_bl)) qs_nil)
      (qs_cons (qs_if (qt_not (qt_val (q_callB (cr_all rfl) c_all (by exact rfl) T.z_all (by decide +kernel) (qa_cons (QN.qe (qn_lcB [("position", 2), ("entry", 3)] (by exact rfl) (by exact sc.nd) (qi_enum (by exact rfl) T.z_enumerate (q_var 0) (by rfl)) (blkOk_by (by kernel_rfl)) (fun _ _ _ _ _ => (qg_tup (n := 2) (by exact rfl) (qgs_cons (qg_name (i := 2) (by exact sc.nd) (by exact rfl) (by first | exact Or.inl rfl | exact Or.inr rfl) (by decide) (by first | exact .inl rfl | exact .inr rfl | assumption)) (qgs_cons (qg_name (i := 3) (by exact sc.nd) (by exact rfl) (by first | exact Or.inl rfl | exact Or.inr rfl) (by decide) (by first | exact .inl rfl | exact .inr rfl | assumption)) qgs_nil (by rfl)) (by rfl)) (by rfl) (by rfl))) (fun _ _ _ _ _ => qts_nil) (fun _ _ _ _ _ => (QN.qe (qn_call [.bor, .bor, .bor] C_is_integer (by exact hgd) (by exact hr) (by omega) (by exact rfl) (qa_cons (q_var 3) (qa_cons q_int (qa_cons (q_var 2) qa_nil (by rfl)) (by rfl)) (by rfl)) (by decide) (by rfl) (by rfl)))) (by intro _; rfl) (by intros; rfl) (by intros; rfl) (by intros; rfl))) qa_nil (by rfl)) (by decide) (by decide) (by rfl) (by rfl)) (by intro _; rfl))) (qs_one (qs_ret q_bl)) qs_nil)
      (qs_cons (qs_setLcB (i := 1) [("position", 2), ("entry", 3)] (by exact rfl) (by exact sc.nd) (by exact rfl) (by exact rfl) (sw_true (by exact rfl) (by exact rfl) (by exact rfl) (by decide +kernel)) (qi_enum (by exact rfl) T.z_enumerate (q_var 0) (by rfl)) (blkOk_by (by kernel_rfl)) (fun _ _ _ _ _ => (qg_tup (n := 2) (by exact rfl) (qgs_cons (qg_name (i := 2) (by exact sc.nd) (by exact rfl) (by first | exact Or.inl rfl | exact Or.inr rfl) (by decide) (by first | exact .inl rfl | exact .inr rfl | assumption)) (qgs_cons (qg_name (i := 3) (by exact sc.nd) (by exact rfl) (by first | exact Or.inl rfl | exact Or.inr rfl) (by decide) (by first | exact .inl rfl | exact .inr rfl | assumption)) qgs_nil (by rfl)) (by rfl)) (by rfl) (by rfl))) (fun _ _ _ _ _ => (qts_one (qt_cmp op_gt o_gt (q_var 3) q_int (by first | exact nomark _ | rfl)))) (fun _ _ _ _ _ => (q_op op_sub o_sub (q_var 2) (q_var 3))) (by intro _; rfl) (by intros; rfl) (by intros; rfl) (by intros; rfl))
      (qs_one (qs_ret (q_cmp (or_eqQ (by exact hr.units)) o_eq (q_lenSet (by exact rfl) T.z_len (by exact rfl) T.z_set (q_var 1) (by rfl) (by rfl)) (q_callB call_len c_len (by exact rfl) T.z_len (by decide +kernel) (qa_cons (q_var 1) qa_nil (by rfl)) (by decide) (by decide) (by rfl) (by rfl)) (by first | exact nomark _ | rfl))))))), fun as k x h => ?_⟩
    clear tk hr hgd Fn sc T
    obtain ⟨d, rfl, h⟩ := h
    walk_at "q"
    refine cIf_b (fun h1 => ?_) (fun h1 => ?_)
    rotate_left
    · walk_at "q"
      rw [show isDist d = false by cases d <;> first | rfl | (cases h1; done)] at h
      exact h
    cases d
    all_goals first | (cases h1; done) | skip
    · walk_at "q"
      simp only [isDist] at h
      refine cIf_i (fun h2 => ?_) (fun h2 => ?_)
      · walk_at "q"
        rw [distB_long (by first | omega | (rw [List.length_map]; omega))] at h
        exact h
      walk_at "q"
      refine comp_pure (fun _ => true) (fun d => .bl (prB (fun p e => intIn 0 (.int p) e) d)) (fun n d acc X hd hl hX => ?_) ?_
      · obtain ⟨e, he, rfl⟩ := num_get hd
        have hn := (List.getElem?_eq_some_iff.mp hd).1
        rw [numbered_length] at hn
        rw [if_pos rfl] at hX
        unfold compStep
        walk_at "q"
        refine ⟨by first | omega | (rw [List.length_map] at hn; omega), ?_⟩
        simpa [prB_e] using hX
      walk_at "q"
      refine cIf_b (fun h3 => ?_) (fun h3 => ?_)
      rotate_left
      · walk_at "q"
        rw [distB_bad h3] at h
        exact h
      walk_at "q"
      refine comp_pure (prB fun _ e => decide (toI e > 0)) (fun d => .int (prI (fun p e => p - toI e) d)) (fun n d acc X hd hl hX => ?_) ?_
      · obtain ⟨e, he, rfl⟩ := num_get hd
        obtain ⟨i, rfl, _, _⟩ := okE_get h3 he
        have hn := (List.getElem?_eq_some_iff.mp hd).1
        rw [numbered_length] at hn
        simp only [prB_e, prI_e, toI, Nat.zero_add, gt_iff_lt] at hX
        unfold compStep
        walk_at "q"
        refine cIf_i (fun h4 => ?_) (fun h4 => ?_)
        · walk_at "q"
          rw [if_pos (decide_eq_true h4)] at hX
          exact ⟨by first | omega | (rw [List.length_map] at hn; omega), hX⟩
        · walk_at "q"
          rw [if_neg (by simpa using h4)] at hX
          exact hX
      walk_at "q"
      refine ⟨tgs _, by unfold tgs; rw [List.map_map]; rfl, Nat.le_trans (tgs_length _) (by first | omega | (rw [List.length_map]; omega)), ?_⟩
      rw [show distB _ = _ from distB_ok (by first | omega | (rw [List.length_map]; omega)) h3] at h
      exact h
    · walk_at "q"
      simp only [isDist] at h
      refine cIf_i (fun h2 => ?_) (fun h2 => ?_)
      · walk_at "q"
        rw [distB_long (by first | omega | (rw [List.length_map]; omega))] at h
        exact h
      walk_at "q"
      refine comp_pure (fun _ => true) (fun d => .bl (prB (fun p e => intIn 0 (.int p) e) d)) (fun n d acc X hd hl hX => ?_) ?_
      · obtain ⟨e, he, rfl⟩ := num_get hd
        have hn := (List.getElem?_eq_some_iff.mp hd).1
        rw [numbered_length] at hn
        rw [if_pos rfl] at hX
        unfold compStep
        walk_at "q"
        refine ⟨by first | omega | (rw [List.length_map] at hn; omega), ?_⟩
        simpa [prB_e] using hX
      walk_at "q"
      refine cIf_b (fun h3 => ?_) (fun h3 => ?_)
      rotate_left
      · walk_at "q"
        rw [distB_bad h3] at h
        exact h
      walk_at "q"
      refine comp_pure (prB fun _ e => decide (toI e > 0)) (fun d => .int (prI (fun p e => p - toI e) d)) (fun n d acc X hd hl hX => ?_) ?_
      · obtain ⟨e, he, rfl⟩ := num_get hd
        obtain ⟨i, rfl, _, _⟩ := okE_get h3 he
        have hn := (List.getElem?_eq_some_iff.mp hd).1
        rw [numbered_length] at hn
        simp only [prB_e, prI_e, toI, Nat.zero_add, gt_iff_lt] at hX
        unfold compStep
        walk_at "q"
        refine cIf_i (fun h4 => ?_) (fun h4 => ?_)
        · walk_at "q"
          rw [if_pos (decide_eq_true h4)] at hX
          exact ⟨by first | omega | (rw [List.length_map] at hn; omega), hX⟩
        · walk_at "q"
          rw [if_neg (by simpa using h4)] at hX
          exact hX
      walk_at "q"
      refine ⟨tgs _, by unfold tgs; rw [List.map_map]; rfl, Nat.le_trans (tgs_length _) (by first | omega | (rw [List.length_map]; omega)), ?_⟩
      rw [show distB _ = _ from distB_ok (by first | omega | (rw [List.length_map]; omega)) h3] at h
      exact h
    · walk_at "q"
      simp only [isDist] at h
      refine cIf_i (fun h2 => ?_) (fun h2 => ?_)
      · walk_at "q"
        rw [distB_long (by first | omega | (rw [List.length_map]; omega))] at h
        exact h
      walk_at "q"
      refine comp_pure (fun _ => true) (fun d => .bl (prB (fun p e => intIn 0 (.int p) e) d)) (fun n d acc X hd hl hX => ?_) ?_
      · obtain ⟨e, he, rfl⟩ := num_get hd
        have hn := (List.getElem?_eq_some_iff.mp hd).1
        rw [numbered_length] at hn
        rw [if_pos rfl] at hX
        unfold compStep
        walk_at "q"
        refine ⟨by first | omega | (rw [List.length_map] at hn; omega), ?_⟩
        simpa [prB_e] using hX
      walk_at "q"
      refine cIf_b (fun h3 => ?_) (fun h3 => ?_)
      rotate_left
      · walk_at "q"
        rw [distB_bad h3] at h
        exact h
      walk_at "q"
      refine comp_pure (prB fun _ e => decide (toI e > 0)) (fun d => .int (prI (fun p e => p - toI e) d)) (fun n d acc X hd hl hX => ?_) ?_
      · obtain ⟨e, he, rfl⟩ := num_get hd
        obtain ⟨i, rfl, _, _⟩ := okE_get h3 he
        have hn := (List.getElem?_eq_some_iff.mp hd).1
        rw [numbered_length] at hn
        simp only [prB_e, prI_e, toI, Nat.zero_add, gt_iff_lt] at hX
        unfold compStep
        walk_at "q"
        refine cIf_i (fun h4 => ?_) (fun h4 => ?_)
        · walk_at "q"
          rw [if_pos (decide_eq_true h4)] at hX
          exact ⟨by first | omega | (rw [List.length_map] at hn; omega), hX⟩
        · walk_at "q"
          rw [if_neg (by simpa using h4)] at hX
          exact hX
      walk_at "q"
      refine ⟨tgs _, by unfold tgs; rw [List.map_map]; rfl, Nat.le_trans (tgs_length _) (by first | omega | (rw [List.length_map]; omega)), ?_⟩
      rw [show distB _ = _ from distB_ok (by first | omega | (rw [List.length_map]; omega)) h3] at h
      exact h
theorem cal_is_distances (T : Tx K mg) : Cal P w K mg base g 2 "is_distances" [] sp_is_distances := by
  obtain ⟨fd, G, Fn⟩ := fn_is_distances (P := P) (w := w) (base := base) (g := g) T
  exact ⟨_, fd, _, [], G, T.g_is_distances, Fn.kp, Fn.bindsN fun _ _ _ _ _ _ us hl => match us, hl with | [_], _ => rfl, .nil, rfl⟩
end

local macro_rules | `(tactic| walk_at "p") => `(tactic| (repeat (rw [pkV]; try walk_at "q")))
local macro_rules | `(tactic| walk_at "len") => `(tactic| (first | omega | (simp only [List.length_map, List.length_append, List.length_reverse, List.length_take, List.length_drop, List.length_dropLast, List.length_cons, List.length_nil, List.length_set, List.length_replicate, dist_length, nxt_length, idsD_length, numbered_length, ranged_length, upto_length]; omega)))
local macro_rules | `(tactic| walk_at "q") => `(tactic| (try simp only [↓hold1, ↓hold2, ↓cIf_t, ↓cIf_f, ↓lk0, ↓lk1, ↓st0, ↓st1, ↓wp0, ↓wp1, ↓wpm, ↓wpn, ↓sD_sh, ↓sD_own, ↓sD_bor, ↓rd_d, ↓rd_p, ↓dB_b, ↓dI_i, ↓dX_x, ↓dK_i, ↓dK_s, ↓dL_l, ↓dIt_l, ↓dIt_t, ↓dIt_s, ↓shS_sh, ↓shS_own, ↓shS_bor, ↓sh1_d, ↓sh1_p, ↓shs0, ↓shs1, ↓ress0, ↓ress1, ↓bagS_b, ↓arg_bor, ↓arg_sh, ↓arg_bag, ↓args0, ↓args1, ↓ap0, ↓ap0', ↓ap1, ↓reS_sh, ↓reS_own, ↓reS_bor, ↓ret_d, ↓ret_p, ↓asS_sh, ↓asS_own, ↓asS_bor, ↓as_d, ↓as_p, ↓rv_sh, ↓rv_own, ↓da_sh, ↓da_own, ↓itS_sh, ↓itS_own, ↓itS_bor, ↓it_d, ↓it_p, ↓e_var, ↓e_sh, ↓e_own, ↓e_bor, ↓e_bag, ↓e_c, ↓e_op, ↓e_opN, ↓e_opR, ↓e_test, ↓e_and, ↓e_or, ↓e_not, ↓e_andV, ↓e_orV, ↓e_notV, ↓e_ifE, ↓e_un, ↓e_nil, ↓e_cons, ↓e_cb, ↓e_cbN, ↓e_cbR, ↓e_ofN, ↓e_lst, ↓e_tup, ↓e_call, ↓e_callS, ↓e_next, ↓e_seq, ↓e_brk, ↓e_ct, ↓e_drop, ↓e_ret, ↓e_retN, ↓e_ret0, ↓e_if, ↓e_set, ↓e_setN, ↓e_aug, ↓e_raise, ↓e_name, ↓e_gnil, ↓e_gcons, ↓e_gtup, ↓e_for, ↓e_seqI, ↓e_enum, ↓rg1_i, ↓rg2_i, ↓e_rng1, ↓e_rng2, ↓e_lc, ↓e_yes, ↓e_onone, ↓e_osome, ↓e_sl, ↓e_isi, ↓e_isi2, ↓ownL_l, ↓ownA_l, ↓sO_o, ↓e_meth, ↓e_meth0, ↓e_dnew, ↓e_dget, ↓e_din, ↓e_dput, ↓e_lput, ↓e_lenSet, ↓e_chain, ↓e_par, ↓e_asgT, ↓e_rev, ↓e_lenD, ↓e_toN, ↓e_parN, ↓e_getD, ↓e_rdm, ↓ok_l, ↓ok_r, ↓ok_s, ↓f_inC, ↓f_notInC, ↓f_inI, ↓f_notInI, ↓f_inIT, ↓f_inS, ↓f_notInS, ↓f_count, ↓rvO_o, ↓pkC0, ↓pkC_sh, ↓pkC_own, ↓pkC_bor, ↓pkC_bag, ↓pkC_no, ↓e_box, ↓e_nsNil, ↓e_nsCons, ↓e_bTest, ↓allL0, ↓allL1, ↓e_bLoop, ↓f_ix0, ↓f_ix1, ↓f_ix2, ↓f_ix3, ↓f_ix4, ↓f_ixT0, ↓f_ixT1, ↓f_ixT2, ↓f_ixT3, ↓f_ixT4, ↓e_loopC, ↓e_loopN, ↓e_step, ↓e_exI, ↓e_toI, ↓e_LAll, ↓f_eqW1, ↓f_eqW2, ↓f_eqW3, ↓f_sLstS, ↓f_sLstB, ↓e_zip, ↓f_zipL, ↓f_dictP, ↓f_dictD, ↓f_sortI, ↓e_dct1, ↓f_eqNN, ↓e_sortSet, ↓f_dSeqL, ↓f_dSeqT, ↓e_lenSetS, ↓f_notScrL, ↓f_notScrT, ↓f_mulS, ↓f_eqSL, ↓f_neSL, ↓f_eqSNil, ↓f_neSNil, ↓f_neNN, ↓f_notInST, ↓f_notIn3, ↓e_dc, ↓e_lstRg1, ↓e_lstRg2, ↓f_isNo, ↓e_lcO, ↓f_dLTl, ↓f_dLTt, ↓e_tupSh, ↓e_callSD, ↓f_ltQI, ↓f_ltQL, ↓f_join, ↓f_split, ↓f_intS, ↓f_inSign, ↓f_notInSign, ↓f_itS, ↓e_dS, ↓e_strI, ↓e_ifN, ↓e_fmtS, ↓e_fmtI, ↓e_fmt, ↓e_fs, ↓e_js0, ↓e_js1, ↓e_never, ↓f_sub, ↓f_mod, ↓f_div, ↓f_divW, ↓f_pow, ↓f_lt, ↓f_le, ↓f_gt, ↓f_ge, ↓f_addI, ↓f_addS, ↓f_addL, ↓f_mulI, ↓f_mulL, ↓f_eqI, ↓f_neI, ↓f_eqS, ↓f_neS, ↓f_eqB, ↓f_neB, ↓f_isN, ↓f_isNotN, ↓f_lenL, ↓f_lenT, ↓f_lenR, ↓f_lenS, ↓f_min, ↓f_max, ↓f_abs, ↓f_intI, ↓f_intB, ↓f_strI, ↓f_listL, ↓f_listT, ↓f_listS, ↓f_tupL, ↓f_repr, ↓f_slL, ↓f_slR, ↓f_slT, ↓f_app, ↓f_pop, ↓f_popAt, ↓f_ext, ↓f_ins, ↓f_allM, ↓f_anyM, ↓f_sumM, ↓f_eqIL, ↓f_neIL, ↓f_eqIT, ↓f_neIT, ↓f_eqNil, ↓f_neNil, ↓f_neg, ↓f_clear, ↓e_is_integer, ↓e_is_integerN, ↓e_is_sequence, ↓e_is_distances, ty_int_n, ty_int_b, ty_int_i, ty_int_s, ty_int_l, ty_int_t, ty_int_r, ty_int_d, ty_bool_n, ty_bool_b, ty_bool_i, ty_bool_s, ty_bool_l, ty_bool_t, ty_bool_r, ty_bool_d, ty_str_n, ty_str_b, ty_str_i, ty_str_s, ty_str_l, ty_str_t, ty_str_r, ty_str_d, ty_list_n, ty_list_b, ty_list_i, ty_list_s, ty_list_l, ty_list_t, ty_list_r, ty_list_d, ty_tuple_n, ty_tuple_b, ty_tuple_i, ty_tuple_s, ty_tuple_l, ty_tuple_t, ty_tuple_r, ty_tuple_d, ty_dict_n, ty_dict_b, ty_dict_i, ty_dict_s, ty_dict_l, ty_dict_t, ty_dict_r, ty_dict_d, cIf_t, cIf_f, cIf_n, isSc_n, isSc_b, isSc_i, isSc_s, ex_some, Int.reduceLT, Int.reduceLE, Int.reduceGT, Int.reduceGE, Int.reduceEq, Int.reduceNe, Int.reduceAdd, Int.reduceSub, Int.reduceMul, Int.reduceNeg, Int.reduceToNat, Int.reducePow, Nat.reduceLT, Nat.reduceAdd, Nat.reduceSub, Nat.reduceLeDiff, Nat.reduceEqDiff, Nat.reduceMul, Int.cast_ofNat_Int, true_or, true_and, and_true, List.length_cons, List.length_nil, List.length_map, n_n, n_b, n_i, n_s, n_l, n_t, se_c, se_n, se_0, ar_b, ar_s, ar_g, Bool.or_true, Bool.true_or, Bool.or_false, Bool.false_or, Bool.and_true, Bool.true_and, Bool.and_false, Bool.false_and, Bool.not_true, Bool.not_false, Bool.not_not, decide_true, decide_false, int_app, filter_tt, eq_self, Option.map_some, Option.map_none, Option.isSome_some, Option.isSome_none, Bool.false_eq_true, if_false, if_true, Nat.zero_add, Int.zero_add, Int.add_zero, Int.sub_zero, List.map_nil, List.nil_append, List.append_nil, int_rev, int_take, int_drop, int_dropLast, int_appL, e_toI, e_is_integer, e_is_integerN, e_is_sequence, e_is_distances]))

/-! ### is_number -/
def sp_is_number : Spq := fun as k x => ∃ (w : Str), as = [.bor (.str w)] ∧ ((w.length ≤ 9000000) ∧ (k (.sh (.bl (isNum w)))))
theorem e_is_number {w : Str} {k : Rv → Prop} {x : Str → List D → Prop} : sp_is_number [.bor (.str w)] k x = ((w.length ≤ 9000000) ∧ (k (.sh (.bl (isNum w))))) := propext ⟨fun h => (by
  obtain ⟨w2, h, q⟩ := h
  simp only [List.cons.injEq, Ar.bor.injEq, Ar.sh.injEq, Ar.bag.injEq, D.lst.injEq, D.tup.injEq, D.int.injEq, D.str.injEq, D.bl.injEq, ints_inj, strs_inj, and_true, true_and] at h
  subst h
  exact q), fun q => ⟨_, rfl, q⟩⟩

section
variable {P : Program} {w : World} {K : Fg} {mg : Str → Option Value} {base : Heap} {g : Gd}
theorem sc_is_number : FnScope ["word", "sign"] ["word"] (defScope s_is_number) := ⟨rfl, rfl, rfl, by decide +kernel, rfl, by decide +kernel, by decide +kernel⟩
theorem fn_is_number (T : Tx K mg) : ∃ fd, FnG P w K mg base 1 (He.ga K "is_number") fd ["word"] (spQ K mg g sp_is_number) ∧ FunD K "is_number" "is_number" (defArgs s_is_number) (defBody s_is_number) (defScope s_is_number) [] [] (He.ga K "is_number") fd := by
  have sc := sc_is_number
  obtain ⟨t_DIGITS, h_DIGITS⟩ := T.c_DIGITS
  obtain ⟨fd, Fn⟩ := T.f_is_number
  refine ⟨fd, fn_q g Fn sc (by decide) (fun as k x h => ?_) fun cdv A outer s H E hgd hr => ?_, Fn⟩
  · unfold sp_is_number at h; first | (split at h <;> first | rfl | exact h.elim) | (obtain ⟨_, rfl, _⟩ := h; rfl) | (obtain ⟨_, _, rfl, _⟩ := h; rfl) | (obtain ⟨_, _, _, rfl, _⟩ := h; rfl) | (obtain ⟨_, _, _, _, rfl, _⟩ := h; rfl) | (obtain ⟨_, _, _, _, _, rfl, _⟩ := h; rfl) | (obtain ⟨_, _, _, _, _, _, rfl, _⟩ := h; rfl)
  · have tk : Takes (cxOf (L2.CX P w) P w K mg base ["word", "sign"] "is_number" (defScope s_is_number) (He.ga K "is_number") cdv A outer s H E) (fun cls d _ H => E cls d H) := takes_of rfl rfl rfl rfl
    refine ⟨_, _, (qs_one (qs_ret (q_and (q_cmp (or_neQ (by exact hr.units)) o_ne (q_var 0) q_str (by first | exact nomark _ | rfl)) (q_and (q_callB (cr_all rfl) c_all (by exact rfl) T.z_all (by decide +kernel) (qa_cons (QN.qe (qn_lcB [("sign", 1)] (by exact rfl) (by exact sc.nd) (qi_str (q_var 0)) (blkOk_by (by kernel_rfl)) (fun _ _ _ _ _ => (qg_name (i := 1) (by exact sc.nd) (by exact rfl) (by first | exact Or.inl rfl | exact Or.inr rfl) (by decide) (by first | exact .inl rfl | exact .inr rfl | assumption))) (fun _ _ _ _ _ => qts_nil) (fun _ _ _ _ _ => (q_cmp op_in_sign o_inSign (q_var 1) (q_glob (v := V.str (Str.ofString "0123456789")) (d := D.str (Str.ofString "0123456789")) (by exact rfl) h_DIGITS ⟨_, rfl⟩ (by exact rfl) (by decide)) (by first | exact nomark _ | rfl))) (by intro _; rfl) (by intros; rfl) (by intros; rfl) (by intros; rfl))) qa_nil (by rfl)) (by decide) (by decide) (by rfl) (by rfl)) (q_one (q_or (q_cmp (or_eqQ (by exact hr.units)) o_eq (q_var 0) q_str (by first | exact nomark _ | rfl)) (q_one (q_cmp (or_neQ (by exact hr.units)) o_ne (q_itS (q_var 0) q_int (by exact fun _ _ => rfl)) q_str (by first | exact nomark _ | rfl))))))))), fun as k x h => ?_⟩
    clear tk hr hgd Fn sc T
    obtain ⟨w, rfl, hw, h⟩ := h
    unfold isNum at h
    walk_at "q"
    refine cIf_i (fun h1 => ?_) (fun h1 => ?_)
    · walk_at "q"
      rw [decide_eq_true h1] at h
      exact h
    rw [decide_eq_false h1] at h
    replace h : k (.sh (.bl ((((TL.tl w).all fun c => decide (c ∈ (Str.ofString "0123456789").cps.toList)) && (decide (w = Str.ofString "0") || !decide (sgn ((TL.tl w).headD 0) = Str.ofString "0")))))) := h
    walk_at "q"
    unfold Q.signs
    refine comp_on (fun c => .str (sgn c)) (fun _ => true) (fun c => .bl (decide (c ∈ (Str.ofString "0123456789").cps.toList))) (fun n c acc X hd hn hl g1 g2 => ?_) ?_
    · unfold compStep
      walk_at "q"
      rw [Array.length_toList] at hn
      have hw' : w.cps.size ≤ 9000000 := hw
      exact ⟨by omega, g1 rfl⟩
    rw [filter_tt]
    walk_at "q"
    refine cIf_b (fun h2 => ?_) (fun h2 => ?_)
    rotate_left
    · walk_at "q"
      rw [show (TL.tl w).all (fun c => decide (c ∈ (Str.ofString "0123456789").cps.toList)) = false from h2] at h
      exact h
    rw [show (TL.tl w).all (fun c => decide (c ∈ (Str.ofString "0123456789").cps.toList)) = true from h2] at h
    replace h : k (.sh (.bl (decide (w = Str.ofString "0") || !decide (sgn ((TL.tl w).headD 0) = Str.ofString "0")))) := h
    walk_at "q"
    refine cIf_i (fun h3 => ?_) (fun h3 => ?_)
    · walk_at "q"
      rw [decide_eq_true h3] at h
      exact h
    rw [decide_eq_false h3] at h
    have ne : TL.tl w ≠ [] := fun e => h1 (TL.ext_tl (by rw [e, TL.tl_ofString]; rfl))
    obtain ⟨c, r, e⟩ := List.exists_cons_of_ne_nil ne
    have e0 : w.cps[0]? = some c := by
      rw [← Array.getElem?_toList]
      show (TL.tl w)[0]? = _
      rw [e]; rfl
    have hp : 0 < w.length := by rw [TL.len_tl, e]; simp
    rw [e] at h
    walk_at "q"
    exact ⟨by omega, c, e0, h⟩
theorem cal_is_number (T : Tx K mg) : Cal P w K mg base g 1 "is_number" [] sp_is_number := by
  obtain ⟨fd, G, Fn⟩ := fn_is_number (P := P) (w := w) (base := base) (g := g) T
  exact ⟨_, fd, _, [], G, T.g_is_number, Fn.kp, Fn.bindsN fun _ _ _ _ _ _ us hl => match us, hl with | [_], _ => rfl, .nil, rfl⟩
end

local macro_rules | `(tactic| walk_at "p") => `(tactic| (repeat (rw [pkV]; try walk_at "q")))
local macro_rules | `(tactic| walk_at "len") => `(tactic| (first | omega | (simp only [List.length_map, List.length_append, List.length_reverse, List.length_take, List.length_drop, List.length_dropLast, List.length_cons, List.length_nil, List.length_set, List.length_replicate, dist_length, nxt_length, idsD_length, numbered_length, ranged_length, upto_length]; omega)))
local macro_rules | `(tactic| walk_at "q") => `(tactic| (try simp only [↓hold1, ↓hold2, ↓cIf_t, ↓cIf_f, ↓lk0, ↓lk1, ↓st0, ↓st1, ↓wp0, ↓wp1, ↓wpm, ↓wpn, ↓sD_sh, ↓sD_own, ↓sD_bor, ↓rd_d, ↓rd_p, ↓dB_b, ↓dI_i, ↓dX_x, ↓dK_i, ↓dK_s, ↓dL_l, ↓dIt_l, ↓dIt_t, ↓dIt_s, ↓shS_sh, ↓shS_own, ↓shS_bor, ↓sh1_d, ↓sh1_p, ↓shs0, ↓shs1, ↓ress0, ↓ress1, ↓bagS_b, ↓arg_bor, ↓arg_sh, ↓arg_bag, ↓args0, ↓args1, ↓ap0, ↓ap0', ↓ap1, ↓reS_sh, ↓reS_own, ↓reS_bor, ↓ret_d, ↓ret_p, ↓asS_sh, ↓asS_own, ↓asS_bor, ↓as_d, ↓as_p, ↓rv_sh, ↓rv_own, ↓da_sh, ↓da_own, ↓itS_sh, ↓itS_own, ↓itS_bor, ↓it_d, ↓it_p, ↓e_var, ↓e_sh, ↓e_own, ↓e_bor, ↓e_bag, ↓e_c, ↓e_op, ↓e_opN, ↓e_opR, ↓e_test, ↓e_and, ↓e_or, ↓e_not, ↓e_andV, ↓e_orV, ↓e_notV, ↓e_ifE, ↓e_un, ↓e_nil, ↓e_cons, ↓e_cb, ↓e_cbN, ↓e_cbR, ↓e_ofN, ↓e_lst, ↓e_tup, ↓e_call, ↓e_callS, ↓e_next, ↓e_seq, ↓e_brk, ↓e_ct, ↓e_drop, ↓e_ret, ↓e_retN, ↓e_ret0, ↓e_if, ↓e_set, ↓e_setN, ↓e_aug, ↓e_raise, ↓e_name, ↓e_gnil, ↓e_gcons, ↓e_gtup, ↓e_for, ↓e_seqI, ↓e_enum, ↓rg1_i, ↓rg2_i, ↓e_rng1, ↓e_rng2, ↓e_lc, ↓e_yes, ↓e_onone, ↓e_osome, ↓e_sl, ↓e_isi, ↓e_isi2, ↓ownL_l, ↓ownA_l, ↓sO_o, ↓e_meth, ↓e_meth0, ↓e_dnew, ↓e_dget, ↓e_din, ↓e_dput, ↓e_lput, ↓e_lenSet, ↓e_chain, ↓e_par, ↓e_asgT, ↓e_rev, ↓e_lenD, ↓e_toN, ↓e_parN, ↓e_getD, ↓e_rdm, ↓ok_l, ↓ok_r, ↓ok_s, ↓f_inC, ↓f_notInC, ↓f_inI, ↓f_notInI, ↓f_inIT, ↓f_inS, ↓f_notInS, ↓f_count, ↓rvO_o, ↓pkC0, ↓pkC_sh, ↓pkC_own, ↓pkC_bor, ↓pkC_bag, ↓pkC_no, ↓e_box, ↓e_nsNil, ↓e_nsCons, ↓e_bTest, ↓allL0, ↓allL1, ↓e_bLoop, ↓f_ix0, ↓f_ix1, ↓f_ix2, ↓f_ix3, ↓f_ix4, ↓f_ixT0, ↓f_ixT1, ↓f_ixT2, ↓f_ixT3, ↓f_ixT4, ↓e_loopC, ↓e_loopN, ↓e_step, ↓e_exI, ↓e_toI, ↓e_LAll, ↓f_eqW1, ↓f_eqW2, ↓f_eqW3, ↓f_sLstS, ↓f_sLstB, ↓e_zip, ↓f_zipL, ↓f_dictP, ↓f_dictD, ↓f_sortI, ↓e_dct1, ↓f_eqNN, ↓e_sortSet, ↓f_dSeqL, ↓f_dSeqT, ↓e_lenSetS, ↓f_notScrL, ↓f_notScrT, ↓f_mulS, ↓f_eqSL, ↓f_neSL, ↓f_eqSNil, ↓f_neSNil, ↓f_neNN, ↓f_notInST, ↓f_notIn3, ↓e_dc, ↓e_lstRg1, ↓e_lstRg2, ↓f_isNo, ↓e_lcO, ↓f_dLTl, ↓f_dLTt, ↓e_tupSh, ↓e_callSD, ↓f_ltQI, ↓f_ltQL, ↓f_join, ↓f_split, ↓f_intS, ↓f_inSign, ↓f_notInSign, ↓f_itS, ↓e_dS, ↓e_strI, ↓e_ifN, ↓e_fmtS, ↓e_fmtI, ↓e_fmt, ↓e_fs, ↓e_js0, ↓e_js1, ↓e_never, ↓f_sub, ↓f_mod, ↓f_div, ↓f_divW, ↓f_pow, ↓f_lt, ↓f_le, ↓f_gt, ↓f_ge, ↓f_addI, ↓f_addS, ↓f_addL, ↓f_mulI, ↓f_mulL, ↓f_eqI, ↓f_neI, ↓f_eqS, ↓f_neS, ↓f_eqB, ↓f_neB, ↓f_isN, ↓f_isNotN, ↓f_lenL, ↓f_lenT, ↓f_lenR, ↓f_lenS, ↓f_min, ↓f_max, ↓f_abs, ↓f_intI, ↓f_intB, ↓f_strI, ↓f_listL, ↓f_listT, ↓f_listS, ↓f_tupL, ↓f_repr, ↓f_slL, ↓f_slR, ↓f_slT, ↓f_app, ↓f_pop, ↓f_popAt, ↓f_ext, ↓f_ins, ↓f_allM, ↓f_anyM, ↓f_sumM, ↓f_eqIL, ↓f_neIL, ↓f_eqIT, ↓f_neIT, ↓f_eqNil, ↓f_neNil, ↓f_neg, ↓f_clear, ↓e_is_integer, ↓e_is_integerN, ↓e_is_sequence, ↓e_is_distances, ↓e_is_number, ty_int_n, ty_int_b, ty_int_i, ty_int_s, ty_int_l, ty_int_t, ty_int_r, ty_int_d, ty_bool_n, ty_bool_b, ty_bool_i, ty_bool_s, ty_bool_l, ty_bool_t, ty_bool_r, ty_bool_d, ty_str_n, ty_str_b, ty_str_i, ty_str_s, ty_str_l, ty_str_t, ty_str_r, ty_str_d, ty_list_n, ty_list_b, ty_list_i, ty_list_s, ty_list_l, ty_list_t, ty_list_r, ty_list_d, ty_tuple_n, ty_tuple_b, ty_tuple_i, ty_tuple_s, ty_tuple_l, ty_tuple_t, ty_tuple_r, ty_tuple_d, ty_dict_n, ty_dict_b, ty_dict_i, ty_dict_s, ty_dict_l, ty_dict_t, ty_dict_r, ty_dict_d, cIf_t, cIf_f, cIf_n, isSc_n, isSc_b, isSc_i, isSc_s, ex_some, Int.reduceLT, Int.reduceLE, Int.reduceGT, Int.reduceGE, Int.reduceEq, Int.reduceNe, Int.reduceAdd, Int.reduceSub, Int.reduceMul, Int.reduceNeg, Int.reduceToNat, Int.reducePow, Nat.reduceLT, Nat.reduceAdd, Nat.reduceSub, Nat.reduceLeDiff, Nat.reduceEqDiff, Nat.reduceMul, Int.cast_ofNat_Int, true_or, true_and, and_true, List.length_cons, List.length_nil, List.length_map, n_n, n_b, n_i, n_s, n_l, n_t, se_c, se_n, se_0, ar_b, ar_s, ar_g, Bool.or_true, Bool.true_or, Bool.or_false, Bool.false_or, Bool.and_true, Bool.true_and, Bool.and_false, Bool.false_and, Bool.not_true, Bool.not_false, Bool.not_not, decide_true, decide_false, int_app, filter_tt, eq_self, Option.map_some, Option.map_none, Option.isSome_some, Option.isSome_none, Bool.false_eq_true, if_false, if_true, Nat.zero_add, Int.zero_add, Int.add_zero, Int.sub_zero, List.map_nil, List.nil_append, List.append_nil, int_rev, int_take, int_drop, int_dropLast, int_appL, e_toI, e_is_integer, e_is_integerN, e_is_sequence, e_is_distances, e_is_number]))

/-! ### list_text -/
def sp_list_text : Spq := fun as k _ => ∃ (d : D) (ns : List Int), as = [.bor d] ∧ ((d = .lst (ns.map .int) ∨ d = .tup (ns.map .int)) ∧ ns.length ≤ 100000 ∧ ∀ i ∈ ns, 0 ≤ i ∧ i < 10 ^ 40) ∧ k (.sh (.str (listT ns)))
section
variable {P : Program} {w : World} {K : Fg} {mg : Str → Option Value} {base : Heap} {g : Gd}
theorem sc_list_text : FnScope ["distances", "back"] ["distances"] (defScope s_list_text) := ⟨rfl, rfl, rfl, by decide +kernel, rfl, by decide +kernel, by decide +kernel⟩
theorem fn_list_text (T : Tx K mg) : ∃ fd, FnG P w K mg base 1 (He.ga K "list_text") fd ["distances"] (spQ K mg g sp_list_text) ∧ FunD K "list_text" "list_text" (defArgs s_list_text) (defBody s_list_text) (defScope s_list_text) [] [] (He.ga K "list_text") fd := by
  have sc := sc_list_text
  obtain ⟨t_EMPTY_LIST, h_EMPTY_LIST⟩ := T.c_EMPTY_LIST
  obtain ⟨fd, Fn⟩ := T.f_list_text
  refine ⟨fd, fn_q g Fn sc (by decide) (fun as k x h => ?_) fun cdv A outer s H E hgd hr => ?_, Fn⟩
  · unfold sp_list_text at h; first | (split at h <;> first | rfl | exact h.elim) | (obtain ⟨_, rfl, _⟩ := h; rfl) | (obtain ⟨_, _, rfl, _⟩ := h; rfl) | (obtain ⟨_, _, _, rfl, _⟩ := h; rfl) | (obtain ⟨_, _, _, _, rfl, _⟩ := h; rfl) | (obtain ⟨_, _, _, _, _, rfl, _⟩ := h; rfl) | (obtain ⟨_, _, _, _, _, _, rfl, _⟩ := h; rfl)
  · have tk : Takes (cxOf (L2.CX P w) P w K mg base ["distances", "back"] "list_text" (defScope s_list_text) (He.ga K "list_text") cdv A outer s H E) (fun cls d _ H => E cls d H) := takes_of rfl rfl rfl rfl
    refine ⟨_, _, (qs_one (qs_ret (q_ifExp (qt_cmp op_gt o_gt (q_callB call_len c_len (by exact rfl) T.z_len (by decide +kernel) (qa_cons (q_var 0) qa_nil (by rfl)) (by decide) (by decide) (by rfl) (by rfl)) q_int (by first | exact nomark _ | rfl)) (QN.qe (qn_rdm PySem.F.plainAttrs_str PySem.F.slot_str_join PySem.F.type_str_join mt_join m_join q_str (qa_cons (QN.qe (qn_lcB [("back", 1)] (by exact rfl) (by exact sc.nd) (qi_seq (q_var 0)) (blkOk_by (by kernel_rfl)) (fun _ _ _ _ _ => (qg_name (i := 1) (by exact sc.nd) (by exact rfl) (by first | exact Or.inl rfl | exact Or.inr rfl) (by decide) (by first | exact .inl rfl | exact .inr rfl | assumption))) (fun _ _ _ _ _ => qts_nil) (fun _ _ _ _ _ => (q_callTy call_str_int c_str (by exact rfl) T.z_str (by decide +kernel) (qa_cons (q_var 1) qa_nil (by rfl)) (by decide) (by decide) (by rfl) (by rfl))) (by intro _; rfl) (by intros; rfl) (by intros; rfl) (by intros; rfl))) qa_nil (by rfl)) (by rfl) (by rfl) (by rfl) (by rfl) (by rfl))) (q_glob (v := V.str (Str.ofString "none")) (d := D.str (Str.ofString "none")) (by exact rfl) h_EMPTY_LIST ⟨_, rfl⟩ (by exact rfl) (by decide))))), fun as k x h => ?_⟩
    clear tk hr hgd Fn sc T
    obtain ⟨d, ns, rfl, ⟨hd, hl, hb⟩, h⟩ := h
    rcases hd with rfl | rfl
    · walk_at "q"
      refine cIf_i (fun h1 => ?_) (fun h1 => ?_)
      · walk_at "q"
        have ne : ns ≠ [] := fun e => by rw [e] at h1; simp at h1
        refine comp_on D.int (fun _ => true) (fun i => .str (numT i.toNat)) (fun n i acc X hd hn hl2 g1 g2 => ?_) ?_
        · obtain ⟨b0, b1⟩ := hb i (List.mem_of_getElem? hd)
          unfold compStep
          walk_at "q"
          refine ⟨log_small b0 (Int.lt_trans b1 (by decide)), ?_⟩
          rw [numT_of i b0]
          exact ⟨by omega, g1 rfl⟩
        rw [filter_tt, show (ns.map fun i => D.str (numT i.toNat)) = (ns.map fun i => numT i.toNat).map D.str by rw [List.map_map]; rfl]
        unfold listT at h
        rw [if_neg ne] at h
        walk_at "q"
        have h2 := sum_le (ys := ns.map fun i => numT i.toNat) (m := 40) fun y hy => by
          obtain ⟨i, hi, rfl⟩ := List.mem_map.mp hy
          obtain ⟨b0, b1⟩ := hb i hi
          exact numT_len (by omega) (by omega)
        rw [List.length_map] at h2
        exact ⟨by rw [len_sp]; omega, h⟩
      · walk_at "q"
        have e : ns = [] := by
          cases ns with
          | nil => rfl
          | cons a r => exact absurd (by simp) h1
        subst e
        exact h
    · walk_at "q"
      refine cIf_i (fun h1 => ?_) (fun h1 => ?_)
      · walk_at "q"
        have ne : ns ≠ [] := fun e => by rw [e] at h1; simp at h1
        refine comp_on D.int (fun _ => true) (fun i => .str (numT i.toNat)) (fun n i acc X hd hn hl2 g1 g2 => ?_) ?_
        · obtain ⟨b0, b1⟩ := hb i (List.mem_of_getElem? hd)
          unfold compStep
          walk_at "q"
          refine ⟨log_small b0 (Int.lt_trans b1 (by decide)), ?_⟩
          rw [numT_of i b0]
          exact ⟨by omega, g1 rfl⟩
        rw [filter_tt, show (ns.map fun i => D.str (numT i.toNat)) = (ns.map fun i => numT i.toNat).map D.str by rw [List.map_map]; rfl]
        unfold listT at h
        rw [if_neg ne] at h
        walk_at "q"
        have h2 := sum_le (ys := ns.map fun i => numT i.toNat) (m := 40) fun y hy => by
          obtain ⟨i, hi, rfl⟩ := List.mem_map.mp hy
          obtain ⟨b0, b1⟩ := hb i hi
          exact numT_len (by omega) (by omega)
        rw [List.length_map] at h2
        exact ⟨by rw [len_sp]; omega, h⟩
      · walk_at "q"
        have e : ns = [] := by
          cases ns with
          | nil => rfl
          | cons a r => exact absurd (by simp) h1
        subst e
        exact h
theorem cal_list_text (T : Tx K mg) : Cal P w K mg base g 1 "list_text" [] sp_list_text := by
  obtain ⟨fd, G, Fn⟩ := fn_list_text (P := P) (w := w) (base := base) (g := g) T
  exact ⟨_, fd, _, [], G, T.g_list_text, Fn.kp, Fn.bindsN fun _ _ _ _ _ _ us hl => match us, hl with | [_], _ => rfl, .nil, rfl⟩
end

/-! ### format_distances -/
def sp_format_distances : Spq := fun as k x => ∃ d, as = [.bor d] ∧ (∀ ns, d ≠ .scr ns) ∧ cIf (isDist d) (fun _ => k (.sh (.str (listT (nums d))))) (fun _ => x "InvalidDistances" [])
section
variable {P : Program} {w : World} {K : Fg} {mg : Str → Option Value} {base : Heap} {g : Gd}
theorem sc_format_distances : FnScope ["distances"] ["distances"] (defScope s_format_distances) := ⟨rfl, rfl, rfl, by decide +kernel, rfl, by decide +kernel, by decide +kernel⟩
theorem fn_format_distances (T : Tx K mg) : ∃ fd, FnG P w K mg base 3 (He.ga K "format_distances") fd ["distances"] (spQ K mg g sp_format_distances) ∧ FunD K "format_distances" "format_distances" (defArgs s_format_distances) (defBody s_format_distances) (defScope s_format_distances) [] [] (He.ga K "format_distances") fd := by
  have sc := sc_format_distances
  have C_is_distances : Cal P w K mg base g 2 "is_distances" [] sp_is_distances := cal_is_distances T
  have C_list_text : Cal P w K mg base g 1 "list_text" [] sp_list_text := cal_list_text T
  obtain ⟨fd, Fn⟩ := T.f_format_distances
  refine ⟨fd, fn_q g Fn sc (by decide) (fun as k x h => ?_) fun cdv A outer s H E hgd hr => ?_, Fn⟩
  · unfold sp_format_distances at h; first | (split at h <;> first | rfl | exact h.elim) | (obtain ⟨_, rfl, _⟩ := h; rfl) | (obtain ⟨_, _, rfl, _⟩ := h; rfl) | (obtain ⟨_, _, _, rfl, _⟩ := h; rfl) | (obtain ⟨_, _, _, _, rfl, _⟩ := h; rfl) | (obtain ⟨_, _, _, _, _, rfl, _⟩ := h; rfl) | (obtain ⟨_, _, _, _, _, _, rfl, _⟩ := h; rfl)
  · have tk : Takes (cxOf (L2.CX P w) P w K mg base ["distances"] "format_distances" (defScope s_format_distances) (He.ga K "format_distances") cdv A outer s H E) (fun cls d _ H => E cls d H) := takes_of rfl rfl rfl rfl
    refine ⟨_, _, (qs_cons (qs_if (qt_not (qt_val (QN.qe (qn_call [.bor] C_is_distances (by exact hgd) (by exact hr) (by omega) (by exact rfl) (qa_cons (q_var 0) qa_nil (by rfl)) (by decide) (by rfl) (by rfl))) (by intro _; rfl))) (qs_one (qs_raise T.e_InvalidDistances tk (by exact rfl) (by rfl) (by decide))) qs_nil)
      (qs_one (qs_retN (qn_call [.bor] C_list_text (by exact hgd) (by exact hr) (by omega) (by exact rfl) (qa_cons (q_var 0) qa_nil (by rfl)) (by decide) (by rfl) (by rfl))))), fun as k x h => ?_⟩
    clear tk hr hgd Fn sc T
    obtain ⟨d, rfl, hs, h⟩ := h
    walk_at "q"
    refine cIf_b (fun h1 => ?_) (fun h1 => ?_)
    rotate_left
    · rw [h1] at h
      walk_at "q"
      exact h
    rw [h1, cIf_t] at h
    obtain ⟨e1, e2⟩ := isDist_items h1
    have e3 := isDist_bd h1
    walk_at "q"
    refine ⟨d, nums d, rfl, ⟨?_, by omega, fun i hi => ⟨(e3 i hi).1, by have := (e3 i hi).2; omega⟩⟩, ?_⟩
    · cases d
      all_goals first | (cases h1; done) | (exact absurd rfl (hs _)) | (exact .inl (congrArg D.lst e1)) | (exact .inr (congrArg D.tup e1))
    · walk_at "q"
      exact h
theorem cal_format_distances (T : Tx K mg) : Cal P w K mg base g 3 "format_distances" [] sp_format_distances := by
  obtain ⟨fd, G, Fn⟩ := fn_format_distances (P := P) (w := w) (base := base) (g := g) T
  exact ⟨_, fd, _, [], G, T.g_format_distances, Fn.kp, Fn.bindsN fun _ _ _ _ _ _ us hl => match us, hl with | [_], _ => rfl, .nil, rfl⟩
end

/-! ### first_bad_word -/
def sp_first_bad_word : Spq := fun as k x => ∃ (t : Str), as = [.bor (.str t)] ∧ ((t.length ≤ 9000000 ∧ ∀ w ∈ Txt.split t (Str.ofString " "), w.length ≤ 9000000) ∧ (k (.sh (badI (Txt.split t (Str.ofString " "))))))
theorem e_first_bad_word {t : Str} {k : Rv → Prop} {x : Str → List D → Prop} : sp_first_bad_word [.bor (.str t)] k x = ((t.length ≤ 9000000 ∧ ∀ w ∈ Txt.split t (Str.ofString " "), w.length ≤ 9000000) ∧ (k (.sh (badI (Txt.split t (Str.ofString " ")))))) := propext ⟨fun h => (by
  obtain ⟨t2, h, q⟩ := h
  simp only [List.cons.injEq, Ar.bor.injEq, Ar.sh.injEq, Ar.bag.injEq, D.lst.injEq, D.tup.injEq, D.int.injEq, D.str.injEq, D.bl.injEq, ints_inj, strs_inj, and_true, true_and] at h
  subst h
  exact q), fun q => ⟨_, rfl, q⟩⟩

section
variable {P : Program} {w : World} {K : Fg} {mg : Str → Option Value} {base : Heap} {g : Gd}
theorem sc_first_bad_word : FnScope ["text", "index", "word"] ["text"] (defScope s_first_bad_word) := ⟨rfl, rfl, rfl, by decide +kernel, rfl, by decide +kernel, by decide +kernel⟩
theorem fn_first_bad_word (T : Tx K mg) : ∃ fd, FnG P w K mg base 2 (He.ga K "first_bad_word") fd ["text"] (spQ K mg g sp_first_bad_word) ∧ FunD K "first_bad_word" "first_bad_word" (defArgs s_first_bad_word) (defBody s_first_bad_word) (defScope s_first_bad_word) [] [] (He.ga K "first_bad_word") fd := by
  have sc := sc_first_bad_word
  have C_is_number : Cal P w K mg base g 1 "is_number" [] sp_is_number := cal_is_number T
  obtain ⟨fd, Fn⟩ := T.f_first_bad_word
  refine ⟨fd, fn_q g Fn sc (by decide) (fun as k x h => ?_) fun cdv A outer s H E hgd hr => ?_, Fn⟩
  · unfold sp_first_bad_word at h; first | (split at h <;> first | rfl | exact h.elim) | (obtain ⟨_, rfl, _⟩ := h; rfl) | (obtain ⟨_, _, rfl, _⟩ := h; rfl) | (obtain ⟨_, _, _, rfl, _⟩ := h; rfl) | (obtain ⟨_, _, _, _, rfl, _⟩ := h; rfl) | (obtain ⟨_, _, _, _, _, rfl, _⟩ := h; rfl) | (obtain ⟨_, _, _, _, _, _, rfl, _⟩ := h; rfl)
  · have tk : Takes (cxOf (L2.CX P w) P w K mg base ["text", "index", "word"] "first_bad_word" (defScope s_first_bad_word) (He.ga K "first_bad_word") cdv A outer s H E) (fun cls d _ H => E cls d H) := takes_of rfl rfl rfl rfl
    refine ⟨_, _, (qs_cons (qs_for [1, 2] (qi_enum (by exact rfl) T.z_enumerate (QN.qe (qn_rdm PySem.F.plainAttrs_str PySem.F.slot_str_split PySem.F.type_str_split mt_split m_split (q_var 0) (qa_cons q_str qa_nil (by rfl)) (by rfl) (by rfl) (by rfl) (by rfl) (by rfl))) (by rfl)) (qg_tup (n := 2) (by exact rfl) (qgs_cons (qg_name (i := 1) (by exact sc.nd) (by exact rfl) (by first | exact Or.inl rfl | exact Or.inr rfl) (by decide) (by first | exact .inl rfl | exact .inr rfl | assumption)) (qgs_cons (qg_name (i := 2) (by exact sc.nd) (by exact rfl) (by first | exact Or.inl rfl | exact Or.inr rfl) (by decide) (by first | exact .inl rfl | exact .inr rfl | assumption)) qgs_nil (by rfl)) (by rfl)) (by rfl) (by rfl))
      (qs_one (qs_if (qt_not (qt_val (QN.qe (qn_call [.bor] C_is_number (by exact hgd) (by exact hr) (by omega) (by exact rfl) (qa_cons (q_var 2) qa_nil (by rfl)) (by decide) (by rfl) (by rfl))) (by intro _; rfl))) (qs_one (qs_ret (q_var 1))) qs_nil)) (passes_of (by exact rfl)) (by rfl) (by intro _; rfl))
      (qs_one (qs_ret q_non))), fun as k x h => ?_⟩
    clear tk hr hgd Fn sc T
    obtain ⟨t, rfl, ⟨hw, hw2⟩, h⟩ := h
    walk_at "q"
    refine ⟨by rw [len_sp]; rfl, hw, ?_⟩
    generalize Txt.split t (Str.ofString " ") = ws at hw2 h ⊢
    refine loopJ (fun m env => ∃ s1 s2, env = [.bor (.str t), s1, s2] ∧ ∀ i (hi : i < ws.length), i < m → isNum ws[i] = true) ⟨_, _, rfl, fun i hi hm => by omega⟩ (fun m d env X hd hJ hX => ?_) fun env hJ => ?_
    · obtain ⟨s1, s2, rfl, hJ⟩ := hJ
      obtain ⟨e, he, rfl⟩ := num_get hd
      obtain ⟨w, hwm, rfl⟩ := strs_get he
      obtain ⟨hm, hm2⟩ := List.getElem?_eq_some_iff.mp hwm
      walk_at "q"
      refine ⟨hw2 w (List.mem_of_getElem? hwm), ?_⟩
      walk_at "q"
      refine cIf_b (fun h4 => ?_) (fun h4 => ?_)
      · walk_at "q"
        refine hX _ ⟨_, _, rfl, fun i hi h5 => ?_⟩
        rcases Nat.lt_or_ge i m with h6 | h6
        · exact hJ i hi h6
        · have e6 : i = m := by omega
          subst e6
          rw [hm2]; exact h4
      · walk_at "q"
        have e7 : badI ws = .int (m : Nat) := by
          unfold badI
          rw [List.findIdx?_eq_some_iff_getElem.mpr ⟨hm, by rw [hm2, h4]; rfl, fun j hj => by rw [hJ j (by omega) hj]; simp⟩]
        rw [e7] at h
        exact h
    · obtain ⟨s1, s2, rfl, hJ⟩ := hJ
      walk_at "q"
      rw [numbered_length, List.length_map] at hJ
      rw [badI_none fun w hwm => ?_] at h
      · exact h
      · obtain ⟨i, hi, rfl⟩ := List.mem_iff_getElem.mp hwm
        exact hJ i hi hi
theorem cal_first_bad_word (T : Tx K mg) : Cal P w K mg base g 2 "first_bad_word" [] sp_first_bad_word := by
  obtain ⟨fd, G, Fn⟩ := fn_first_bad_word (P := P) (w := w) (base := base) (g := g) T
  exact ⟨_, fd, _, [], G, T.g_first_bad_word, Fn.kp, Fn.bindsN fun _ _ _ _ _ _ us hl => match us, hl with | [_], _ => rfl, .nil, rfl⟩
end

local macro_rules | `(tactic| walk_at "p") => `(tactic| (repeat (rw [pkV]; try walk_at "q")))
local macro_rules | `(tactic| walk_at "len") => `(tactic| (first | omega | (simp only [List.length_map, List.length_append, List.length_reverse, List.length_take, List.length_drop, List.length_dropLast, List.length_cons, List.length_nil, List.length_set, List.length_replicate, dist_length, nxt_length, idsD_length, numbered_length, ranged_length, upto_length]; omega)))
local macro_rules | `(tactic| walk_at "q") => `(tactic| (try simp only [↓hold1, ↓hold2, ↓cIf_t, ↓cIf_f, ↓lk0, ↓lk1, ↓st0, ↓st1, ↓wp0, ↓wp1, ↓wpm, ↓wpn, ↓sD_sh, ↓sD_own, ↓sD_bor, ↓rd_d, ↓rd_p, ↓dB_b, ↓dI_i, ↓dX_x, ↓dK_i, ↓dK_s, ↓dL_l, ↓dIt_l, ↓dIt_t, ↓dIt_s, ↓shS_sh, ↓shS_own, ↓shS_bor, ↓sh1_d, ↓sh1_p, ↓shs0, ↓shs1, ↓ress0, ↓ress1, ↓bagS_b, ↓arg_bor, ↓arg_sh, ↓arg_bag, ↓args0, ↓args1, ↓ap0, ↓ap0', ↓ap1, ↓reS_sh, ↓reS_own, ↓reS_bor, ↓ret_d, ↓ret_p, ↓asS_sh, ↓asS_own, ↓asS_bor, ↓as_d, ↓as_p, ↓rv_sh, ↓rv_own, ↓da_sh, ↓da_own, ↓itS_sh, ↓itS_own, ↓itS_bor, ↓it_d, ↓it_p, ↓e_var, ↓e_sh, ↓e_own, ↓e_bor, ↓e_bag, ↓e_c, ↓e_op, ↓e_opN, ↓e_opR, ↓e_test, ↓e_and, ↓e_or, ↓e_not, ↓e_andV, ↓e_orV, ↓e_notV, ↓e_ifE, ↓e_un, ↓e_nil, ↓e_cons, ↓e_cb, ↓e_cbN, ↓e_cbR, ↓e_ofN, ↓e_lst, ↓e_tup, ↓e_call, ↓e_callS, ↓e_next, ↓e_seq, ↓e_brk, ↓e_ct, ↓e_drop, ↓e_ret, ↓e_retN, ↓e_ret0, ↓e_if, ↓e_set, ↓e_setN, ↓e_aug, ↓e_raise, ↓e_name, ↓e_gnil, ↓e_gcons, ↓e_gtup, ↓e_for, ↓e_seqI, ↓e_enum, ↓rg1_i, ↓rg2_i, ↓e_rng1, ↓e_rng2, ↓e_lc, ↓e_yes, ↓e_onone, ↓e_osome, ↓e_sl, ↓e_isi, ↓e_isi2, ↓ownL_l, ↓ownA_l, ↓sO_o, ↓e_meth, ↓e_meth0, ↓e_dnew, ↓e_dget, ↓e_din, ↓e_dput, ↓e_lput, ↓e_lenSet, ↓e_chain, ↓e_par, ↓e_asgT, ↓e_rev, ↓e_lenD, ↓e_toN, ↓e_parN, ↓e_getD, ↓e_rdm, ↓ok_l, ↓ok_r, ↓ok_s, ↓f_inC, ↓f_notInC, ↓f_inI, ↓f_notInI, ↓f_inIT, ↓f_inS, ↓f_notInS, ↓f_count, ↓rvO_o, ↓pkC0, ↓pkC_sh, ↓pkC_own, ↓pkC_bor, ↓pkC_bag, ↓pkC_no, ↓e_box, ↓e_nsNil, ↓e_nsCons, ↓e_bTest, ↓allL0, ↓allL1, ↓e_bLoop, ↓f_ix0, ↓f_ix1, ↓f_ix2, ↓f_ix3, ↓f_ix4, ↓f_ixT0, ↓f_ixT1, ↓f_ixT2, ↓f_ixT3, ↓f_ixT4, ↓e_loopC, ↓e_loopN, ↓e_step, ↓e_exI, ↓e_toI, ↓e_LAll, ↓f_eqW1, ↓f_eqW2, ↓f_eqW3, ↓f_sLstS, ↓f_sLstB, ↓e_zip, ↓f_zipL, ↓f_dictP, ↓f_dictD, ↓f_sortI, ↓e_dct1, ↓f_eqNN, ↓e_sortSet, ↓f_dSeqL, ↓f_dSeqT, ↓e_lenSetS, ↓f_notScrL, ↓f_notScrT, ↓f_mulS, ↓f_eqSL, ↓f_neSL, ↓f_eqSNil, ↓f_neSNil, ↓f_neNN, ↓f_notInST, ↓f_notIn3, ↓e_dc, ↓e_lstRg1, ↓e_lstRg2, ↓f_isNo, ↓e_lcO, ↓f_dLTl, ↓f_dLTt, ↓e_tupSh, ↓e_callSD, ↓f_ltQI, ↓f_ltQL, ↓f_join, ↓f_split, ↓f_intS, ↓f_inSign, ↓f_notInSign, ↓f_itS, ↓e_dS, ↓e_strI, ↓e_ifN, ↓e_fmtS, ↓e_fmtI, ↓e_fmt, ↓e_fs, ↓e_js0, ↓e_js1, ↓e_never, ↓f_sub, ↓f_mod, ↓f_div, ↓f_divW, ↓f_pow, ↓f_lt, ↓f_le, ↓f_gt, ↓f_ge, ↓f_addI, ↓f_addS, ↓f_addL, ↓f_mulI, ↓f_mulL, ↓f_eqI, ↓f_neI, ↓f_eqS, ↓f_neS, ↓f_eqB, ↓f_neB, ↓f_isN, ↓f_isNotN, ↓f_lenL, ↓f_lenT, ↓f_lenR, ↓f_lenS, ↓f_min, ↓f_max, ↓f_abs, ↓f_intI, ↓f_intB, ↓f_strI, ↓f_listL, ↓f_listT, ↓f_listS, ↓f_tupL, ↓f_repr, ↓f_slL, ↓f_slR, ↓f_slT, ↓f_app, ↓f_pop, ↓f_popAt, ↓f_ext, ↓f_ins, ↓f_allM, ↓f_anyM, ↓f_sumM, ↓f_eqIL, ↓f_neIL, ↓f_eqIT, ↓f_neIT, ↓f_eqNil, ↓f_neNil, ↓f_neg, ↓f_clear, ↓e_is_integer, ↓e_is_integerN, ↓e_is_sequence, ↓e_is_distances, ↓e_is_number, ↓e_first_bad_word, ty_int_n, ty_int_b, ty_int_i, ty_int_s, ty_int_l, ty_int_t, ty_int_r, ty_int_d, ty_bool_n, ty_bool_b, ty_bool_i, ty_bool_s, ty_bool_l, ty_bool_t, ty_bool_r, ty_bool_d, ty_str_n, ty_str_b, ty_str_i, ty_str_s, ty_str_l, ty_str_t, ty_str_r, ty_str_d, ty_list_n, ty_list_b, ty_list_i, ty_list_s, ty_list_l, ty_list_t, ty_list_r, ty_list_d, ty_tuple_n, ty_tuple_b, ty_tuple_i, ty_tuple_s, ty_tuple_l, ty_tuple_t, ty_tuple_r, ty_tuple_d, ty_dict_n, ty_dict_b, ty_dict_i, ty_dict_s, ty_dict_l, ty_dict_t, ty_dict_r, ty_dict_d, cIf_t, cIf_f, cIf_n, isSc_n, isSc_b, isSc_i, isSc_s, ex_some, Int.reduceLT, Int.reduceLE, Int.reduceGT, Int.reduceGE, Int.reduceEq, Int.reduceNe, Int.reduceAdd, Int.reduceSub, Int.reduceMul, Int.reduceNeg, Int.reduceToNat, Int.reducePow, Nat.reduceLT, Nat.reduceAdd, Nat.reduceSub, Nat.reduceLeDiff, Nat.reduceEqDiff, Nat.reduceMul, Int.cast_ofNat_Int, true_or, true_and, and_true, List.length_cons, List.length_nil, List.length_map, n_n, n_b, n_i, n_s, n_l, n_t, se_c, se_n, se_0, ar_b, ar_s, ar_g, Bool.or_true, Bool.true_or, Bool.or_false, Bool.false_or, Bool.and_true, Bool.true_and, Bool.and_false, Bool.false_and, Bool.not_true, Bool.not_false, Bool.not_not, decide_true, decide_false, int_app, filter_tt, eq_self, Option.map_some, Option.map_none, Option.isSome_some, Option.isSome_none, Bool.false_eq_true, if_false, if_true, Nat.zero_add, Int.zero_add, Int.add_zero, Int.sub_zero, List.map_nil, List.nil_append, List.append_nil, int_rev, int_take, int_drop, int_dropLast, int_appL, e_toI, e_is_integer, e_is_integerN, e_is_sequence, e_is_distances, e_is_number, e_first_bad_word]))

/-! ### parsed_list -/
def sp_parsed_list : Spq := fun as k _ => ∃ t : Str, as = [.bor (.str t)] ∧ (t.length ≤ 9000000 ∧ (Txt.split t (Str.ofString " ")).length ≤ 9000000 ∧ ∀ w ∈ Txt.split t (Str.ofString " "), w.length ≤ 640) ∧
  cIf (decide (t = Str.ofString "none")) (fun _ => k (.own (.lst []))) (fun _ => cIf ((Txt.split t (Str.ofString " ")).all isNum) (fun _ => k (.own (.lst (((Txt.split t (Str.ofString " ")).map numV).map .int)))) (fun _ => k (.sh .non)))
section
variable {P : Program} {w : World} {K : Fg} {mg : Str → Option Value} {base : Heap} {g : Gd}
theorem sc_parsed_list : FnScope ["text", "word"] ["text"] (defScope s_parsed_list) := ⟨rfl, rfl, rfl, by decide +kernel, rfl, by decide +kernel, by decide +kernel⟩
theorem fn_parsed_list (T : Tx K mg) : ∃ fd, FnG P w K mg base 3 (He.ga K "parsed_list") fd ["text"] (spQ K mg g sp_parsed_list) ∧ FunD K "parsed_list" "parsed_list" (defArgs s_parsed_list) (defBody s_parsed_list) (defScope s_parsed_list) [] [] (He.ga K "parsed_list") fd := by
  have sc := sc_parsed_list
  have C_first_bad_word : Cal P w K mg base g 2 "first_bad_word" [] sp_first_bad_word := cal_first_bad_word T
  obtain ⟨t_EMPTY_LIST, h_EMPTY_LIST⟩ := T.c_EMPTY_LIST
  obtain ⟨fd, Fn⟩ := T.f_parsed_list
  refine ⟨fd, fn_q g Fn sc (by decide) (fun as k x h => ?_) fun cdv A outer s H E hgd hr => ?_, Fn⟩
  · unfold sp_parsed_list at h; first | (split at h <;> first | rfl | exact h.elim) | (obtain ⟨_, rfl, _⟩ := h; rfl) | (obtain ⟨_, _, rfl, _⟩ := h; rfl) | (obtain ⟨_, _, _, rfl, _⟩ := h; rfl) | (obtain ⟨_, _, _, _, rfl, _⟩ := h; rfl) | (obtain ⟨_, _, _, _, _, rfl, _⟩ := h; rfl) | (obtain ⟨_, _, _, _, _, _, rfl, _⟩ := h; rfl)
  · have tk : Takes (cxOf (L2.CX P w) P w K mg base ["text", "word"] "parsed_list" (defScope s_parsed_list) (He.ga K "parsed_list") cdv A outer s H E) (fun cls d _ H => E cls d H) := takes_of rfl rfl rfl rfl
    refine ⟨_, _, (qs_cons (qs_if (qt_cmp (or_eqQ (by exact hr.units)) o_eq (q_var 0) (q_glob (v := V.str (Str.ofString "none")) (d := D.str (Str.ofString "none")) (by exact rfl) h_EMPTY_LIST ⟨_, rfl⟩ (by exact rfl) (by decide)) (by first | exact nomark _ | rfl)) (qs_one (qs_retN (qn_lst qa_nil))) qs_nil)
      (qs_one (qs_retN (qn_ifExp (qt_cmp op_isN o_is (QN.qe (qn_call [.bor] C_first_bad_word (by exact hgd) (by exact hr) (by omega) (by exact rfl) (qa_cons (q_var 0) qa_nil (by rfl)) (by decide) (by rfl) (by rfl))) q_non (by first | exact nomark _ | rfl)) (qn_lcB [("word", 1)] (by exact rfl) (by exact sc.nd) (qi_seq (QN.qe (qn_rdm PySem.F.plainAttrs_str PySem.F.slot_str_split PySem.F.type_str_split mt_split m_split (q_var 0) (qa_cons q_str qa_nil (by rfl)) (by rfl) (by rfl) (by rfl) (by rfl) (by rfl)))) (blkOk_by (by kernel_rfl)) (fun _ _ _ _ _ => (qg_name (i := 1) (by exact sc.nd) (by exact rfl) (by first | exact Or.inl rfl | exact Or.inr rfl) (by decide) (by first | exact .inl rfl | exact .inr rfl | assumption))) (fun _ _ _ _ _ => qts_nil) (fun _ _ _ _ _ => (q_callTy call_int_str c_intS (by exact rfl) T.z_int (by decide +kernel) (qa_cons (q_var 1) qa_nil (by rfl)) (by decide) (by decide) (by rfl) (by rfl))) (by intro _; rfl) (by intros; rfl) (by intros; rfl) (by intros; rfl)) (QE.toN q_non))))), fun as k x h => ?_⟩
    clear tk hr hgd Fn sc T
    obtain ⟨t, rfl, ⟨hw, hw3, hw2⟩, h⟩ := h
    walk_at "q"
    refine cIf_i (fun h1 => ?_) (fun h1 => ?_)
    · walk_at "q"
      rw [decide_eq_true h1] at h
      exact h
    rw [decide_eq_false h1] at h
    replace h : cIf ((Txt.split t (Str.ofString " ")).all isNum) (fun _ => k (.own (.lst (((Txt.split t (Str.ofString " ")).map numV).map .int)))) (fun _ => k (.sh .non)) := h
    walk_at "q"
    refine ⟨⟨hw, fun w hm => Nat.le_trans (hw2 w hm) (by omega)⟩, ?_⟩
    walk_at "q"
    generalize e : Txt.split t (Str.ofString " ") = ws at hw2 hw3 h ⊢
    by_cases h2 : ws.all isNum = true
    · rw [h2] at h
      rw [badI_none (List.all_eq_true.mp h2)]
      walk_at "q"
      refine ⟨by rw [len_sp]; rfl, hw, ?_⟩
      rw [e]
      refine comp_on D.str (fun _ => true) (fun w => .int (numV w)) (fun n w acc X hd hn hl2 g1 g2 => ?_) ?_
      · have hm := List.mem_of_getElem? hd
        unfold compStep
        walk_at "q"
        refine ⟨_, isNum_int (List.all_eq_true.mp h2 w hm) (hw2 w hm), hw2 w hm, ?_⟩
        walk_at "q"
        exact ⟨by omega, g1 rfl⟩
      rw [filter_tt]
      walk_at "q"
      rw [List.map_map] at h
      exact h
    · rw [show ws.all isNum = false by simpa using h2] at h
      replace h : k (.sh .non) := h
      refine cIf_r (badI_some (by simpa using h2)) ?_
      walk_at "q"
      exact h
theorem cal_parsed_list (T : Tx K mg) : Cal P w K mg base g 3 "parsed_list" [] sp_parsed_list := by
  obtain ⟨fd, G, Fn⟩ := fn_parsed_list (P := P) (w := w) (base := base) (g := g) T
  exact ⟨_, fd, _, [], G, T.g_parsed_list, Fn.kp, Fn.bindsN fun _ _ _ _ _ _ us hl => match us, hl with | [_], _ => rfl, .nil, rfl⟩
end

/-! ### parse_distances -/
def sp_parse_distances : Spq := fun as k _ => ∃ ns : List Int, as = [.bor (.str (listT ns))] ∧ (isDist (.lst (ns.map .int)) = true ∧ ns.length ≤ 400 ∧ ∀ i ∈ ns, 0 ≤ i ∧ i < 1000) ∧ k (.own (.lst (ns.map .int)))
section
variable {P : Program} {w : World} {K : Fg} {mg : Str → Option Value} {base : Heap} {g : Gd}
theorem sc_parse_distances : FnScope ["text", "found"] ["text"] (defScope s_parse_distances) := ⟨rfl, rfl, rfl, by decide +kernel, rfl, by decide +kernel, by decide +kernel⟩
theorem fn_parse_distances (T : Tx K mg) : ∃ fd, FnG P w K mg base 4 (He.ga K "parse_distances") fd ["text"] (spQ K mg g sp_parse_distances) ∧ FunD K "parse_distances" "parse_distances" (defArgs s_parse_distances) (defBody s_parse_distances) (defScope s_parse_distances) [] [] (He.ga K "parse_distances") fd := by
  have sc := sc_parse_distances
  have C_is_distances : Cal P w K mg base g 2 "is_distances" [] sp_is_distances := cal_is_distances T
  have C_parsed_list : Cal P w K mg base g 3 "parsed_list" [] sp_parsed_list := cal_parsed_list T
  obtain ⟨fd, Fn⟩ := T.f_parse_distances
  refine ⟨fd, fn_q g Fn sc (by decide) (fun as k x h => ?_) fun cdv A outer s H E hgd hr => ?_, Fn⟩
  · unfold sp_parse_distances at h; first | (split at h <;> first | rfl | exact h.elim) | (obtain ⟨_, rfl, _⟩ := h; rfl) | (obtain ⟨_, _, rfl, _⟩ := h; rfl) | (obtain ⟨_, _, _, rfl, _⟩ := h; rfl) | (obtain ⟨_, _, _, _, rfl, _⟩ := h; rfl) | (obtain ⟨_, _, _, _, _, rfl, _⟩ := h; rfl) | (obtain ⟨_, _, _, _, _, _, rfl, _⟩ := h; rfl)
  · have tk : Takes (cxOf (L2.CX P w) P w K mg base ["text", "found"] "parse_distances" (defScope s_parse_distances) (He.ga K "parse_distances") cdv A outer s H E) (fun cls d _ H => E cls d H) := takes_of rfl rfl rfl rfl
    refine ⟨_, _, (qs_cons (qs_if (qt_not (qt_val (q_isi (T := "str") (by exact rfl) T.z_isinstance (by exact rfl) T.z_str (by decide +kernel) (by exact rfl) (q_var 0) (by decide) (by decide) (by rfl)) (by intro _; rfl))) (qs_one qs_never) qs_nil)
      (qs_cons (qs_setN (i := 1) (by exact sc.nd) (by exact rfl) (Or.inl rfl) (qn_call [.bor] C_parsed_list (by exact hgd) (by exact hr) (by omega) (by exact rfl) (qa_cons (q_var 0) qa_nil (by rfl)) (by decide) (by rfl) (by rfl)) (by rfl) (by first | exact .inl rfl | exact .inr rfl | assumption))
      (qs_cons (qs_if (qt_cmp op_isN o_is (q_var 1) q_non (by first | exact nomark _ | rfl)) (qs_one qs_never) qs_nil)
      (qs_cons (qs_if (qt_not (qt_val (QN.qe (qn_call [.bor] C_is_distances (by exact hgd) (by exact hr) (by omega) (by exact rfl) (qa_cons (q_var 1) qa_nil (by rfl)) (by decide) (by rfl) (by rfl))) (by intro _; rfl))) (qs_one (qs_raise T.e_InvalidDistances tk (by exact rfl) (by rfl) (by decide))) qs_nil)
      (qs_one (qs_ret (q_var 1))))))), fun as k x h => ?_⟩
    clear tk hr hgd Fn sc T
    obtain ⟨ns, rfl, ⟨hd, hn, hb⟩, h⟩ := h
    walk_at "q"
    have hl := listT_len (ns := ns) (k := 3) (by omega) (fun i hi => by have := (hb i hi).2; omega)
    have fin : k (.own (.lst (ns.map .int))) → True := fun _ => trivial
    by_cases e : ns = []
    · subst e
      refine ⟨_, rfl, ⟨by omega, ?_⟩, ?_⟩
      · rw [show listT [] = Str.ofString "none" from rfl, split_none]
        refine ⟨by simp, fun w hw => ?_⟩
        rw [List.mem_singleton.mp hw, TL.len_tl, TL.tl_ofString]; decide
      · rw [decide_eq_true (show listT [] = Str.ofString "none" from rfl), cIf_t]
        walk_at "q"
        exact cIf_l hd (by walk_at "q"; exact h)
    · refine ⟨_, rfl, ⟨by omega, ?_⟩, ?_⟩
      · rw [split_listT e]
        refine ⟨by rw [List.length_map]; omega, fun w hw => ?_⟩
        obtain ⟨i, hi, rfl⟩ := List.mem_map.mp hw
        obtain ⟨b0, b1⟩ := hb i hi
        exact Nat.le_trans (numT_len (k := 3) (by omega) (by omega)) (by omega)
      · rw [decide_eq_false (listT_ne e), cIf_f, split_listT e, show (ns.map fun i => numT i.toNat).all isNum = true from List.all_eq_true.mpr fun w hw => by obtain ⟨i, _, rfl⟩ := List.mem_map.mp hw; exact isNum_num _, cIf_t]
        have e2 : (ns.map fun i => numT i.toNat).map numV = ns := by
          rw [List.map_map]
          refine (List.map_congr_left fun i hi => ?_).trans (List.map_id _)
          show numV (numT i.toNat) = i
          rw [numV_num, Int.toNat_of_nonneg (hb i hi).1]
        rw [e2]
        walk_at "q"
        exact cIf_l hd (by walk_at "q"; exact h)
theorem cal_parse_distances (T : Tx K mg) : Cal P w K mg base g 4 "parse_distances" [] sp_parse_distances := by
  obtain ⟨fd, G, Fn⟩ := fn_parse_distances (P := P) (w := w) (base := base) (g := g) T
  exact ⟨_, fd, _, [], G, T.g_parse_distances, Fn.kp, Fn.bindsN fun _ _ _ _ _ _ us hl => match us, hl with | [_], _ => rfl, .nil, rfl⟩
end

/-! ### _law_spring -/
def sp__law_spring : Spq := fun as k _ => ∃ ns, as = [.bor (.scr ns)] ∧ ns.length ≤ 63 ∧ ∀ dg sd, 0 ≤ dg → 0 ≤ sd → sd < 2 ^ 62 → k (.own (.lst [.int dg, .int sd, .int 0]))
section
variable {P : Program} {w : World} {K : Fg} {mg : Str → Option Value} {base : Heap} {g : Gd}
theorem sc__law_spring : FnScope ["_law_script", "_law_digits", "_law_seed", "_law_cell"] ["_law_script"] (defScope s__law_spring) := ⟨rfl, rfl, rfl, by decide +kernel, rfl, by decide +kernel, by decide +kernel⟩
theorem fn__law_spring (T : Tx K mg) : ∃ fd, FnG P w K mg base 1 (He.ga K "_law_spring") fd ["_law_script"] (spQ K mg g sp__law_spring) ∧ FunD K "_law_spring" "_law_spring" (defArgs s__law_spring) (defBody s__law_spring) (defScope s__law_spring) [] [] (He.ga K "_law_spring") fd := by
  have sc := sc__law_spring
  obtain ⟨fd, Fn⟩ := T.f__law_spring
  refine ⟨fd, fn_q g Fn sc (by decide) (fun as k x h => ?_) fun cdv A outer s H E hgd hr => ?_, Fn⟩
  · unfold sp__law_spring at h; first | (split at h <;> first | rfl | exact h.elim) | (obtain ⟨_, rfl, _⟩ := h; rfl) | (obtain ⟨_, _, rfl, _⟩ := h; rfl) | (obtain ⟨_, _, _, rfl, _⟩ := h; rfl) | (obtain ⟨_, _, _, _, rfl, _⟩ := h; rfl) | (obtain ⟨_, _, _, _, _, rfl, _⟩ := h; rfl) | (obtain ⟨_, _, _, _, _, _, rfl, _⟩ := h; rfl)
  · have tk : Takes (cxOf (L2.CX P w) P w K mg base ["_law_script", "_law_digits", "_law_seed", "_law_cell"] "_law_spring" (defScope s__law_spring) (He.ga K "_law_spring") cdv A outer s H E) (fun cls d _ H => E cls d H) := takes_of rfl rfl rfl rfl
    refine ⟨_, _, (qs_cons (qs_set (i := 1) (by exact sc.nd) (by exact rfl) (Or.inl rfl) q_int (by rfl) (by first | exact .inl rfl | exact .inr rfl | assumption))
      (qs_cons (qs_set (i := 2) (by exact sc.nd) (by exact rfl) (Or.inl rfl) q_int (by rfl) (by first | exact .inl rfl | exact .inr rfl | assumption))
      (qs_cons (qs_for [3] (qi_seq (QN.qe (qn_sl sl_Q o_sl (q_var 0) qo_none (qo_some q_int)))) (qg_name (i := 3) (by exact sc.nd) (by exact rfl) (by first | exact Or.inl rfl | exact Or.inr rfl) (by decide) (by first | exact .inl rfl | exact .inr rfl | assumption))
      (qs_cons (qs_if (qt_cmp op_ge o_ge (q_callB call_abs c_abs (by exact rfl) T.z_abs (by decide +kernel) (qa_cons (q_var 3) qa_nil (by rfl)) (by decide) (by decide) (by rfl) (by rfl)) (q_op op_pow o_pow q_int q_int) (by first | exact nomark _ | rfl)) (qs_one (qs_setN (i := 1) (by exact sc.nd) (by exact rfl) (Or.inl rfl) (qn_opR or_addQ o_add (QN.qe (qn_opR or_mulQ o_mul (q_var 1) (q_op op_pow o_pow q_int q_int))) (q_op op_mod o_mod (q_callB call_abs c_abs (by exact rfl) T.z_abs (by decide +kernel) (qa_cons (q_var 3) qa_nil (by rfl)) (by decide) (by decide) (by rfl) (by rfl)) (q_op op_pow o_pow q_int q_int))) (by rfl) (by first | exact .inl rfl | exact .inr rfl | assumption))) qs_nil)
      (qs_one (qs_set (i := 2) (by exact sc.nd) (by exact rfl) (Or.inl rfl) (q_op op_mod o_mod (QN.qe (qn_opR or_addQ o_add (QN.qe (qn_opR or_addQ o_add (QN.qe (qn_opR or_mulQ o_mul (q_var 2) q_int)) (q_op op_mod o_mod (q_var 3) q_int))) q_int)) q_int) (by rfl) (by first | exact .inl rfl | exact .inr rfl | assumption)))) (passes_of (by exact rfl)) (by rfl) (by intro _; rfl))
      (qs_one (qs_retN (qn_lst (qa_cons (q_var 1) (qa_cons (q_var 2) (qa_cons q_int qa_nil (by rfl)) (by rfl)) (by rfl)))))))), fun as k x h => ?_⟩
    clear tk hr hgd Fn sc T
    obtain ⟨ns, rfl, hl, h⟩ := h
    walk_at "q"
    rw [cut_to (by omega), List.take_of_length_le (by omega)]
    refine loop_rule (fun (p : Int × Int × Sl) => [.bor (.scr ns), .sh (.int p.1), .sh (.int p.2.1), p.2.2]) (fun m p => 0 ≤ p.1 ∧ p.1 < 2 ^ (200 * m) ∧ 0 ≤ p.2.1 ∧ p.2.1 < 2 ^ 62) (0, 88651, .no) (by decide) (fun m d a X hd hI hX => ?_) fun a hI => ?_
    · obtain ⟨dg, sd, sl⟩ := a
      obtain ⟨g0, g1, g2, g3⟩ := hI
      replace g0 : 0 ≤ dg := g0
      replace g1 : dg < 2 ^ (200 * m) := g1
      replace g2 : 0 ≤ sd := g2
      replace g3 : sd < 2 ^ 62 := g3
      obtain ⟨i, hi, rfl⟩ := ints_get hd
      have hm : m < ns.length := (List.getElem?_eq_some_iff.mp hi).1
      have fin : ∀ (dg' : Int) (sl' : Sl), 0 ≤ dg' → dg' < 2 ^ (200 * (m + 1)) → X [.bor (.scr ns), .sh (.int dg'), .sh (.int ((sd * 69069 + i % 2305843009213693921 + 7) % 2305843009213693951)), sl'] := fun dg' sl' h1 h2 =>
        hX (dg', _, sl') ⟨h1, h2, Int.emod_nonneg _ (by decide), Int.lt_of_lt_of_le (Int.emod_lt_of_pos _ (by decide)) (by decide)⟩
      have e2 : (2 : Int) ^ (200 * (m + 1)) = 2 ^ (200 * m) * 2 ^ 200 := by rw [Nat.mul_succ, Int.pow_add]
      have pos : (0 : Int) < 2 ^ (200 * m) := Int.pow_pos (by decide)
      have cms : CMul sd 69069 ∨ CMulW sd 69069 := .inl (.inl ⟨by omega, by omega⟩)
      have p18 : CPow 10 18 := ⟨by decide, by decide, by decide⟩
      have p60 : CPow 10 60 := ⟨by decide, by decide, by decide⟩
      walk_at "q"
      refine ⟨p18, ?_⟩
      refine cIf_i (fun h1 => ?_) (fun h1 => ?_)
      · walk_at "q"
        have hw : CMulW dg (10 ^ 60) := by
          show dg.natAbs.log2 + ((10 : Int) ^ 60).natAbs.log2 < 1000000
          have e3 : ((10 : Int) ^ 60).natAbs.log2 < 1000 := by decide +kernel
          by_cases h0 : dg.natAbs = 0
          · rw [h0, show Nat.log2 0 = 0 by decide +kernel]; omega
          · have : dg.natAbs.log2 < 200 * m := (Nat.log2_lt h0).mpr (by
              have : (dg.natAbs : Int) < ((2 ^ (200 * m) : Nat) : Int) := by
                rw [Int.natAbs_of_nonneg g0, Int.natCast_pow]; exact g1
              exact Int.ofNat_lt.mp this)
            omega
        have r0 : 0 ≤ (if i < 0 then -i else i) % 1000000000000000000000000000000000000000000000000000000000000 := Int.emod_nonneg _ (by decide)
        have r1 : (if i < 0 then -i else i) % 1000000000000000000000000000000000000000000000000000000000000 < 1000000000000000000000000000000000000000000000000000000000000 := Int.emod_lt_of_pos _ (by decide)
        generalize (if i < 0 then -i else i) % 1000000000000000000000000000000000000000000000000000000000000 = r at r0 r1 ⊢
        refine ⟨p60, .inr hw, p60, cms, fin _ _ (Int.add_nonneg (Int.mul_nonneg g0 (by decide)) r0) ?_⟩
        rw [e2]
        have a1 : dg * 1000000000000000000000000000000000000000000000000000000000000 + r < (dg + 1) * 1000000000000000000000000000000000000000000000000000000000000 := by rw [Int.add_mul]; omega
        have a2 : (dg + 1) * 1000000000000000000000000000000000000000000000000000000000000 ≤ 2 ^ (200 * m) * 1000000000000000000000000000000000000000000000000000000000000 := Int.mul_le_mul_of_nonneg_right g1 (by decide)
        have a3 : (2 : Int) ^ (200 * m) * 1000000000000000000000000000000000000000000000000000000000000 ≤ 2 ^ (200 * m) * 2 ^ 200 := Int.mul_le_mul_of_nonneg_left (by decide) (Int.le_of_lt pos)
        exact Int.lt_of_lt_of_le a1 (Int.le_trans a2 a3)
      · walk_at "q"
        refine ⟨cms, fin dg _ g0 ?_⟩
        rw [e2]
        exact Int.lt_of_lt_of_le g1 (by have : (1 : Int) ≤ 2 ^ 200 := by decide
                                        have := Int.mul_le_mul_of_nonneg_left this (Int.le_of_lt pos)
                                        omega)
    · walk_at "q"
      exact h _ _ hI.1 hI.2.2.1 hI.2.2.2
theorem cal__law_spring (T : Tx K mg) : Cal P w K mg base g 1 "_law_spring" [] sp__law_spring := by
  obtain ⟨fd, G, Fn⟩ := fn__law_spring (P := P) (w := w) (base := base) (g := g) T
  exact ⟨_, fd, _, [], G, T.g__law_spring, Fn.kp, Fn.bindsN fun _ _ _ _ _ _ us hl => match us, hl with | [_], _ => rfl, .nil, rfl⟩
end

/-! ### _law_draw -/
/-- the law's source of chance: digits of the large cells, a running number, the draws so far -/
def sprOk (ds : List D) : Prop := ∃ (dg seed cnt : Int), ds = [.int dg, .int seed, .int cnt] ∧ 0 ≤ dg ∧ 0 ≤ seed ∧ seed < 2 ^ 62 ∧ 0 ≤ cnt
def sprG : Gd := ⟨sprOk, fun _ => 0⟩
def sp__law_draw : Spq := fun as k _ => ∃ n, as = [.bag 0, .bor (.int n)] ∧ (0 < n ∧ n < 2 ^ 200) ∧ ∀ r, 0 ≤ r → r < n → k (.sh (.int r))
theorem e__law_draw {n : Int} {k : Rv → Prop} {x : Str → List D → Prop} : sp__law_draw [.bag 0, .bor (.int n)] k x = ((0 < n ∧ n < 2 ^ 200) ∧ ∀ r, 0 ≤ r → r < n → k (.sh (.int r))) := propext ⟨fun ⟨_, h, q⟩ => (by cases h; exact q), fun q => ⟨_, rfl, q⟩⟩
section
variable {P : Program} {w : World} {K : Fg} {mg : Str → Option Value} {base : Heap}
theorem sc__law_draw : FnScope ["_law_spring_here", "_law_many", "_law_mix", "_law_found"] ["_law_spring_here", "_law_many"] (defScope s__law_draw) := ⟨rfl, rfl, rfl, by decide +kernel, rfl, by decide +kernel, by decide +kernel⟩
abbrev sx (a b d : Int) : List V := [.int a, .int b, .int d]
theorem six0 {H : Hp} {p : Addr} {a b d : Int} {Q : VK} (h : H p = some (.lst (sx a b d))) (q : Q (.int a) H) : rIxQ K (.ref p) (.int 0) H Q := .inl ⟨_, _, _, _, rfl, rfl, SqL.of h, rfl, q⟩
theorem six1 {H : Hp} {p : Addr} {a b d : Int} {Q : VK} (h : H p = some (.lst (sx a b d))) (q : Q (.int b) H) : rIxQ K (.ref p) (.int 1) H Q := .inl ⟨_, _, _, _, rfl, rfl, SqL.of h, rfl, q⟩
theorem six2 {H : Hp} {p : Addr} {a b d : Int} {Q : VK} (h : H p = some (.lst (sx a b d))) (q : Q (.int d) H) : rIxQ K (.ref p) (.int 2) H Q := .inl ⟨_, _, _, _, rfl, rfl, SqL.of h, rfl, q⟩
theorem sst {H : Hp} {p : Addr} {a b d : Int} {j : Int} {m : Nat} {v : V} {Q : Hp → Prop} (h : H p = some (.lst (sx a b d))) (hj : ixN 3 j = some m) (q : Q (upd H p (.lst ((sx a b d).set m v)))) : rSetL (.ref p) (.int j) v H Q := ⟨_, _, _, _, rfl, rfl, h, hj, q⟩
theorem fn__law_draw (T : Tx K mg) : ∃ fd, FnG P w K mg base 1 (He.ga K "_law_draw") fd ["_law_spring_here", "_law_many"] (spQ K mg sprG sp__law_draw) ∧ FunD K "_law_draw" "_law_draw" (defArgs s__law_draw) (defBody s__law_draw) (defScope s__law_draw) [] [] (He.ga K "_law_draw") fd := by
  have sc := sc__law_draw
  obtain ⟨fd, Fn⟩ := T.f__law_draw
  obtain ⟨oc, od, dV, kV, doc, pm, an, cdv, ct, osl, rfl, lk, hcd, _, _⟩ := Fn.ex
  refine ⟨_, fnG_of lk hcd sc (fun vs H Q E h => ?_) (fun A outer s H vs Q E hgd hr h => ?_), Fn⟩
  · obtain ⟨_, F, S, b, as, k, x, _, _, _, h4, h5, _⟩ := h
    obtain ⟨n, rfl, _⟩ := h5
    exact h4.length
  refine ⟨_, QSs.pss (g := sprG) (W := W0) ((qs_cons (qs_if (qt_cmp op_gt o_gt (q_ix ix_Q o_ix (q_var 0) q_int (by exact fun _ _ => rfl)) q_int (by first | exact nomark _ | rfl)) (qs_cons (qs_set (i := 3) (by exact sc.nd) (by exact rfl) (Or.inl rfl) (q_op op_mod o_mod (q_ix ix_Q o_ix (q_var 0) q_int (by exact fun _ _ => rfl)) (q_var 1)) (by rfl) (by first | exact .inl rfl | exact .inr rfl | assumption))
      (qs_cons (qs_lput (i := 0) (by exact rfl) (by first | exact Or.inl rfl | exact Or.inr (Or.inl rfl) | exact Or.inr (Or.inr rfl)) q_int (q_op op_fdivW o_divW (q_ix ix_Q o_ix (q_var 0) q_int (by exact fun _ _ => rfl)) (q_var 1)) (by decide) (by decide) (by rfl) (by rfl) (by rfl) (by intro _; rfl))
      (qs_one (qs_ret (q_var 3))))) qs_nil)
      (qs_cons (qs_lput (i := 0) (by exact rfl) (by first | exact Or.inl rfl | exact Or.inr (Or.inl rfl) | exact Or.inr (Or.inr rfl)) q_int (QN.qe (qn_opR or_addQ o_add (q_ix ix_Q o_ix (q_var 0) q_int (by exact fun _ _ => rfl)) q_int)) (by decide) (by decide) (by rfl) (by rfl) (by rfl) (by intro _; rfl))
      (qs_cons (qs_set (i := 2) (by exact sc.nd) (by exact rfl) (Or.inl rfl) (q_op op_mod o_mod (QN.qe (qn_opR or_mulQ o_mul (q_ix ix_Q o_ix (q_var 0) q_int (by exact fun _ _ => rfl)) (q_ix ix_Q o_ix (q_var 0) q_int (by exact fun _ _ => rfl)))) q_int) (by rfl) (by first | exact .inl rfl | exact .inr rfl | assumption))
      (qs_cons (qs_lput (i := 0) (by exact rfl) (by first | exact Or.inl rfl | exact Or.inr (Or.inl rfl) | exact Or.inr (Or.inr rfl)) q_int (q_op op_mod o_mod (QN.qe (qn_opR or_addQ o_add (QN.qe (qn_opR or_addQ o_add (q_var 2) (QN.qe (qn_opR or_mulQ o_mul (QN.qe (qn_opR or_mulQ o_mul q_int (q_ix ix_Q o_ix (q_var 0) q_int (by exact fun _ _ => rfl)))) (q_ix ix_Q o_ix (q_var 0) q_int (by exact fun _ _ => rfl)))))) q_int)) q_int) (by decide) (by decide) (by rfl) (by rfl) (by rfl) (by intro _; rfl))
      (qs_one (qs_ret (q_op op_mod o_mod (q_op op_fdivW o_divW (q_ix ix_Q o_ix (q_var 0) q_int (by exact fun _ _ => rfl)) q_int) (q_var 1))))))))), ?_⟩
  clear hgd hr lk hcd Fn
  obtain ⟨M, F, S, b, as, k, x, hF, hS, hb, h4, h5, h6, h7⟩ := h
  obtain ⟨n, rfl, ⟨n1, n2⟩, hk⟩ := h5
  cases h4 with
  | cons ho hr =>
  cases hr with
  | cons hn hr2 =>
  cases hr2
  cases hn
  obtain ⟨p, rfl, rfl⟩ := ho
  obtain ⟨fp, sp, xs, ds, hp, rs, ok, hc, hM⟩ := hb p rfl
  obtain ⟨dg, seed, cnt, rfl, i1, i2, i3, c1⟩ := ok
  cases rs with
  | cons ra rs =>
  cases rs with
  | cons rb rs =>
  cases rs with
  | cons rd2 rs =>
  cases rs
  cases ra; cases rb; cases rd2
  have fin : ∀ (H' : Hp) (r dg' seed' cnt' : Int), H' p = some (.lst (sx dg' seed' cnt')) → (∀ a o, a ≠ p → H a = some o → H' a = some o) → 0 ≤ dg' → 0 ≤ seed' → seed' < 2 ^ 62 → 0 ≤ cnt' → 0 ≤ r → r < n → Q (.int r) H' := by
    intro H' r dg' seed' cnt' g1 g2 g3 g4 g5 g6 g8 g9
    refine h6 _ S H' (.sh (.int r)) (fun a o e => g2 a o (fun z => by subst z; rw [fp] at e; cases e) (hF a o e)) (fun a o e => g2 a o (fun z => by subst z; rw [sp] at e; cases e) (hS a o e)) Ext.refl (fun q e => ?_) (.int r) (hk r g8 g9)
    cases e
    exact ⟨fp, sp, _, [.int dg', .int seed', .int cnt'], g1, .cons (.int _) (.cons (.int _) (.cons (.int _) .nil)), ⟨dg', seed', cnt', rfl, g3, g4, g5, g6⟩, Nat.zero_le _, hM⟩
  simp only [tSeq, tIfS, tTest, tAnd, tOp, tVar, tC, tAsg, gSub, gName, tRet, tCall, tNext, tCons, tNil, tCB, List.map_nil, List.append_nil]
  have hlog : n.natAbs.log2 < 9000 := by
    have : n.natAbs.log2 < 200 := (Nat.log2_lt (by omega)).mpr (by omega)
    omega
  have cm : ∀ i j : Int, 0 ≤ i → i < 2 ^ 62 → CMul i j := fun i j h1 h2 => .inl ⟨by omega, by omega⟩
  have cm2 : ∀ i j : Int, 0 ≤ j → j < 2 ^ 62 → CMul i j := fun i j h1 h2 => .inr ⟨by omega, by omega⟩
  refine ⟨_, rfl, six0 hp ⟨_, _, rfl, rfl, _, rfl, ?_⟩⟩
  by_cases hd : (0 : Int) < dg
  · rw [if_pos (decide_eq_true hd)]
    refine ⟨_, rfl, six0 hp ⟨_, rfl, _, _, rfl, rfl, n1, ?_⟩⟩
    refine ⟨_, rfl, six0 hp ⟨_, rfl, _, _, rfl, rfl, ⟨n1, hlog⟩, _, rfl, sst hp (m := 0) rfl ?_⟩⟩
    refine ⟨_, rfl, ?_⟩
    exact fin _ _ (dg / n) seed cnt upd_same (fun a o h1 h2 => by rw [upd_ne h1]; exact h2) (Int.ediv_nonneg (by omega) (by omega)) i2 i3 c1 (Int.emod_nonneg _ (by omega)) (Int.emod_lt_of_pos _ n1)
  · rw [if_neg (by simpa using hd)]
    refine ⟨_, rfl, six2 hp (.inl ⟨_, _, rfl, rfl, _, rfl, sst hp (m := 2) rfl ?_⟩)⟩
    have k1 : ∀ H1, H1 = upd H p (.lst ((sx dg seed cnt).set 2 (.int (cnt + 1)))) → H1 p = some (.lst (sx dg seed (cnt + 1))) ∧ ∀ a o, a ≠ p → H a = some o → H1 a = some o := fun H1 e => by
      subst e
      exact ⟨upd_same, fun a o h1 h2 => by rw [upd_ne h1]; exact h2⟩
    generalize hH1 : upd H p (.lst ((sx dg seed cnt).set 2 (.int (cnt + 1)))) = H1
    obtain ⟨hp1, hk1⟩ := k1 H1 hH1.symm
    clear k1 hH1
    have hM0 : (0 : Int) < 2305843009213693951 := by decide
    refine ⟨_, rfl, six1 hp1 ⟨_, rfl, six1 hp1 (.inl ⟨_, _, rfl, rfl, cm _ _ i2 i3, _, _, rfl, rfl, hM0, ?_⟩)⟩⟩
    refine ⟨_, rfl, _, rfl, six2 hp1 (.inl ⟨_, _, rfl, rfl, cm 7919 _ (by decide) (by decide), _, rfl, six1 hp1 (.inl ⟨_, _, rfl, rfl, cm2 _ _ i2 i3, .inl ⟨_, _, rfl, rfl, .inl ⟨_, _, rfl, rfl, _, _, rfl, rfl, hM0, _, rfl, sst hp1 (m := 1) rfl ?_⟩⟩⟩)⟩)⟩
    dsimp only
    have s0 := Int.emod_nonneg (seed * seed % 2305843009213693951 + 7919 * (cnt + 1) * seed + 104729) (b := 2305843009213693951) (by decide)
    have s1 := Int.emod_lt_of_pos (seed * seed % 2305843009213693951 + 7919 * (cnt + 1) * seed + 104729) hM0
    generalize (seed * seed % 2305843009213693951 + 7919 * (cnt + 1) * seed + 104729) % 2305843009213693951 = seed2 at s0 s1 ⊢
    have k1 : ∀ H2, H2 = upd H1 p (.lst ((sx dg seed (cnt + 1)).set 1 (.int seed2))) → H2 p = some (.lst (sx dg seed2 (cnt + 1))) ∧ ∀ a o, a ≠ p → H a = some o → H2 a = some o := fun H2 e => by
      subst e
      exact ⟨upd_same, fun a o h1 h2 => by rw [upd_ne h1]; exact hk1 a o h1 h2⟩
    generalize hH2 : upd H1 p (.lst ((sx dg seed (cnt + 1)).set 1 (.int seed2))) = H2
    obtain ⟨hp2, hk2⟩ := k1 H2 hH2.symm
    clear k1 hH2
    refine ⟨_, rfl, six1 hp2 ⟨_, _, rfl, rfl, ⟨by decide, by decide⟩, _, rfl, _, _, rfl, rfl, n1, ?_⟩⟩
    exact fin _ _ dg seed2 (cnt + 1) hp2 hk2 i1 s0 (by omega) (by omega) (Int.emod_nonneg _ (by omega)) (Int.emod_lt_of_pos _ n1)
theorem cal__law_draw (T : Tx K mg) : Cal P w K mg base sprG 1 "_law_draw" [] sp__law_draw := by
  obtain ⟨fd, G, Fn⟩ := fn__law_draw (P := P) (w := w) (base := base) T
  exact ⟨_, fd, _, [], G, T.g__law_draw, Fn.kp, Fn.bindsN fun _ _ _ _ _ _ us hl => match us, hl with | [_, _], _ => rfl, .nil, rfl⟩

end

local macro_rules | `(tactic| walk_at "p") => `(tactic| (repeat (rw [pkV]; try walk_at "q")))
local macro_rules | `(tactic| walk_at "len") => `(tactic| (first | omega | (simp only [List.length_map, List.length_append, List.length_reverse, List.length_take, List.length_drop, List.length_dropLast, List.length_cons, List.length_nil, List.length_set, List.length_replicate, dist_length, nxt_length, idsD_length, numbered_length, ranged_length, upto_length]; omega)))
local macro_rules | `(tactic| walk_at "q") => `(tactic| (try simp only [↓hold1, ↓hold2, ↓cIf_t, ↓cIf_f, ↓lk0, ↓lk1, ↓st0, ↓st1, ↓wp0, ↓wp1, ↓wpm, ↓wpn, ↓sD_sh, ↓sD_own, ↓sD_bor, ↓rd_d, ↓rd_p, ↓dB_b, ↓dI_i, ↓dX_x, ↓dK_i, ↓dK_s, ↓dL_l, ↓dIt_l, ↓dIt_t, ↓dIt_s, ↓shS_sh, ↓shS_own, ↓shS_bor, ↓sh1_d, ↓sh1_p, ↓shs0, ↓shs1, ↓ress0, ↓ress1, ↓bagS_b, ↓arg_bor, ↓arg_sh, ↓arg_bag, ↓args0, ↓args1, ↓ap0, ↓ap0', ↓ap1, ↓reS_sh, ↓reS_own, ↓reS_bor, ↓ret_d, ↓ret_p, ↓asS_sh, ↓asS_own, ↓asS_bor, ↓as_d, ↓as_p, ↓rv_sh, ↓rv_own, ↓da_sh, ↓da_own, ↓itS_sh, ↓itS_own, ↓itS_bor, ↓it_d, ↓it_p, ↓e_var, ↓e_sh, ↓e_own, ↓e_bor, ↓e_bag, ↓e_c, ↓e_op, ↓e_opN, ↓e_opR, ↓e_test, ↓e_and, ↓e_or, ↓e_not, ↓e_andV, ↓e_orV, ↓e_notV, ↓e_ifE, ↓e_un, ↓e_nil, ↓e_cons, ↓e_cb, ↓e_cbN, ↓e_cbR, ↓e_ofN, ↓e_lst, ↓e_tup, ↓e_call, ↓e_callS, ↓e_next, ↓e_seq, ↓e_brk, ↓e_ct, ↓e_drop, ↓e_ret, ↓e_retN, ↓e_ret0, ↓e_if, ↓e_set, ↓e_setN, ↓e_aug, ↓e_raise, ↓e_name, ↓e_gnil, ↓e_gcons, ↓e_gtup, ↓e_for, ↓e_seqI, ↓e_enum, ↓rg1_i, ↓rg2_i, ↓e_rng1, ↓e_rng2, ↓e_lc, ↓e_yes, ↓e_onone, ↓e_osome, ↓e_sl, ↓e_isi, ↓e_isi2, ↓ownL_l, ↓ownA_l, ↓sO_o, ↓e_meth, ↓e_meth0, ↓e_dnew, ↓e_dget, ↓e_din, ↓e_dput, ↓e_lput, ↓e_lenSet, ↓e_chain, ↓e_par, ↓e_asgT, ↓e_rev, ↓e_lenD, ↓e_toN, ↓e_parN, ↓e_getD, ↓e_rdm, ↓ok_l, ↓ok_r, ↓ok_s, ↓f_inC, ↓f_notInC, ↓f_inI, ↓f_notInI, ↓f_inIT, ↓f_inS, ↓f_notInS, ↓f_count, ↓rvO_o, ↓pkC0, ↓pkC_sh, ↓pkC_own, ↓pkC_bor, ↓pkC_bag, ↓pkC_no, ↓e_box, ↓e_nsNil, ↓e_nsCons, ↓e_bTest, ↓allL0, ↓allL1, ↓e_bLoop, ↓f_ix0, ↓f_ix1, ↓f_ix2, ↓f_ix3, ↓f_ix4, ↓f_ixT0, ↓f_ixT1, ↓f_ixT2, ↓f_ixT3, ↓f_ixT4, ↓e_loopC, ↓e_loopN, ↓e_step, ↓e_exI, ↓e_toI, ↓e_LAll, ↓f_eqW1, ↓f_eqW2, ↓f_eqW3, ↓f_sLstS, ↓f_sLstB, ↓e_zip, ↓f_zipL, ↓f_dictP, ↓f_dictD, ↓f_sortI, ↓e_dct1, ↓f_eqNN, ↓e_sortSet, ↓f_dSeqL, ↓f_dSeqT, ↓e_lenSetS, ↓f_notScrL, ↓f_notScrT, ↓f_mulS, ↓f_eqSL, ↓f_neSL, ↓f_eqSNil, ↓f_neSNil, ↓f_neNN, ↓f_notInST, ↓f_notIn3, ↓e_dc, ↓e_lstRg1, ↓e_lstRg2, ↓f_isNo, ↓e_lcO, ↓f_dLTl, ↓f_dLTt, ↓e_tupSh, ↓e_callSD, ↓f_ltQI, ↓f_ltQL, ↓f_join, ↓f_split, ↓f_intS, ↓f_inSign, ↓f_notInSign, ↓f_itS, ↓e_dS, ↓e_strI, ↓e_ifN, ↓e_fmtS, ↓e_fmtI, ↓e_fmt, ↓e_fs, ↓e_js0, ↓e_js1, ↓e_never, ↓f_sub, ↓f_mod, ↓f_div, ↓f_divW, ↓f_pow, ↓f_lt, ↓f_le, ↓f_gt, ↓f_ge, ↓f_addI, ↓f_addS, ↓f_addL, ↓f_mulI, ↓f_mulL, ↓f_eqI, ↓f_neI, ↓f_eqS, ↓f_neS, ↓f_eqB, ↓f_neB, ↓f_isN, ↓f_isNotN, ↓f_lenL, ↓f_lenT, ↓f_lenR, ↓f_lenS, ↓f_min, ↓f_max, ↓f_abs, ↓f_intI, ↓f_intB, ↓f_strI, ↓f_listL, ↓f_listT, ↓f_listS, ↓f_tupL, ↓f_repr, ↓f_slL, ↓f_slR, ↓f_slT, ↓f_app, ↓f_pop, ↓f_popAt, ↓f_ext, ↓f_ins, ↓f_allM, ↓f_anyM, ↓f_sumM, ↓f_eqIL, ↓f_neIL, ↓f_eqIT, ↓f_neIT, ↓f_eqNil, ↓f_neNil, ↓f_neg, ↓f_clear, ↓e_is_integer, ↓e_is_integerN, ↓e_is_sequence, ↓e_is_distances, ↓e_is_number, ↓e_first_bad_word, ↓e__law_draw, ty_int_n, ty_int_b, ty_int_i, ty_int_s, ty_int_l, ty_int_t, ty_int_r, ty_int_d, ty_bool_n, ty_bool_b, ty_bool_i, ty_bool_s, ty_bool_l, ty_bool_t, ty_bool_r, ty_bool_d, ty_str_n, ty_str_b, ty_str_i, ty_str_s, ty_str_l, ty_str_t, ty_str_r, ty_str_d, ty_list_n, ty_list_b, ty_list_i, ty_list_s, ty_list_l, ty_list_t, ty_list_r, ty_list_d, ty_tuple_n, ty_tuple_b, ty_tuple_i, ty_tuple_s, ty_tuple_l, ty_tuple_t, ty_tuple_r, ty_tuple_d, ty_dict_n, ty_dict_b, ty_dict_i, ty_dict_s, ty_dict_l, ty_dict_t, ty_dict_r, ty_dict_d, cIf_t, cIf_f, cIf_n, isSc_n, isSc_b, isSc_i, isSc_s, ex_some, Int.reduceLT, Int.reduceLE, Int.reduceGT, Int.reduceGE, Int.reduceEq, Int.reduceNe, Int.reduceAdd, Int.reduceSub, Int.reduceMul, Int.reduceNeg, Int.reduceToNat, Int.reducePow, Nat.reduceLT, Nat.reduceAdd, Nat.reduceSub, Nat.reduceLeDiff, Nat.reduceEqDiff, Nat.reduceMul, Int.cast_ofNat_Int, true_or, true_and, and_true, List.length_cons, List.length_nil, List.length_map, n_n, n_b, n_i, n_s, n_l, n_t, se_c, se_n, se_0, ar_b, ar_s, ar_g, Bool.or_true, Bool.true_or, Bool.or_false, Bool.false_or, Bool.and_true, Bool.true_and, Bool.and_false, Bool.false_and, Bool.not_true, Bool.not_false, Bool.not_not, decide_true, decide_false, int_app, filter_tt, eq_self, Option.map_some, Option.map_none, Option.isSome_some, Option.isSome_none, Bool.false_eq_true, if_false, if_true, Nat.zero_add, Int.zero_add, Int.add_zero, Int.sub_zero, List.map_nil, List.nil_append, List.append_nil, int_rev, int_take, int_drop, int_dropLast, int_appL, e_toI, e_is_integer, e_is_integerN, e_is_sequence, e_is_distances, e_is_number, e_first_bad_word, e__law_draw]))

/-! ### _law_same -/
def okSame : Nat → D → Bool
  | 0, _ => false
  | n + 1, .lst xs => decide (xs.length < 1000000) && xs.all (okSame n)
  | n + 1, .tup xs => decide (xs.length < 1000000) && xs.all (okSame n)
  | _ + 1, .dct _ => false
  | _ + 1, .scr _ => false
  | _ + 1, _ => true
def sp__law_same_ : Nat → Spq
  | 0 => fun _ _ _ => False
  | n + 1 => fun as k _ => ∃ d, as = [.bor d, .bor d] ∧ okSame (n + 1) d = true ∧ k (.sh (.bl true))
section
variable {P : Program} {w : World} {K : Fg} {mg : Str → Option Value} {base : Heap} {g : Gd}
theorem sc__law_same : FnScope ["_law_found", "_law_due", "_law_k"] ["_law_found", "_law_due"] (defScope s__law_same) := ⟨rfl, rfl, rfl, by decide +kernel, rfl, by decide +kernel, by decide +kernel⟩
def sp__law_same : Spq := sp__law_same_ 5
theorem fn__law_same (T : Tx K mg) : ∀ n : Nat, ∃ fd, FnG P w K mg base (n + 1) (He.ga K "_law_same") fd ["_law_found", "_law_due"] (spQ K mg g (sp__law_same_ n)) ∧ FunD K "_law_same" "_law_same" (defArgs s__law_same) (defBody s__law_same) (defScope s__law_same) [] [] (He.ga K "_law_same") fd := by
  intro n
  induction n with
  | zero =>
    obtain ⟨fd, Fn⟩ := T.f__law_same
    exact ⟨fd, ⟨fun vs H Q E h => (by obtain ⟨_, _, _, _, _, _, _, _, _, _, _, h5, _⟩ := h; exact h5.elim), fun A outer s H args us vs Q E _ _ _ _ _ h => (by obtain ⟨_, _, _, _, _, _, _, _, _, _, _, h5, _⟩ := h; exact h5.elim)⟩, Fn⟩
  | succ n ih =>
    have sc := sc__law_same
    have C__law_same : Cal P w K mg base g (n + 1) "_law_same" [] (sp__law_same_ n) := by
      obtain ⟨fd, G, Fn⟩ := ih
      exact ⟨_, fd, _, [], G, T.g__law_same, Fn.kp, Fn.bindsN fun _ _ _ _ _ _ us hl => match us, hl with | [_, _], _ => rfl, .nil, rfl⟩
    obtain ⟨fd, Fn⟩ := T.f__law_same
    refine ⟨fd, (show FnG _ _ _ _ _ ((n + 1) + 1) _ _ _ _ from fn_q g Fn sc (by decide) (fun as k x h => ?_) fun cdv A outer s H E hgd hr => ?_).mono (by omega), Fn⟩
    · obtain ⟨_, rfl, _⟩ := h; rfl
    · have tk : Takes (cxOf (L2.CX P w) P w K mg base ["_law_found", "_law_due", "_law_k"] "_law_same" (defScope s__law_same) (He.ga K "_law_same") cdv A outer s H E) (fun cls d _ H => E cls d H) := takes_of rfl rfl rfl rfl
      refine ⟨_, _, (qs_cons (qs_if (qt_val (q_isi2 (T := "list") (U := "tuple") (by exact rfl) T.z_isinstance (by exact rfl) T.z_list (by decide +kernel) (by exact rfl) (by exact rfl) T.z_tuple (by decide +kernel) (by exact rfl) (q_var 1) (by decide) (by decide) (by decide) (by decide) (by rfl)) (by intro _; rfl)) (qs_cons (qs_if (QW.toT (qw_or (qt_cmp (or_neQ (by exact hr.units)) o_ne (q_isi (T := "list") (by exact rfl) T.z_isinstance (by exact rfl) T.z_list (by decide +kernel) (by exact rfl) (q_var 0) (by decide) (by decide) (by rfl)) (q_isi (T := "list") (by exact rfl) T.z_isinstance (by exact rfl) T.z_list (by decide +kernel) (by exact rfl) (q_var 1) (by decide) (by decide) (by rfl)) (by first | exact nomark _ | rfl)) (qw_or1 (qt_cmp (or_neQ (by exact hr.units)) o_ne (q_isi (T := "tuple") (by exact rfl) T.z_isinstance (by exact rfl) T.z_tuple (by decide +kernel) (by exact rfl) (q_var 0) (by decide) (by decide) (by rfl)) (q_isi (T := "tuple") (by exact rfl) T.z_isinstance (by exact rfl) T.z_tuple (by decide +kernel) (by exact rfl) (q_var 1) (by decide) (by decide) (by rfl)) (by first | exact nomark _ | rfl))))) (qs_one (qs_ret q_bl)) qs_nil)
      (qs_one (qs_ret (q_and (q_cmp (or_eqQ (by exact hr.units)) o_eq (q_callB call_len c_len (by exact rfl) T.z_len (by decide +kernel) (qa_cons (q_var 0) qa_nil (by rfl)) (by decide) (by decide) (by rfl) (by rfl)) (q_callB call_len c_len (by exact rfl) T.z_len (by decide +kernel) (qa_cons (q_var 1) qa_nil (by rfl)) (by decide) (by decide) (by rfl) (by rfl)) (by first | exact nomark _ | rfl)) (q_one (q_callB (cr_all rfl) c_all (by exact rfl) T.z_all (by decide +kernel) (qa_cons (QN.qe (qn_lcB [("_law_k", 2)] (by exact rfl) (by exact sc.nd) (qi_range1 (by exact rfl) T.z_range (qa_cons (q_callB call_len c_len (by exact rfl) T.z_len (by decide +kernel) (qa_cons (q_var 1) qa_nil (by rfl)) (by decide) (by decide) (by rfl) (by rfl)) qa_nil (by rfl)) (by rfl)) (blkOk_by (by kernel_rfl)) (fun _ _ _ _ _ => (qg_name (i := 2) (by exact sc.nd) (by exact rfl) (by first | exact Or.inl rfl | exact Or.inr rfl) (by decide) (by first | exact .inl rfl | exact .inr rfl | assumption))) (fun _ _ _ _ _ => qts_nil) (fun _ _ _ _ _ => (QN.qe (qn_call [.bor, .bor] C__law_same (by exact hgd) (by exact hr) (by omega) (by exact rfl) (qa_cons (q_ix ix_Q o_ix (q_var 0) (q_var 2) (by exact fun _ _ => rfl)) (qa_cons (q_ix ix_Q o_ix (q_var 1) (q_var 2) (by exact fun _ _ => rfl)) qa_nil (by rfl)) (by rfl)) (by decide) (by rfl) (by rfl)))) (by intro _; rfl) (by intros; rfl) (by intros; rfl) (by intros; rfl))) qa_nil (by rfl)) (by decide) (by decide) (by rfl) (by rfl))))))) qs_nil)
      (qs_cons (qs_if (QW.toT (qw_or (qt_cmp op_isN o_is (q_var 1) q_non (by first | exact nomark _ | rfl)) (qw_or1 (qt_cmp op_isN o_is (q_var 0) q_non (by first | exact nomark _ | rfl))))) (qs_one (qs_ret (q_and (q_cmp op_isN o_is (q_var 1) q_non (by first | exact nomark _ | rfl)) (q_one (q_cmp op_isN o_is (q_var 0) q_non (by first | exact nomark _ | rfl)))))) qs_nil)
      (qs_cons (qs_if (QW.toT (qw_or (qt_cmp (or_neQ (by exact hr.units)) o_ne (q_isi (T := "bool") (by exact rfl) T.z_isinstance (by exact rfl) T.z_bool (by decide +kernel) (by exact rfl) (q_var 1) (by decide) (by decide) (by rfl)) (q_isi (T := "bool") (by exact rfl) T.z_isinstance (by exact rfl) T.z_bool (by decide +kernel) (by exact rfl) (q_var 0) (by decide) (by decide) (by rfl)) (by first | exact nomark _ | rfl)) (qw_or1 (qt_cmp (or_neQ (by exact hr.units)) o_ne (q_isi (T := "str") (by exact rfl) T.z_isinstance (by exact rfl) T.z_str (by decide +kernel) (by exact rfl) (q_var 1) (by decide) (by decide) (by rfl)) (q_isi (T := "str") (by exact rfl) T.z_isinstance (by exact rfl) T.z_str (by decide +kernel) (by exact rfl) (q_var 0) (by decide) (by decide) (by rfl)) (by first | exact nomark _ | rfl))))) (qs_one (qs_ret q_bl)) qs_nil)
      (qs_one (qs_ret (q_cmp (or_eqQ (by exact hr.units)) o_eq (q_var 0) (q_var 1) (by first | exact nomark _ | rfl))))))), fun as k x h => ?_⟩
      clear tk hr hgd Fn sc T C__law_same ih
      obtain ⟨d, rfl, hok, h⟩ := h
      cases d
      all_goals first | (cases hok; done) | skip
      all_goals walk_at "q"
      all_goals first | exact h | skip
      case lst xs =>
        have hok : (decide (xs.length < 1000000) && xs.all (okSame n)) = true := hok
        rw [Bool.and_eq_true, decide_eq_true_eq, List.all_eq_true] at hok
        refine ⟨by omega, by omega, ?_⟩
        refine comp_pure (fun _ => true) (fun _ => .bl true) (fun i d acc X hd hl hX => ?_) ?_
        · rw [if_pos rfl] at hX
          obtain ⟨hi, rfl⟩ := ranged_get hd
          have hi2 : i < xs.length := by omega
          have hat : atI xs (0 + (i : Int)) = some xs[i] := by rw [Int.zero_add, atI_pos (by omega)]; exact List.getElem?_eq_getElem hi2
          have hx := hok.2 xs[i] (List.getElem_mem ..)
          have call : ∀ {k2 : Rv → Prop} {x2 : Str → List D → Prop}, k2 (.sh (.bl true)) → sp__law_same_ n [.bor xs[i], .bor xs[i]] k2 x2 := fun {k2 x2} q => by
            cases n with
            | zero => cases hx
            | succ n => exact ⟨_, rfl, hx, q⟩
          rw [Int.zero_add] at hat
          walk_at "q"
          rw [f_ixL]
          refine ⟨_, hat, ?_⟩
          walk_at "q"
          rw [f_ixL]
          refine ⟨_, hat, ?_⟩
          walk_at "q"
          refine call ?_
          walk_at "q"
          exact ⟨by omega, hX⟩
        rw [filter_tt]
        walk_at "q"
        rw [show (ranged 0 ((xs.length : Nat) : Int).toNat).all (fun _ => true) = true from List.all_eq_true.mpr fun _ _ => rfl]
        exact h
      case tup xs =>
        have hok : (decide (xs.length < 1000000) && xs.all (okSame n)) = true := hok
        rw [Bool.and_eq_true, decide_eq_true_eq, List.all_eq_true] at hok
        refine ⟨by omega, by omega, ?_⟩
        refine comp_pure (fun _ => true) (fun _ => .bl true) (fun i d acc X hd hl hX => ?_) ?_
        · rw [if_pos rfl] at hX
          obtain ⟨hi, rfl⟩ := ranged_get hd
          have hi2 : i < xs.length := by omega
          have hat : atI xs (0 + (i : Int)) = some xs[i] := by rw [Int.zero_add, atI_pos (by omega)]; exact List.getElem?_eq_getElem hi2
          have hx := hok.2 xs[i] (List.getElem_mem ..)
          have call : ∀ {k2 : Rv → Prop} {x2 : Str → List D → Prop}, k2 (.sh (.bl true)) → sp__law_same_ n [.bor xs[i], .bor xs[i]] k2 x2 := fun {k2 x2} q => by
            cases n with
            | zero => cases hx
            | succ n => exact ⟨_, rfl, hx, q⟩
          rw [Int.zero_add] at hat
          walk_at "q"
          rw [f_ixT]
          refine ⟨_, hat, ?_⟩
          walk_at "q"
          rw [f_ixT]
          refine ⟨_, hat, ?_⟩
          walk_at "q"
          refine call ?_
          walk_at "q"
          exact ⟨by omega, hX⟩
        rw [filter_tt]
        walk_at "q"
        rw [show (ranged 0 ((xs.length : Nat) : Int).toNat).all (fun _ => true) = true from List.all_eq_true.mpr fun _ _ => rfl]
        exact h
theorem cal__law_same (T : Tx K mg) : Cal P w K mg base g 6 "_law_same" [] sp__law_same := by
  obtain ⟨fd, G, Fn⟩ := fn__law_same (P := P) (w := w) (base := base) (g := g) T 5
  exact ⟨_, fd, _, [], G, T.g__law_same, Fn.kp, Fn.bindsN fun _ _ _ _ _ _ us hl => match us, hl with | [_, _], _ => rfl, .nil, rfl⟩
end

/-! ### _law_symbols -/
def sp__law_symbols : Spq := fun as k x => ∃ (n : Int), as = [.bag 0, .bor (.int n)] ∧ ((0 ≤ n ∧ n ≤ 400) ∧ ∀ w : List Int, w.length ≤ n → (∀ e ∈ w, 0 ≤ e ∧ e < 9) → k (.own (.lst (w.map .int))))
theorem e__law_symbols {n : Int} {k : Rv → Prop} {x : Str → List D → Prop} : sp__law_symbols [.bag 0, .bor (.int n)] k x = ((0 ≤ n ∧ n ≤ 400) ∧ ∀ w : List Int, w.length ≤ n → (∀ e ∈ w, 0 ≤ e ∧ e < 9) → k (.own (.lst (w.map .int)))) := propext ⟨fun h => (by
  obtain ⟨n2, h, q⟩ := h
  simp only [List.cons.injEq, Ar.bor.injEq, Ar.sh.injEq, Ar.bag.injEq, D.lst.injEq, D.tup.injEq, D.int.injEq, D.str.injEq, D.bl.injEq, ints_inj, strs_inj, and_true, true_and] at h
  subst h
  exact q), fun q => ⟨_, rfl, q⟩⟩

section
variable {P : Program} {w : World} {K : Fg} {mg : Str → Option Value} {base : Heap}
theorem sc__law_symbols : FnScope ["_law_spring_here", "_law_most", "_law_kinds", "_law_length", "_law_word", "_law_way", "_law_found", "_law_shift", "_law_k", "_law_symbol"] ["_law_spring_here", "_law_most"] (defScope s__law_symbols) := ⟨rfl, rfl, rfl, by decide +kernel, rfl, by decide +kernel, by decide +kernel⟩
theorem fn__law_symbols (T : Tx K mg) : ∃ fd, FnG P w K mg base 2 (He.ga K "_law_symbols") fd ["_law_spring_here", "_law_most"] (spQ K mg sprG sp__law_symbols) ∧ FunD K "_law_symbols" "_law_symbols" (defArgs s__law_symbols) (defBody s__law_symbols) (defScope s__law_symbols) [] [] (He.ga K "_law_symbols") fd := by
  have sc := sc__law_symbols
  have C__law_draw : Cal P w K mg base sprG 1 "_law_draw" [] sp__law_draw := cal__law_draw T
  obtain ⟨fd, Fn⟩ := T.f__law_symbols
  refine ⟨fd, fn_q sprG Fn sc (by decide) (fun as k x h => ?_) fun cdv A outer s H E hgd hr => ?_, Fn⟩
  · unfold sp__law_symbols at h; first | (split at h <;> first | rfl | exact h.elim) | (obtain ⟨_, rfl, _⟩ := h; rfl) | (obtain ⟨_, _, rfl, _⟩ := h; rfl) | (obtain ⟨_, _, _, rfl, _⟩ := h; rfl) | (obtain ⟨_, _, _, _, rfl, _⟩ := h; rfl) | (obtain ⟨_, _, _, _, _, rfl, _⟩ := h; rfl) | (obtain ⟨_, _, _, _, _, _, rfl, _⟩ := h; rfl)
  · have tk : Takes (cxOf (L2.CX P w) P w K mg base ["_law_spring_here", "_law_most", "_law_kinds", "_law_length", "_law_word", "_law_way", "_law_found", "_law_shift", "_law_k", "_law_symbol"] "_law_symbols" (defScope s__law_symbols) (He.ga K "_law_symbols") cdv A outer s H E) (fun cls d _ H => E cls d H) := takes_of rfl rfl rfl rfl
    refine ⟨_, _, (qs_cons (qs_setN (i := 2) (by exact sc.nd) (by exact rfl) (Or.inr rfl) (qn_opR or_addQ o_add q_int (QN.qe (qn_call [.bag 0, .bor] C__law_draw (by exact hgd) (by exact hr) (by omega) (by exact rfl) (qa_cons (q_var 0) (qa_cons (q_ix ix_Q o_ix (QN.qe (qn_lst (qa_cons q_int (qa_cons q_int (qa_cons q_int qa_nil (by rfl)) (by rfl)) (by rfl)))) (QN.qe (qn_call [.bag 0, .bor] C__law_draw (by exact hgd) (by exact hr) (by omega) (by exact rfl) (qa_cons (q_var 0) (qa_cons q_int qa_nil (by rfl)) (by rfl)) (by decide) (by rfl) (by rfl))) (by exact fun _ _ => rfl)) qa_nil (by rfl)) (by rfl)) (by decide) (by rfl) (by rfl)))) (by rfl) (by first | exact .inl rfl | exact .inr rfl | assumption))
      (qs_cons (qs_setN (i := 3) (by exact sc.nd) (by exact rfl) (Or.inl rfl) (qn_call [.bag 0, .bor] C__law_draw (by exact hgd) (by exact hr) (by omega) (by exact rfl) (qa_cons (q_var 0) (qa_cons (QN.qe (qn_opR or_addQ o_add (q_var 1) q_int)) qa_nil (by rfl)) (by rfl)) (by decide) (by rfl) (by rfl)) (by rfl) (by first | exact .inl rfl | exact .inr rfl | assumption))
      (qs_cons (qs_setLcB (i := 4) [("_law_k", 8)] (by exact rfl) (by exact sc.nd) (by exact rfl) (by exact rfl) (sw_true (by exact rfl) (by exact rfl) (by exact rfl) (by decide +kernel)) (qi_range1 (by exact rfl) T.z_range (qa_cons (QN.qe (qn_opR or_addQ o_add q_int (QN.qe (qn_call [.bag 0, .bor] C__law_draw (by exact hgd) (by exact hr) (by omega) (by exact rfl) (qa_cons (q_var 0) (qa_cons q_int qa_nil (by rfl)) (by rfl)) (by decide) (by rfl) (by rfl))))) qa_nil (by rfl)) (by rfl)) (blkOk_by (by kernel_rfl)) (fun _ _ _ _ _ => (qg_name (i := 8) (by exact sc.nd) (by exact rfl) (by first | exact Or.inl rfl | exact Or.inr rfl) (by decide) (by first | exact .inl rfl | exact .inr rfl | assumption))) (fun _ _ _ _ _ => qts_nil) (fun _ _ _ _ _ => (QN.qe (qn_call [.bag 0, .bor] C__law_draw (by exact hgd) (by exact hr) (by omega) (by exact rfl) (qa_cons (q_var 0) (qa_cons (q_var 2) qa_nil (by rfl)) (by rfl)) (by decide) (by rfl) (by rfl)))) (by intro _; rfl) (by intros; rfl) (by intros; rfl) (by intros; rfl))
      (qs_cons (qs_setN (i := 5) (by exact sc.nd) (by exact rfl) (Or.inl rfl) (qn_call [.bag 0, .bor] C__law_draw (by exact hgd) (by exact hr) (by omega) (by exact rfl) (qa_cons (q_var 0) (qa_cons q_int qa_nil (by rfl)) (by rfl)) (by decide) (by rfl) (by rfl)) (by rfl) (by first | exact .inl rfl | exact .inr rfl | assumption))
      (qs_cons (qs_if (qt_cmp (or_eqQ (by exact hr.units)) o_eq (q_var 5) q_int (by first | exact nomark _ | rfl)) (qs_one (qs_retN (qn_lcB [("_law_k", 8)] (by exact rfl) (by exact sc.nd) (qi_range1 (by exact rfl) T.z_range (qa_cons (q_var 3) qa_nil (by rfl)) (by rfl)) (blkOk_by (by kernel_rfl)) (fun _ _ _ _ _ => (qg_name (i := 8) (by exact sc.nd) (by exact rfl) (by first | exact Or.inl rfl | exact Or.inr rfl) (by decide) (by first | exact .inl rfl | exact .inr rfl | assumption))) (fun _ _ _ _ _ => qts_nil) (fun _ _ _ _ _ => (QN.qe (qn_call [.bag 0, .bor] C__law_draw (by exact hgd) (by exact hr) (by omega) (by exact rfl) (qa_cons (q_var 0) (qa_cons (q_var 2) qa_nil (by rfl)) (by rfl)) (by decide) (by rfl) (by rfl)))) (by intro _; rfl) (by intros; rfl) (by intros; rfl) (by intros; rfl)))) qs_nil)
      (qs_cons (qs_if (qt_cmp (or_eqQ (by exact hr.units)) o_eq (q_var 5) q_int (by first | exact nomark _ | rfl)) (qs_one (qs_retN (qn_sl sl_Q o_sl (QN.qe (qn_opR or_mulQ o_mul (q_var 4) (QN.qe (qn_opR or_addQ o_add (q_op op_fdiv o_div (q_var 3) (q_callB call_len c_len (by exact rfl) T.z_len (by decide +kernel) (qa_cons (q_var 4) qa_nil (by rfl)) (by decide) (by decide) (by rfl) (by rfl))) q_int)))) qo_none (qo_some (q_var 3))))) qs_nil)
      (qs_cons (qs_setN (i := 6) (by exact sc.nd) (by exact rfl) (Or.inl rfl) (qn_lst qa_nil) (by rfl) (by first | exact .inl rfl | exact .inr rfl | assumption))
      (qs_cons (qs_while (qt_cmp op_lt o_lt (q_callB call_len c_len (by exact rfl) T.z_len (by decide +kernel) (qa_cons (q_var 6) qa_nil (by rfl)) (by decide) (by decide) (by rfl) (by rfl)) (q_var 3) (by first | exact nomark _ | rfl)) (qs_cons (qs_setN (i := 7) (by exact sc.nd) (by exact rfl) (Or.inr rfl) (qn_call [.bag 0, .bor] C__law_draw (by exact hgd) (by exact hr) (by omega) (by exact rfl) (qa_cons (q_var 0) (qa_cons q_int qa_nil (by rfl)) (by rfl)) (by decide) (by rfl) (by rfl)) (by rfl) (by first | exact .inl rfl | exact .inr rfl | assumption))
      (qs_cons (qs_expr (q_meth (i := 6) PySem.F.slot_list_extend PySem.F.type_list_extend mt_extend m_extend (by exact rfl) (by first | exact Or.inl rfl | exact Or.inr (Or.inl rfl) | exact Or.inr (Or.inr rfl)) (qa_cons (QN.qe (qn_lcB [("_law_symbol", 9)] (by exact rfl) (by exact sc.nd) (qi_seq (q_var 4)) (blkOk_by (by kernel_rfl)) (fun _ _ _ _ _ => (qg_name (i := 9) (by exact sc.nd) (by exact rfl) (by first | exact Or.inl rfl | exact Or.inr rfl) (by decide) (by first | exact .inl rfl | exact .inr rfl | assumption))) (fun _ _ _ _ _ => qts_nil) (fun _ _ _ _ _ => (q_op op_mod o_mod (QN.qe (qn_opR or_addQ o_add (q_var 9) (q_var 7))) q_int)) (by intro _; rfl) (by intros; rfl) (by intros; rfl) (by intros; rfl))) qa_nil (by rfl)) (by decide) (by decide) (by rfl) (by rfl) (by rfl) (by rfl) (by rfl)) (by rfl))
      (qs_one (qs_if (qt_cmp (or_eqQ (by exact hr.units)) o_eq (QN.qe (qn_call [.bag 0, .bor] C__law_draw (by exact hgd) (by exact hr) (by omega) (by exact rfl) (qa_cons (q_var 0) (qa_cons q_int qa_nil (by rfl)) (by rfl)) (by decide) (by rfl) (by rfl))) q_int (by first | exact nomark _ | rfl)) (qs_one (qs_expr (q_meth (i := 6) PySem.F.slot_list_append PySem.F.type_list_append mt_append m_append (by exact rfl) (by first | exact Or.inl rfl | exact Or.inr (Or.inl rfl) | exact Or.inr (Or.inr rfl)) (qa_cons (QN.qe (qn_call [.bag 0, .bor] C__law_draw (by exact hgd) (by exact hr) (by omega) (by exact rfl) (qa_cons (q_var 0) (qa_cons (q_var 2) qa_nil (by rfl)) (by rfl)) (by decide) (by rfl) (by rfl))) qa_nil (by rfl)) (by decide) (by decide) (by rfl) (by rfl) (by rfl) (by rfl) (by rfl)) (by rfl))) qs_nil)))) (passes_of (by exact rfl)))
      (qs_one (qs_retN (qn_sl sl_Q o_sl (q_var 6) qo_none (qo_some (q_var 3))))))))))))), fun as k x h => ?_⟩
    clear tk hr hgd Fn sc T
    obtain ⟨n, rfl, ⟨n0, n1⟩, h⟩ := h
    walk_at "q"
    refine fun r r0 r1 => ix_pickI (fun v => 2 ≤ v ∧ v ≤ 9) r0 (by show _ < (3 : Int); omega) (fun d hd => ?_) fun v ⟨v0, v1⟩ => ?_
    · simp only [List.mem_cons, List.not_mem_nil, or_false] at hd
      rcases hd with rfl | rfl | rfl <;> exact ⟨_, rfl, by omega⟩
    walk_at "q"
    refine ⟨⟨by omega, by omega⟩, fun r r0 r1 => ?_⟩
    obtain ⟨kd, hk, k0, k1⟩ : ∃ kd : Int, kd = 1 + r ∧ 1 ≤ kd ∧ kd ≤ 9 := ⟨_, rfl, by omega, by omega⟩
    rw [← hk]
    refine ⟨⟨by omega, by omega⟩, fun len l0 l1 => fun c c0 c1 => ⟨by omega, by omega, ?_⟩⟩
    rw [ranged_upto]
    refine comp_rule (fun _ : Unit => [.bag 0, .bor (.int n), .sh (.int kd), .sh (.int len), .no, .no, .no, .no, .no, .no]) (fun i _ acc => ∃ u : List Int, acc = u.map .int ∧ u.length = i ∧ ∀ e ∈ u, 0 ≤ e ∧ e < 9) () ⟨[], rfl, rfl, by simp⟩ (fun i d b acc X hd hI hX => ?_) fun _ acc hI => ?_
    · obtain ⟨u, rfl, hu, hu2⟩ := hI
      obtain ⟨q, hq, rfl⟩ := ints_get hd
      obtain ⟨rfl, hn⟩ := upto_get hq
      walk_at "q"
      refine ⟨⟨by omega, by omega⟩, fun e e0 e1 => ⟨by omega, ?_⟩⟩
      exact hX () _ ⟨u ++ [e], rfl, by rw [List.length_append, hu]; rfl, fun z hz => by
        rcases List.mem_append.mp hz with hz | hz
        · exact hu2 z hz
        · rw [List.mem_singleton] at hz; omega⟩
    obtain ⟨u, rfl, hu, hu2⟩ := hI
    rw [List.length_map, upto_length] at hu
    have hu1 : 1 ≤ u.length := by omega
    have hu7 : u.length ≤ 6 := by omega
    walk_at "q"
    refine fun way w0 w1 => cIf_i (fun h1 => ?_) (fun h1 => ?_)
    · walk_at "q"
      refine ⟨by omega, by omega, ?_⟩
      rw [ranged_upto]
      refine comp_rule (fun _ : Unit => [.bag 0, .bor (.int n), .sh (.int kd), .sh (.int len), .own (.lst (u.map .int)), .sh (.int way), .no, .no, .no, .no]) (fun i _ acc => ∃ u : List Int, acc = u.map .int ∧ u.length = i ∧ ∀ e ∈ u, 0 ≤ e ∧ e < 9) () ⟨[], rfl, rfl, by simp⟩ (fun i d b acc X hd hI hX => ?_) fun _ acc hI => ?_
      · obtain ⟨u2, rfl, hu, hu2⟩ := hI
        obtain ⟨q, hq, rfl⟩ := ints_get hd
        obtain ⟨rfl, hn⟩ := upto_get hq
        walk_at "q"
        refine ⟨⟨by omega, by omega⟩, fun e e0 e1 => ⟨by omega, ?_⟩⟩
        exact hX () _ ⟨u2 ++ [e], rfl, by rw [List.length_append, hu]; rfl, fun z hz => by
          rcases List.mem_append.mp hz with hz | hz
          · exact hu2 z hz
          · rw [List.mem_singleton] at hz; omega⟩
      · obtain ⟨u2, rfl, hu, hu2⟩ := hI
        rw [List.length_map, upto_length] at hu
        walk_at "q"
        exact h u2 (by omega) hu2
    walk_at "q"
    refine cIf_i (fun h2 => ?_) (fun h2 => ?_)
    · walk_at "q"
      have hdv : len / (u.length : Int) ≤ len := Int.ediv_le_self _ (by omega)
      have hdv0 : 0 ≤ len / (u.length : Int) := Int.ediv_nonneg (by omega) (by omega)
      have hm : u.length * (len / (u.length : Int) + 1).toNat ≤ 6 * 402 := Nat.mul_le_mul hu7 (by omega)
      refine ⟨⟨by omega, by omega⟩, by omega, by omega, by omega, ?_⟩
      rw [rep_map, cut_to (by omega), int_take]
      refine h _ ?_ fun e he => hu2 e (rep_mem (List.mem_of_mem_take he))
      rw [List.length_take]; omega
    walk_at "q"
    refine while_rule (fun p : List Int × Sl × Sl => [.bag 0, .bor (.int n), .sh (.int kd), .sh (.int len), p.2.2, .sh (.int way), .own (.lst (p.1.map .int)), p.2.1, .no, .no]) (fun i p => p.1.length ≤ 500 ∧ len.toNat + 10 ≤ i + p.1.length ∧ (0 < i) ∧ (∀ e ∈ p.1, 0 ≤ e ∧ e < 9) ∧ (p.2.2 = .own (.lst (u.map .int)) ∨ p.2.2 = .sh (.lst (u.map .int)))) (len.toNat + 10) ([], .no, _) ⟨by simp, by simp, by omega, by simp, .inl rfl⟩ (fun a h => by omega) (fun i a X hI hX => ?_)
    obtain ⟨f, s7, s4⟩ := a
    obtain ⟨i1, i2, i3, i4, i5⟩ := hI
    simp only at i1 i2 i4 i5
    walk_at "q"
    refine cIf_i (fun h3 => ?_) (fun h3 => ?_)
    rotate_left
    · walk_at "q"
      rw [cut_to (by omega), int_take]
      refine h _ (by rw [List.length_take]; omega) fun e he => i4 e (List.mem_of_mem_take he)
    walk_at "q"
    refine fun sh sh0 sh1 => ?_
    have i6 : ∀ e ∈ f ++ u.map (fun e => (e + sh) % 9), 0 ≤ e ∧ e < 9 := fun e he => by
      rcases List.mem_append.mp he with he | he
      · exact i4 e he
      · obtain ⟨z, _, rfl⟩ := List.mem_map.mp he
        omega
    rcases i5 with rfl | rfl
    · walk_at "q"
      refine comp_mapI (fun e => (e + sh) % 9) (fun j e acc X2 hj hn hl hX2 => ?_) ?_
      · walk_at "q"
        exact ⟨by omega, hX2⟩
      walk_at "q"
      refine ⟨by omega, fun r r0 r1 => ?_⟩
      rw [int_appL]
      refine cIf_i (fun h4 => ?_) (fun h4 => ?_)
      · walk_at "q"
        refine ⟨⟨by omega, by omega⟩, fun e e0 e1 => ⟨by rw [List.length_append, List.length_map]; omega, ?_⟩⟩
        refine hX (f ++ u.map (fun e => (e + sh) % 9) ++ [e], _, _) ⟨?_, ?_, ?_, fun z hz => ?_, .inr rfl⟩
        · simp only [List.length_append, List.length_map, List.length_singleton]; omega
        · simp only [List.length_append, List.length_map, List.length_singleton]; omega
        · omega
        · rcases List.mem_append.mp hz with hz | hz
          · exact i6 z hz
          · rw [List.mem_singleton] at hz; omega
      · walk_at "q"
        refine hX (f ++ u.map (fun e => (e + sh) % 9), _, _) ⟨?_, ?_, ?_, i6, .inr rfl⟩
        · simp only [List.length_append, List.length_map]; omega
        · simp only [List.length_append, List.length_map]; omega
        · omega
    · walk_at "q"
      refine comp_mapI (fun e => (e + sh) % 9) (fun j e acc X2 hj hn hl hX2 => ?_) ?_
      · walk_at "q"
        exact ⟨by omega, hX2⟩
      walk_at "q"
      refine ⟨by omega, fun r r0 r1 => ?_⟩
      rw [int_appL]
      refine cIf_i (fun h4 => ?_) (fun h4 => ?_)
      · walk_at "q"
        refine ⟨⟨by omega, by omega⟩, fun e e0 e1 => ⟨by rw [List.length_append, List.length_map]; omega, ?_⟩⟩
        refine hX (f ++ u.map (fun e => (e + sh) % 9) ++ [e], _, _) ⟨?_, ?_, ?_, fun z hz => ?_, .inr rfl⟩
        · simp only [List.length_append, List.length_map, List.length_singleton]; omega
        · simp only [List.length_append, List.length_map, List.length_singleton]; omega
        · omega
        · rcases List.mem_append.mp hz with hz | hz
          · exact i6 z hz
          · rw [List.mem_singleton] at hz; omega
      · walk_at "q"
        refine hX (f ++ u.map (fun e => (e + sh) % 9), _, _) ⟨?_, ?_, ?_, i6, .inr rfl⟩
        · simp only [List.length_append, List.length_map]; omega
        · simp only [List.length_append, List.length_map]; omega
        · omega
theorem cal__law_symbols (T : Tx K mg) : Cal P w K mg base sprG 2 "_law_symbols" [] sp__law_symbols := by
  obtain ⟨fd, G, Fn⟩ := fn__law_symbols (P := P) (w := w) (base := base) T
  exact ⟨_, fd, _, [], G, T.g__law_symbols, Fn.kp, Fn.bindsN fun _ _ _ _ _ _ us hl => match us, hl with | [_, _], _ => rfl, .nil, rfl⟩
end

local macro_rules | `(tactic| walk_at "p") => `(tactic| (repeat (rw [pkV]; try walk_at "q")))
local macro_rules | `(tactic| walk_at "len") => `(tactic| (first | omega | (simp only [List.length_map, List.length_append, List.length_reverse, List.length_take, List.length_drop, List.length_dropLast, List.length_cons, List.length_nil, List.length_set, List.length_replicate, dist_length, nxt_length, idsD_length, numbered_length, ranged_length, upto_length]; omega)))
local macro_rules | `(tactic| walk_at "q") => `(tactic| (try simp only [↓hold1, ↓hold2, ↓cIf_t, ↓cIf_f, ↓lk0, ↓lk1, ↓st0, ↓st1, ↓wp0, ↓wp1, ↓wpm, ↓wpn, ↓sD_sh, ↓sD_own, ↓sD_bor, ↓rd_d, ↓rd_p, ↓dB_b, ↓dI_i, ↓dX_x, ↓dK_i, ↓dK_s, ↓dL_l, ↓dIt_l, ↓dIt_t, ↓dIt_s, ↓shS_sh, ↓shS_own, ↓shS_bor, ↓sh1_d, ↓sh1_p, ↓shs0, ↓shs1, ↓ress0, ↓ress1, ↓bagS_b, ↓arg_bor, ↓arg_sh, ↓arg_bag, ↓args0, ↓args1, ↓ap0, ↓ap0', ↓ap1, ↓reS_sh, ↓reS_own, ↓reS_bor, ↓ret_d, ↓ret_p, ↓asS_sh, ↓asS_own, ↓asS_bor, ↓as_d, ↓as_p, ↓rv_sh, ↓rv_own, ↓da_sh, ↓da_own, ↓itS_sh, ↓itS_own, ↓itS_bor, ↓it_d, ↓it_p, ↓e_var, ↓e_sh, ↓e_own, ↓e_bor, ↓e_bag, ↓e_c, ↓e_op, ↓e_opN, ↓e_opR, ↓e_test, ↓e_and, ↓e_or, ↓e_not, ↓e_andV, ↓e_orV, ↓e_notV, ↓e_ifE, ↓e_un, ↓e_nil, ↓e_cons, ↓e_cb, ↓e_cbN, ↓e_cbR, ↓e_ofN, ↓e_lst, ↓e_tup, ↓e_call, ↓e_callS, ↓e_next, ↓e_seq, ↓e_brk, ↓e_ct, ↓e_drop, ↓e_ret, ↓e_retN, ↓e_ret0, ↓e_if, ↓e_set, ↓e_setN, ↓e_aug, ↓e_raise, ↓e_name, ↓e_gnil, ↓e_gcons, ↓e_gtup, ↓e_for, ↓e_seqI, ↓e_enum, ↓rg1_i, ↓rg2_i, ↓e_rng1, ↓e_rng2, ↓e_lc, ↓e_yes, ↓e_onone, ↓e_osome, ↓e_sl, ↓e_isi, ↓e_isi2, ↓ownL_l, ↓ownA_l, ↓sO_o, ↓e_meth, ↓e_meth0, ↓e_dnew, ↓e_dget, ↓e_din, ↓e_dput, ↓e_lput, ↓e_lenSet, ↓e_chain, ↓e_par, ↓e_asgT, ↓e_rev, ↓e_lenD, ↓e_toN, ↓e_parN, ↓e_getD, ↓e_rdm, ↓ok_l, ↓ok_r, ↓ok_s, ↓f_inC, ↓f_notInC, ↓f_inI, ↓f_notInI, ↓f_inIT, ↓f_inS, ↓f_notInS, ↓f_count, ↓rvO_o, ↓pkC0, ↓pkC_sh, ↓pkC_own, ↓pkC_bor, ↓pkC_bag, ↓pkC_no, ↓e_box, ↓e_nsNil, ↓e_nsCons, ↓e_bTest, ↓allL0, ↓allL1, ↓e_bLoop, ↓f_ix0, ↓f_ix1, ↓f_ix2, ↓f_ix3, ↓f_ix4, ↓f_ixT0, ↓f_ixT1, ↓f_ixT2, ↓f_ixT3, ↓f_ixT4, ↓e_loopC, ↓e_loopN, ↓e_step, ↓e_exI, ↓e_toI, ↓e_LAll, ↓f_eqW1, ↓f_eqW2, ↓f_eqW3, ↓f_sLstS, ↓f_sLstB, ↓e_zip, ↓f_zipL, ↓f_dictP, ↓f_dictD, ↓f_sortI, ↓e_dct1, ↓f_eqNN, ↓e_sortSet, ↓f_dSeqL, ↓f_dSeqT, ↓e_lenSetS, ↓f_notScrL, ↓f_notScrT, ↓f_mulS, ↓f_eqSL, ↓f_neSL, ↓f_eqSNil, ↓f_neSNil, ↓f_neNN, ↓f_notInST, ↓f_notIn3, ↓e_dc, ↓e_lstRg1, ↓e_lstRg2, ↓f_isNo, ↓e_lcO, ↓f_dLTl, ↓f_dLTt, ↓e_tupSh, ↓e_callSD, ↓f_ltQI, ↓f_ltQL, ↓f_join, ↓f_split, ↓f_intS, ↓f_inSign, ↓f_notInSign, ↓f_itS, ↓e_dS, ↓e_strI, ↓e_ifN, ↓e_fmtS, ↓e_fmtI, ↓e_fmt, ↓e_fs, ↓e_js0, ↓e_js1, ↓e_never, ↓f_sub, ↓f_mod, ↓f_div, ↓f_divW, ↓f_pow, ↓f_lt, ↓f_le, ↓f_gt, ↓f_ge, ↓f_addI, ↓f_addS, ↓f_addL, ↓f_mulI, ↓f_mulL, ↓f_eqI, ↓f_neI, ↓f_eqS, ↓f_neS, ↓f_eqB, ↓f_neB, ↓f_isN, ↓f_isNotN, ↓f_lenL, ↓f_lenT, ↓f_lenR, ↓f_lenS, ↓f_min, ↓f_max, ↓f_abs, ↓f_intI, ↓f_intB, ↓f_strI, ↓f_listL, ↓f_listT, ↓f_listS, ↓f_tupL, ↓f_repr, ↓f_slL, ↓f_slR, ↓f_slT, ↓f_app, ↓f_pop, ↓f_popAt, ↓f_ext, ↓f_ins, ↓f_allM, ↓f_anyM, ↓f_sumM, ↓f_eqIL, ↓f_neIL, ↓f_eqIT, ↓f_neIT, ↓f_eqNil, ↓f_neNil, ↓f_neg, ↓f_clear, ↓e_is_integer, ↓e_is_integerN, ↓e_is_sequence, ↓e_is_distances, ↓e_is_number, ↓e_first_bad_word, ↓e__law_draw, ↓e__law_symbols, ty_int_n, ty_int_b, ty_int_i, ty_int_s, ty_int_l, ty_int_t, ty_int_r, ty_int_d, ty_bool_n, ty_bool_b, ty_bool_i, ty_bool_s, ty_bool_l, ty_bool_t, ty_bool_r, ty_bool_d, ty_str_n, ty_str_b, ty_str_i, ty_str_s, ty_str_l, ty_str_t, ty_str_r, ty_str_d, ty_list_n, ty_list_b, ty_list_i, ty_list_s, ty_list_l, ty_list_t, ty_list_r, ty_list_d, ty_tuple_n, ty_tuple_b, ty_tuple_i, ty_tuple_s, ty_tuple_l, ty_tuple_t, ty_tuple_r, ty_tuple_d, ty_dict_n, ty_dict_b, ty_dict_i, ty_dict_s, ty_dict_l, ty_dict_t, ty_dict_r, ty_dict_d, cIf_t, cIf_f, cIf_n, isSc_n, isSc_b, isSc_i, isSc_s, ex_some, Int.reduceLT, Int.reduceLE, Int.reduceGT, Int.reduceGE, Int.reduceEq, Int.reduceNe, Int.reduceAdd, Int.reduceSub, Int.reduceMul, Int.reduceNeg, Int.reduceToNat, Int.reducePow, Nat.reduceLT, Nat.reduceAdd, Nat.reduceSub, Nat.reduceLeDiff, Nat.reduceEqDiff, Nat.reduceMul, Int.cast_ofNat_Int, true_or, true_and, and_true, List.length_cons, List.length_nil, List.length_map, n_n, n_b, n_i, n_s, n_l, n_t, se_c, se_n, se_0, ar_b, ar_s, ar_g, Bool.or_true, Bool.true_or, Bool.or_false, Bool.false_or, Bool.and_true, Bool.true_and, Bool.and_false, Bool.false_and, Bool.not_true, Bool.not_false, Bool.not_not, decide_true, decide_false, int_app, filter_tt, eq_self, Option.map_some, Option.map_none, Option.isSome_some, Option.isSome_none, Bool.false_eq_true, if_false, if_true, Nat.zero_add, Int.zero_add, Int.add_zero, Int.sub_zero, List.map_nil, List.nil_append, List.append_nil, int_rev, int_take, int_drop, int_dropLast, int_appL, e_toI, e_is_integer, e_is_integerN, e_is_sequence, e_is_distances, e_is_number, e_first_bad_word, e__law_draw, e__law_symbols]))

/-! ### _law_distances -/
def sp__law_distances : Spq := fun as k _ => ∃ (ds : List D) (ks : List Key), as = [.bor (.lst ds)] ∧ ds.map keyD = ks.map some ∧ ds.length < 1000000 ∧ k (.own (.lst ((dist ks).map .int)))
theorem e__law_distances {w : List Int} {k : Rv → Prop} {x : Str → List D → Prop} : sp__law_distances [.bor (.lst (w.map .int))] k x = (w.length < 1000000 ∧ k (.own (.lst ((dist w).map .int)))) := by
  have e : ∀ ks : List Key, (w.map D.int).map keyD = ks.map some → ks = w.map .inl := fun ks h => by
    have : (w.map (Sum.inl : Int → Key)).map some = ks.map some := by rw [← h, List.map_map, List.map_map]; rfl
    exact ((List.map_inj_right (fun a b h => Option.some.inj h)).mp this).symm
  have e2 : dist (w.map (Sum.inl : Int → Key)) = dist w := dist_map _ (fun a b h => Sum.inl.inj h) w
  apply propext
  constructor
  · rintro ⟨ds, ks, h, h2, h3, q⟩
    cases h
    have := e ks h2
    subst this
    rw [e2] at q
    rw [List.length_map] at h3
    exact ⟨h3, q⟩
  · rintro ⟨h3, q⟩
    refine ⟨_, w.map .inl, rfl, by rw [List.map_map, List.map_map]; rfl, by rw [List.length_map]; exact h3, ?_⟩
    rw [e2]; exact q
section
variable {P : Program} {w : World} {K : Fg} {mg : Str → Option Value} {base : Heap} {g : Gd}
theorem sc__law_distances : FnScope ["_law_symbols_here", "_law_found", "_law_last", "_law_position", "_law_symbol"] ["_law_symbols_here"] (defScope s__law_distances) := ⟨rfl, rfl, rfl, by decide +kernel, rfl, by decide +kernel, by decide +kernel⟩
theorem fn__law_distances (T : Tx K mg) : ∃ fd, FnG P w K mg base 1 (He.ga K "_law_distances") fd ["_law_symbols_here"] (spQ K mg g sp__law_distances) ∧ FunD K "_law_distances" "_law_distances" (defArgs s__law_distances) (defBody s__law_distances) (defScope s__law_distances) [] [] (He.ga K "_law_distances") fd := by
  have sc := sc__law_distances
  obtain ⟨fd, Fn⟩ := T.f__law_distances
  refine ⟨fd, fn_q g Fn sc (by decide) (fun as k x h => ?_) fun cdv A outer s H E hgd hr => ?_, Fn⟩
  · unfold sp__law_distances at h; first | (split at h <;> first | rfl | exact h.elim) | (obtain ⟨_, rfl, _⟩ := h; rfl) | (obtain ⟨_, _, rfl, _⟩ := h; rfl) | (obtain ⟨_, _, _, rfl, _⟩ := h; rfl) | (obtain ⟨_, _, _, _, rfl, _⟩ := h; rfl) | (obtain ⟨_, _, _, _, _, rfl, _⟩ := h; rfl) | (obtain ⟨_, _, _, _, _, _, rfl, _⟩ := h; rfl)
  · have tk : Takes (cxOf (L2.CX P w) P w K mg base ["_law_symbols_here", "_law_found", "_law_last", "_law_position", "_law_symbol"] "_law_distances" (defScope s__law_distances) (He.ga K "_law_distances") cdv A outer s H E) (fun cls d _ H => E cls d H) := takes_of rfl rfl rfl rfl
    refine ⟨_, _, (qs_cons (qs_setN (i := 1) (by exact sc.nd) (by exact rfl) (Or.inl rfl) (qn_lst qa_nil) (by rfl) (by first | exact .inl rfl | exact .inr rfl | assumption))
      (qs_cons (qs_setN (i := 2) (by exact sc.nd) (by exact rfl) (Or.inl rfl) qn_dict (by rfl) (by first | exact .inl rfl | exact .inr rfl | assumption))
      (qs_cons (qs_for [3, 4] (qi_enum (by exact rfl) T.z_enumerate (q_var 0) (by rfl)) (qg_tup (n := 2) (by exact rfl) (qgs_cons (qg_name (i := 3) (by exact sc.nd) (by exact rfl) (by first | exact Or.inl rfl | exact Or.inr rfl) (by decide) (by first | exact .inl rfl | exact .inr rfl | assumption)) (qgs_cons (qg_name (i := 4) (by exact sc.nd) (by exact rfl) (by first | exact Or.inl rfl | exact Or.inr rfl) (by decide) (by first | exact .inl rfl | exact .inr rfl | assumption)) qgs_nil (by rfl)) (by rfl)) (by rfl) (by rfl))
      (qs_cons (qs_expr (q_meth (i := 1) PySem.F.slot_list_append PySem.F.type_list_append mt_append m_append (by exact rfl) (by first | exact Or.inl rfl | exact Or.inr (Or.inl rfl) | exact Or.inr (Or.inr rfl)) (qa_cons (q_op op_sub o_sub (q_var 3) (q_getD (by exact hu_of hr) (q_var 2) (q_var 4) (q_var 3) ⟨(by rfl), (by rfl), (by rfl), (by rfl)⟩)) qa_nil (by rfl)) (by decide) (by decide) (by rfl) (by rfl) (by rfl) (by rfl) (by rfl)) (by rfl))
      (qs_one (qs_dput (i := 2) (by exact hu_of hr) (by exact rfl) (by first | exact Or.inl rfl | exact Or.inr (Or.inl rfl) | exact Or.inr (Or.inr rfl)) (q_var 4) (q_var 3) (by decide) (by decide) (by rfl)))) (passes_of (by exact rfl)) (by rfl) (by intro _; rfl))
      (qs_one (qs_ret (q_var 1)))))), fun as k x h => ?_⟩
    clear tk hr hgd Fn sc T
    obtain ⟨ds, ks, rfl, hk, hl, h⟩ := h
    walk_at "q"
    have hkl : ks.length = ds.length := by have := congrArg List.length hk; simpa using this.symm
    have kAt : ∀ (n : Nat) (e : D), ds[n]? = some e → ∃ key, ks[n]? = some key ∧ keyD e = some key := fun n e he => by
      have := congrArg (fun l => l[n]?) hk
      simp only [List.getElem?_map, he, Option.map_some] at this
      cases hkn : ks[n]? with
      | none => rw [hkn] at this; cases this
      | some key => rw [hkn] at this; exact ⟨key, rfl, by simpa using this⟩
    refine loop_rule (fun (p : List (Key × D) × List Int × Sl × Sl) => [.bor (.lst ds), .own (.lst (p.2.1.map .int)), .own (.dct p.1), p.2.2.1, p.2.2.2])
      (fun m p => p.2.1 = (List.range m).map (dAt ks) ∧ p.1.length ≤ m ∧ ∀ key, vD p.1 key = (lastIn (fun j => decide (ks[j]? = some key)) m).map fun j => D.int (j : Nat)) ([], [], .no, .no) ⟨rfl, Nat.le_refl _, fun key => rfl⟩ (fun m d a X hd hI hX => ?_) fun a hI => ?_
    · obtain ⟨kvs, w, s1, s2⟩ := a
      obtain ⟨hw, hl2, hv⟩ := hI
      replace hw : w = (List.range m).map (dAt ks) := hw
      replace hl2 : kvs.length ≤ m := hl2
      replace hv : ∀ key, vD kvs key = (lastIn (fun j => decide (ks[j]? = some key)) m).map fun j => D.int (j : Nat) := hv
      obtain ⟨e, he, rfl⟩ := num_get hd
      obtain ⟨key, hkm, hke⟩ := kAt m e he
      have hm : m < ds.length := (List.getElem?_eq_some_iff.mp he).1
      have wl : w.length = m := by rw [hw]; simp
      have fin : ∀ s1' s2', X [.bor (.lst ds), .own (.lst ((w ++ [dAt ks m]).map .int)), .own (.dct (pD kvs key (.int m))), s1', s2'] := fun s1' s2' => by
        refine hX (pD kvs key (.int m), w ++ [dAt ks m], s1', s2') ⟨?_, ?_, fun k2 => ?_⟩
        · show w ++ [dAt ks m] = _
          rw [List.range_succ, List.map_append, hw]; rfl
        · exact Nat.le_trans (pD_length kvs key _) (by omega)
        · show vD (pD kvs key (.int m)) k2 = _
          rw [vD_put]
          unfold lastIn
          rw [hkm]
          by_cases h1 : k2 = key
          · subst h1; simp
          · have : ¬ key = k2 := fun e => h1 e.symm
            rw [if_neg h1, hv]
            simp [this]
      have hdk : ∀ f : Key → Prop, dK f e = f key := fun f => by
        cases e <;> cases hke <;> rfl
      walk_at "q"
      simp only [hdk]
      cases hc : lastIn (fun j => decide (ks[j]? = some key)) m with
      | none =>
        have hv2 : vD kvs key = none := by rw [hv, hc]; rfl
        have hd0 : dAt ks m = 0 := by unfold dAt; rw [hkm, hc]
        rw [hd0] at fin
        refine getC_none hv2 ?_
        try walk_at "q"
        try simp only [hdk, Int.sub_self]
        exact ⟨by omega, by omega, fin _ _⟩
      | some j =>
        have hv2 : vD kvs key = some (.int (j : Nat)) := by rw [hv, hc]; rfl
        have hd0 : dAt ks m = (m : Int) - (j : Nat) := by unfold dAt; rw [hkm, hc]
        rw [hd0] at fin
        refine getC_some hv2 ?_
        try walk_at "q"
        try simp only [hdk]
        exact ⟨by omega, by omega, fin _ _⟩
    · walk_at "q"
      obtain ⟨hw, _, _⟩ := hI
      rw [numbered_length] at hw
      rw [show a.2.1 = dist ks by rw [hw]; unfold dist; rw [hkl]]
      exact h
theorem cal__law_distances (T : Tx K mg) : Cal P w K mg base g 1 "_law_distances" [] sp__law_distances := by
  obtain ⟨fd, G, Fn⟩ := fn__law_distances (P := P) (w := w) (base := base) (g := g) T
  exact ⟨_, fd, _, [], G, T.g__law_distances, Fn.kp, Fn.bindsN fun _ _ _ _ _ _ us hl => match us, hl with | [_], _ => rfl, .nil, rfl⟩
end

local macro_rules | `(tactic| walk_at "p") => `(tactic| (repeat (rw [pkV]; try walk_at "q")))
local macro_rules | `(tactic| walk_at "len") => `(tactic| (first | omega | (simp only [List.length_map, List.length_append, List.length_reverse, List.length_take, List.length_drop, List.length_dropLast, List.length_cons, List.length_nil, List.length_set, List.length_replicate, dist_length, nxt_length, idsD_length, numbered_length, ranged_length, upto_length]; omega)))
local macro_rules | `(tactic| walk_at "q") => `(tactic| (try simp only [↓hold1, ↓hold2, ↓cIf_t, ↓cIf_f, ↓lk0, ↓lk1, ↓st0, ↓st1, ↓wp0, ↓wp1, ↓wpm, ↓wpn, ↓sD_sh, ↓sD_own, ↓sD_bor, ↓rd_d, ↓rd_p, ↓dB_b, ↓dI_i, ↓dX_x, ↓dK_i, ↓dK_s, ↓dL_l, ↓dIt_l, ↓dIt_t, ↓dIt_s, ↓shS_sh, ↓shS_own, ↓shS_bor, ↓sh1_d, ↓sh1_p, ↓shs0, ↓shs1, ↓ress0, ↓ress1, ↓bagS_b, ↓arg_bor, ↓arg_sh, ↓arg_bag, ↓args0, ↓args1, ↓ap0, ↓ap0', ↓ap1, ↓reS_sh, ↓reS_own, ↓reS_bor, ↓ret_d, ↓ret_p, ↓asS_sh, ↓asS_own, ↓asS_bor, ↓as_d, ↓as_p, ↓rv_sh, ↓rv_own, ↓da_sh, ↓da_own, ↓itS_sh, ↓itS_own, ↓itS_bor, ↓it_d, ↓it_p, ↓e_var, ↓e_sh, ↓e_own, ↓e_bor, ↓e_bag, ↓e_c, ↓e_op, ↓e_opN, ↓e_opR, ↓e_test, ↓e_and, ↓e_or, ↓e_not, ↓e_andV, ↓e_orV, ↓e_notV, ↓e_ifE, ↓e_un, ↓e_nil, ↓e_cons, ↓e_cb, ↓e_cbN, ↓e_cbR, ↓e_ofN, ↓e_lst, ↓e_tup, ↓e_call, ↓e_callS, ↓e_next, ↓e_seq, ↓e_brk, ↓e_ct, ↓e_drop, ↓e_ret, ↓e_retN, ↓e_ret0, ↓e_if, ↓e_set, ↓e_setN, ↓e_aug, ↓e_raise, ↓e_name, ↓e_gnil, ↓e_gcons, ↓e_gtup, ↓e_for, ↓e_seqI, ↓e_enum, ↓rg1_i, ↓rg2_i, ↓e_rng1, ↓e_rng2, ↓e_lc, ↓e_yes, ↓e_onone, ↓e_osome, ↓e_sl, ↓e_isi, ↓e_isi2, ↓ownL_l, ↓ownA_l, ↓sO_o, ↓e_meth, ↓e_meth0, ↓e_dnew, ↓e_dget, ↓e_din, ↓e_dput, ↓e_lput, ↓e_lenSet, ↓e_chain, ↓e_par, ↓e_asgT, ↓e_rev, ↓e_lenD, ↓e_toN, ↓e_parN, ↓e_getD, ↓e_rdm, ↓ok_l, ↓ok_r, ↓ok_s, ↓f_inC, ↓f_notInC, ↓f_inI, ↓f_notInI, ↓f_inIT, ↓f_inS, ↓f_notInS, ↓f_count, ↓rvO_o, ↓pkC0, ↓pkC_sh, ↓pkC_own, ↓pkC_bor, ↓pkC_bag, ↓pkC_no, ↓e_box, ↓e_nsNil, ↓e_nsCons, ↓e_bTest, ↓allL0, ↓allL1, ↓e_bLoop, ↓f_ix0, ↓f_ix1, ↓f_ix2, ↓f_ix3, ↓f_ix4, ↓f_ixT0, ↓f_ixT1, ↓f_ixT2, ↓f_ixT3, ↓f_ixT4, ↓e_loopC, ↓e_loopN, ↓e_step, ↓e_exI, ↓e_toI, ↓e_LAll, ↓f_eqW1, ↓f_eqW2, ↓f_eqW3, ↓f_sLstS, ↓f_sLstB, ↓e_zip, ↓f_zipL, ↓f_dictP, ↓f_dictD, ↓f_sortI, ↓e_dct1, ↓f_eqNN, ↓e_sortSet, ↓f_dSeqL, ↓f_dSeqT, ↓e_lenSetS, ↓f_notScrL, ↓f_notScrT, ↓f_mulS, ↓f_eqSL, ↓f_neSL, ↓f_eqSNil, ↓f_neSNil, ↓f_neNN, ↓f_notInST, ↓f_notIn3, ↓e_dc, ↓e_lstRg1, ↓e_lstRg2, ↓f_isNo, ↓e_lcO, ↓f_dLTl, ↓f_dLTt, ↓e_tupSh, ↓e_callSD, ↓f_ltQI, ↓f_ltQL, ↓f_join, ↓f_split, ↓f_intS, ↓f_inSign, ↓f_notInSign, ↓f_itS, ↓e_dS, ↓e_strI, ↓e_ifN, ↓e_fmtS, ↓e_fmtI, ↓e_fmt, ↓e_fs, ↓e_js0, ↓e_js1, ↓e_never, ↓f_sub, ↓f_mod, ↓f_div, ↓f_divW, ↓f_pow, ↓f_lt, ↓f_le, ↓f_gt, ↓f_ge, ↓f_addI, ↓f_addS, ↓f_addL, ↓f_mulI, ↓f_mulL, ↓f_eqI, ↓f_neI, ↓f_eqS, ↓f_neS, ↓f_eqB, ↓f_neB, ↓f_isN, ↓f_isNotN, ↓f_lenL, ↓f_lenT, ↓f_lenR, ↓f_lenS, ↓f_min, ↓f_max, ↓f_abs, ↓f_intI, ↓f_intB, ↓f_strI, ↓f_listL, ↓f_listT, ↓f_listS, ↓f_tupL, ↓f_repr, ↓f_slL, ↓f_slR, ↓f_slT, ↓f_app, ↓f_pop, ↓f_popAt, ↓f_ext, ↓f_ins, ↓f_allM, ↓f_anyM, ↓f_sumM, ↓f_eqIL, ↓f_neIL, ↓f_eqIT, ↓f_neIT, ↓f_eqNil, ↓f_neNil, ↓f_neg, ↓f_clear, ↓e_is_integer, ↓e_is_integerN, ↓e_is_sequence, ↓e_is_distances, ↓e_is_number, ↓e_first_bad_word, ↓e__law_draw, ↓e__law_symbols, ↓e__law_distances, ty_int_n, ty_int_b, ty_int_i, ty_int_s, ty_int_l, ty_int_t, ty_int_r, ty_int_d, ty_bool_n, ty_bool_b, ty_bool_i, ty_bool_s, ty_bool_l, ty_bool_t, ty_bool_r, ty_bool_d, ty_str_n, ty_str_b, ty_str_i, ty_str_s, ty_str_l, ty_str_t, ty_str_r, ty_str_d, ty_list_n, ty_list_b, ty_list_i, ty_list_s, ty_list_l, ty_list_t, ty_list_r, ty_list_d, ty_tuple_n, ty_tuple_b, ty_tuple_i, ty_tuple_s, ty_tuple_l, ty_tuple_t, ty_tuple_r, ty_tuple_d, ty_dict_n, ty_dict_b, ty_dict_i, ty_dict_s, ty_dict_l, ty_dict_t, ty_dict_r, ty_dict_d, cIf_t, cIf_f, cIf_n, isSc_n, isSc_b, isSc_i, isSc_s, ex_some, Int.reduceLT, Int.reduceLE, Int.reduceGT, Int.reduceGE, Int.reduceEq, Int.reduceNe, Int.reduceAdd, Int.reduceSub, Int.reduceMul, Int.reduceNeg, Int.reduceToNat, Int.reducePow, Nat.reduceLT, Nat.reduceAdd, Nat.reduceSub, Nat.reduceLeDiff, Nat.reduceEqDiff, Nat.reduceMul, Int.cast_ofNat_Int, true_or, true_and, and_true, List.length_cons, List.length_nil, List.length_map, n_n, n_b, n_i, n_s, n_l, n_t, se_c, se_n, se_0, ar_b, ar_s, ar_g, Bool.or_true, Bool.true_or, Bool.or_false, Bool.false_or, Bool.and_true, Bool.true_and, Bool.and_false, Bool.false_and, Bool.not_true, Bool.not_false, Bool.not_not, decide_true, decide_false, int_app, filter_tt, eq_self, Option.map_some, Option.map_none, Option.isSome_some, Option.isSome_none, Bool.false_eq_true, if_false, if_true, Nat.zero_add, Int.zero_add, Int.add_zero, Int.sub_zero, List.map_nil, List.nil_append, List.append_nil, int_rev, int_take, int_drop, int_dropLast, int_appL, e_toI, e_is_integer, e_is_integerN, e_is_sequence, e_is_distances, e_is_number, e_first_bad_word, e__law_draw, e__law_symbols, e__law_distances]))

/-! ### _law_dressed -/
def sp__law_dressed : Spq := fun as k _ => ∃ ds, as = [.bag 0, .bor (.lst ds)] ∧ ∀ d, d = .lst ds ∨ d = .tup ds → k (.sh d)
theorem e__law_dressed {ds : List D} {k : Rv → Prop} {x : Str → List D → Prop} : sp__law_dressed [.bag 0, .bor (.lst ds)] k x = (∀ d, d = .lst ds ∨ d = .tup ds → k (.sh d)) := propext ⟨fun ⟨_, h, q⟩ => (by cases h; exact q), fun q => ⟨_, rfl, q⟩⟩
section
variable {P : Program} {w : World} {K : Fg} {mg : Str → Option Value} {base : Heap}
theorem sc__law_dressed : FnScope ["_law_spring_here", "_law_items"] ["_law_spring_here", "_law_items"] (defScope s__law_dressed) := ⟨rfl, rfl, rfl, by decide +kernel, rfl, by decide +kernel, by decide +kernel⟩
theorem fn__law_dressed (T : Tx K mg) : ∃ fd, FnG P w K mg base 2 (He.ga K "_law_dressed") fd ["_law_spring_here", "_law_items"] (spQ K mg sprG sp__law_dressed) ∧ FunD K "_law_dressed" "_law_dressed" (defArgs s__law_dressed) (defBody s__law_dressed) (defScope s__law_dressed) [] [] (He.ga K "_law_dressed") fd := by
  have sc := sc__law_dressed
  have C__law_draw : Cal P w K mg base sprG 1 "_law_draw" [] sp__law_draw := cal__law_draw T
  obtain ⟨fd, Fn⟩ := T.f__law_dressed
  refine ⟨fd, fn_q sprG Fn sc (by decide) (fun as k x h => ?_) fun cdv A outer s H E hgd hr => ?_, Fn⟩
  · unfold sp__law_dressed at h; first | (split at h <;> first | rfl | exact h.elim) | (obtain ⟨_, rfl, _⟩ := h; rfl) | (obtain ⟨_, _, rfl, _⟩ := h; rfl) | (obtain ⟨_, _, _, rfl, _⟩ := h; rfl) | (obtain ⟨_, _, _, _, rfl, _⟩ := h; rfl) | (obtain ⟨_, _, _, _, _, rfl, _⟩ := h; rfl) | (obtain ⟨_, _, _, _, _, _, rfl, _⟩ := h; rfl)
  · have tk : Takes (cxOf (L2.CX P w) P w K mg base ["_law_spring_here", "_law_items"] "_law_dressed" (defScope s__law_dressed) (He.ga K "_law_dressed") cdv A outer s H E) (fun cls d _ H => E cls d H) := takes_of rfl rfl rfl rfl
    refine ⟨_, _, (qs_one (qs_ret (q_ifExp (qt_cmp (or_eqQ (by exact hr.units)) o_eq (QN.qe (qn_call [.bag 0, .bor] C__law_draw (by exact hgd) (by exact hr) (by omega) (by exact rfl) (qa_cons (q_var 0) (qa_cons q_int qa_nil (by rfl)) (by rfl)) (by decide) (by rfl) (by rfl))) q_int (by first | exact nomark _ | rfl)) (QN.qe (qn_ty call_list_of c_list (by exact rfl) T.z_list (by decide +kernel) (qa_cons (q_var 1) qa_nil (by rfl)) (by decide) (by decide) (by rfl) (by rfl))) (QN.qe (qn_ty call_tuple_of c_tuple (by exact rfl) T.z_tuple (by decide +kernel) (qa_cons (q_var 1) qa_nil (by rfl)) (by decide) (by decide) (by rfl) (by rfl)))))), fun as k x h => ?_⟩
    clear tk hr hgd Fn sc T
    obtain ⟨ds, rfl, h⟩ := h
    walk_at "q"
    refine fun r r0 r1 => cIf_i (fun h1 => ?_) (fun h1 => ?_)
    · walk_at "q"
      exact h _ (.inl rfl)
    · walk_at "q"
      exact h _ (.inr rfl)
theorem cal__law_dressed (T : Tx K mg) : Cal P w K mg base sprG 2 "_law_dressed" [] sp__law_dressed := by
  obtain ⟨fd, G, Fn⟩ := fn__law_dressed (P := P) (w := w) (base := base) T
  exact ⟨_, fd, _, [], G, T.g__law_dressed, Fn.kp, Fn.bindsN fun _ _ _ _ _ _ us hl => match us, hl with | [_, _], _ => rfl, .nil, rfl⟩
end

local macro_rules | `(tactic| walk_at "p") => `(tactic| (repeat (rw [pkV]; try walk_at "q")))
local macro_rules | `(tactic| walk_at "len") => `(tactic| (first | omega | (simp only [List.length_map, List.length_append, List.length_reverse, List.length_take, List.length_drop, List.length_dropLast, List.length_cons, List.length_nil, List.length_set, List.length_replicate, dist_length, nxt_length, idsD_length, numbered_length, ranged_length, upto_length]; omega)))
local macro_rules | `(tactic| walk_at "q") => `(tactic| (try simp only [↓hold1, ↓hold2, ↓cIf_t, ↓cIf_f, ↓lk0, ↓lk1, ↓st0, ↓st1, ↓wp0, ↓wp1, ↓wpm, ↓wpn, ↓sD_sh, ↓sD_own, ↓sD_bor, ↓rd_d, ↓rd_p, ↓dB_b, ↓dI_i, ↓dX_x, ↓dK_i, ↓dK_s, ↓dL_l, ↓dIt_l, ↓dIt_t, ↓dIt_s, ↓shS_sh, ↓shS_own, ↓shS_bor, ↓sh1_d, ↓sh1_p, ↓shs0, ↓shs1, ↓ress0, ↓ress1, ↓bagS_b, ↓arg_bor, ↓arg_sh, ↓arg_bag, ↓args0, ↓args1, ↓ap0, ↓ap0', ↓ap1, ↓reS_sh, ↓reS_own, ↓reS_bor, ↓ret_d, ↓ret_p, ↓asS_sh, ↓asS_own, ↓asS_bor, ↓as_d, ↓as_p, ↓rv_sh, ↓rv_own, ↓da_sh, ↓da_own, ↓itS_sh, ↓itS_own, ↓itS_bor, ↓it_d, ↓it_p, ↓e_var, ↓e_sh, ↓e_own, ↓e_bor, ↓e_bag, ↓e_c, ↓e_op, ↓e_opN, ↓e_opR, ↓e_test, ↓e_and, ↓e_or, ↓e_not, ↓e_andV, ↓e_orV, ↓e_notV, ↓e_ifE, ↓e_un, ↓e_nil, ↓e_cons, ↓e_cb, ↓e_cbN, ↓e_cbR, ↓e_ofN, ↓e_lst, ↓e_tup, ↓e_call, ↓e_callS, ↓e_next, ↓e_seq, ↓e_brk, ↓e_ct, ↓e_drop, ↓e_ret, ↓e_retN, ↓e_ret0, ↓e_if, ↓e_set, ↓e_setN, ↓e_aug, ↓e_raise, ↓e_name, ↓e_gnil, ↓e_gcons, ↓e_gtup, ↓e_for, ↓e_seqI, ↓e_enum, ↓rg1_i, ↓rg2_i, ↓e_rng1, ↓e_rng2, ↓e_lc, ↓e_yes, ↓e_onone, ↓e_osome, ↓e_sl, ↓e_isi, ↓e_isi2, ↓ownL_l, ↓ownA_l, ↓sO_o, ↓e_meth, ↓e_meth0, ↓e_dnew, ↓e_dget, ↓e_din, ↓e_dput, ↓e_lput, ↓e_lenSet, ↓e_chain, ↓e_par, ↓e_asgT, ↓e_rev, ↓e_lenD, ↓e_toN, ↓e_parN, ↓e_getD, ↓e_rdm, ↓ok_l, ↓ok_r, ↓ok_s, ↓f_inC, ↓f_notInC, ↓f_inI, ↓f_notInI, ↓f_inIT, ↓f_inS, ↓f_notInS, ↓f_count, ↓rvO_o, ↓pkC0, ↓pkC_sh, ↓pkC_own, ↓pkC_bor, ↓pkC_bag, ↓pkC_no, ↓e_box, ↓e_nsNil, ↓e_nsCons, ↓e_bTest, ↓allL0, ↓allL1, ↓e_bLoop, ↓f_ix0, ↓f_ix1, ↓f_ix2, ↓f_ix3, ↓f_ix4, ↓f_ixT0, ↓f_ixT1, ↓f_ixT2, ↓f_ixT3, ↓f_ixT4, ↓e_loopC, ↓e_loopN, ↓e_step, ↓e_exI, ↓e_toI, ↓e_LAll, ↓f_eqW1, ↓f_eqW2, ↓f_eqW3, ↓f_sLstS, ↓f_sLstB, ↓e_zip, ↓f_zipL, ↓f_dictP, ↓f_dictD, ↓f_sortI, ↓e_dct1, ↓f_eqNN, ↓e_sortSet, ↓f_dSeqL, ↓f_dSeqT, ↓e_lenSetS, ↓f_notScrL, ↓f_notScrT, ↓f_mulS, ↓f_eqSL, ↓f_neSL, ↓f_eqSNil, ↓f_neSNil, ↓f_neNN, ↓f_notInST, ↓f_notIn3, ↓e_dc, ↓e_lstRg1, ↓e_lstRg2, ↓f_isNo, ↓e_lcO, ↓f_dLTl, ↓f_dLTt, ↓e_tupSh, ↓e_callSD, ↓f_ltQI, ↓f_ltQL, ↓f_join, ↓f_split, ↓f_intS, ↓f_inSign, ↓f_notInSign, ↓f_itS, ↓e_dS, ↓e_strI, ↓e_ifN, ↓e_fmtS, ↓e_fmtI, ↓e_fmt, ↓e_fs, ↓e_js0, ↓e_js1, ↓e_never, ↓f_sub, ↓f_mod, ↓f_div, ↓f_divW, ↓f_pow, ↓f_lt, ↓f_le, ↓f_gt, ↓f_ge, ↓f_addI, ↓f_addS, ↓f_addL, ↓f_mulI, ↓f_mulL, ↓f_eqI, ↓f_neI, ↓f_eqS, ↓f_neS, ↓f_eqB, ↓f_neB, ↓f_isN, ↓f_isNotN, ↓f_lenL, ↓f_lenT, ↓f_lenR, ↓f_lenS, ↓f_min, ↓f_max, ↓f_abs, ↓f_intI, ↓f_intB, ↓f_strI, ↓f_listL, ↓f_listT, ↓f_listS, ↓f_tupL, ↓f_repr, ↓f_slL, ↓f_slR, ↓f_slT, ↓f_app, ↓f_pop, ↓f_popAt, ↓f_ext, ↓f_ins, ↓f_allM, ↓f_anyM, ↓f_sumM, ↓f_eqIL, ↓f_neIL, ↓f_eqIT, ↓f_neIT, ↓f_eqNil, ↓f_neNil, ↓f_neg, ↓f_clear, ↓e_is_integer, ↓e_is_integerN, ↓e_is_sequence, ↓e_is_distances, ↓e_is_number, ↓e_first_bad_word, ↓e__law_draw, ↓e__law_symbols, ↓e__law_distances, ↓e__law_dressed, ty_int_n, ty_int_b, ty_int_i, ty_int_s, ty_int_l, ty_int_t, ty_int_r, ty_int_d, ty_bool_n, ty_bool_b, ty_bool_i, ty_bool_s, ty_bool_l, ty_bool_t, ty_bool_r, ty_bool_d, ty_str_n, ty_str_b, ty_str_i, ty_str_s, ty_str_l, ty_str_t, ty_str_r, ty_str_d, ty_list_n, ty_list_b, ty_list_i, ty_list_s, ty_list_l, ty_list_t, ty_list_r, ty_list_d, ty_tuple_n, ty_tuple_b, ty_tuple_i, ty_tuple_s, ty_tuple_l, ty_tuple_t, ty_tuple_r, ty_tuple_d, ty_dict_n, ty_dict_b, ty_dict_i, ty_dict_s, ty_dict_l, ty_dict_t, ty_dict_r, ty_dict_d, cIf_t, cIf_f, cIf_n, isSc_n, isSc_b, isSc_i, isSc_s, ex_some, Int.reduceLT, Int.reduceLE, Int.reduceGT, Int.reduceGE, Int.reduceEq, Int.reduceNe, Int.reduceAdd, Int.reduceSub, Int.reduceMul, Int.reduceNeg, Int.reduceToNat, Int.reducePow, Nat.reduceLT, Nat.reduceAdd, Nat.reduceSub, Nat.reduceLeDiff, Nat.reduceEqDiff, Nat.reduceMul, Int.cast_ofNat_Int, true_or, true_and, and_true, List.length_cons, List.length_nil, List.length_map, n_n, n_b, n_i, n_s, n_l, n_t, se_c, se_n, se_0, ar_b, ar_s, ar_g, Bool.or_true, Bool.true_or, Bool.or_false, Bool.false_or, Bool.and_true, Bool.true_and, Bool.and_false, Bool.false_and, Bool.not_true, Bool.not_false, Bool.not_not, decide_true, decide_false, int_app, filter_tt, eq_self, Option.map_some, Option.map_none, Option.isSome_some, Option.isSome_none, Bool.false_eq_true, if_false, if_true, Nat.zero_add, Int.zero_add, Int.add_zero, Int.sub_zero, List.map_nil, List.nil_append, List.append_nil, int_rev, int_take, int_drop, int_dropLast, int_appL, e_toI, e_is_integer, e_is_integerN, e_is_sequence, e_is_distances, e_is_number, e_first_bad_word, e__law_draw, e__law_symbols, e__law_distances, e__law_dressed]))

/-! ### _law_text -/
def sp__law_text : Spq := fun as k _ => ∃ (d : D) (ns : List Int), as = [.bor d] ∧ ((d = .lst (ns.map .int) ∨ d = .tup (ns.map .int)) ∧ ns.length ≤ 100000 ∧ ∀ i ∈ ns, 0 ≤ i ∧ i < 10 ^ 40) ∧ k (.sh (.str (listT ns)))
section
variable {P : Program} {w : World} {K : Fg} {mg : Str → Option Value} {base : Heap} {g : Gd}
theorem sc__law_text : FnScope ["_law_items", "_law_item"] ["_law_items"] (defScope s__law_text) := ⟨rfl, rfl, rfl, by decide +kernel, rfl, by decide +kernel, by decide +kernel⟩
theorem fn__law_text (T : Tx K mg) : ∃ fd, FnG P w K mg base 1 (He.ga K "_law_text") fd ["_law_items"] (spQ K mg g sp__law_text) ∧ FunD K "_law_text" "_law_text" (defArgs s__law_text) (defBody s__law_text) (defScope s__law_text) [] [] (He.ga K "_law_text") fd := by
  have sc := sc__law_text
  obtain ⟨fd, Fn⟩ := T.f__law_text
  refine ⟨fd, fn_q g Fn sc (by decide) (fun as k x h => ?_) fun cdv A outer s H E hgd hr => ?_, Fn⟩
  · unfold sp__law_text at h; first | (split at h <;> first | rfl | exact h.elim) | (obtain ⟨_, rfl, _⟩ := h; rfl) | (obtain ⟨_, _, rfl, _⟩ := h; rfl) | (obtain ⟨_, _, _, rfl, _⟩ := h; rfl) | (obtain ⟨_, _, _, _, rfl, _⟩ := h; rfl) | (obtain ⟨_, _, _, _, _, rfl, _⟩ := h; rfl) | (obtain ⟨_, _, _, _, _, _, rfl, _⟩ := h; rfl)
  · have tk : Takes (cxOf (L2.CX P w) P w K mg base ["_law_items", "_law_item"] "_law_text" (defScope s__law_text) (He.ga K "_law_text") cdv A outer s H E) (fun cls d _ H => E cls d H) := takes_of rfl rfl rfl rfl
    refine ⟨_, _, (qs_one (qs_ret (q_ifExp (qt_cmp op_gt o_gt (q_callB call_len c_len (by exact rfl) T.z_len (by decide +kernel) (qa_cons (q_var 0) qa_nil (by rfl)) (by decide) (by decide) (by rfl) (by rfl)) q_int (by first | exact nomark _ | rfl)) (QN.qe (qn_rdm PySem.F.plainAttrs_str PySem.F.slot_str_join PySem.F.type_str_join mt_join m_join q_str (qa_cons (QN.qe (qn_lcB [("_law_item", 1)] (by exact rfl) (by exact sc.nd) (qi_seq (q_var 0)) (blkOk_by (by kernel_rfl)) (fun _ _ _ _ _ => (qg_name (i := 1) (by exact sc.nd) (by exact rfl) (by first | exact Or.inl rfl | exact Or.inr rfl) (by decide) (by first | exact .inl rfl | exact .inr rfl | assumption))) (fun _ _ _ _ _ => qts_nil) (fun _ _ _ _ _ => (q_callTy call_str_int c_str (by exact rfl) T.z_str (by decide +kernel) (qa_cons (q_var 1) qa_nil (by rfl)) (by decide) (by decide) (by rfl) (by rfl))) (by intro _; rfl) (by intros; rfl) (by intros; rfl) (by intros; rfl))) qa_nil (by rfl)) (by rfl) (by rfl) (by rfl) (by rfl) (by rfl))) q_str))), fun as k x h => ?_⟩
    clear tk hr hgd Fn sc T
    obtain ⟨d, ns, rfl, ⟨hd, hl, hb⟩, h⟩ := h
    rcases hd with rfl | rfl
    · walk_at "q"
      refine cIf_i (fun h1 => ?_) (fun h1 => ?_)
      · walk_at "q"
        have ne : ns ≠ [] := fun e => by rw [e] at h1; simp at h1
        refine comp_on D.int (fun _ => true) (fun i => .str (numT i.toNat)) (fun n i acc X hd hn hl2 g1 g2 => ?_) ?_
        · obtain ⟨b0, b1⟩ := hb i (List.mem_of_getElem? hd)
          unfold compStep
          walk_at "q"
          refine ⟨log_small b0 (Int.lt_trans b1 (by decide)), ?_⟩
          rw [numT_of i b0]
          exact ⟨by omega, g1 rfl⟩
        rw [filter_tt, show (ns.map fun i => D.str (numT i.toNat)) = (ns.map fun i => numT i.toNat).map D.str by rw [List.map_map]; rfl]
        unfold listT at h
        rw [if_neg ne] at h
        walk_at "q"
        have h2 := sum_le (ys := ns.map fun i => numT i.toNat) (m := 40) fun y hy => by
          obtain ⟨i, hi, rfl⟩ := List.mem_map.mp hy
          obtain ⟨b0, b1⟩ := hb i hi
          exact numT_len (by omega) (by omega)
        rw [List.length_map] at h2
        exact ⟨by rw [len_sp]; omega, h⟩
      · walk_at "q"
        have e : ns = [] := by
          cases ns with
          | nil => rfl
          | cons a r => exact absurd (by simp) h1
        subst e
        exact h
    · walk_at "q"
      refine cIf_i (fun h1 => ?_) (fun h1 => ?_)
      · walk_at "q"
        have ne : ns ≠ [] := fun e => by rw [e] at h1; simp at h1
        refine comp_on D.int (fun _ => true) (fun i => .str (numT i.toNat)) (fun n i acc X hd hn hl2 g1 g2 => ?_) ?_
        · obtain ⟨b0, b1⟩ := hb i (List.mem_of_getElem? hd)
          unfold compStep
          walk_at "q"
          refine ⟨log_small b0 (Int.lt_trans b1 (by decide)), ?_⟩
          rw [numT_of i b0]
          exact ⟨by omega, g1 rfl⟩
        rw [filter_tt, show (ns.map fun i => D.str (numT i.toNat)) = (ns.map fun i => numT i.toNat).map D.str by rw [List.map_map]; rfl]
        unfold listT at h
        rw [if_neg ne] at h
        walk_at "q"
        have h2 := sum_le (ys := ns.map fun i => numT i.toNat) (m := 40) fun y hy => by
          obtain ⟨i, hi, rfl⟩ := List.mem_map.mp hy
          obtain ⟨b0, b1⟩ := hb i hi
          exact numT_len (by omega) (by omega)
        rw [List.length_map] at h2
        exact ⟨by rw [len_sp]; omega, h⟩
      · walk_at "q"
        have e : ns = [] := by
          cases ns with
          | nil => rfl
          | cons a r => exact absurd (by simp) h1
        subst e
        exact h
theorem cal__law_text (T : Tx K mg) : Cal P w K mg base g 1 "_law_text" [] sp__law_text := by
  obtain ⟨fd, G, Fn⟩ := fn__law_text (P := P) (w := w) (base := base) (g := g) T
  exact ⟨_, fd, _, [], G, T.g__law_text, Fn.kp, Fn.bindsN fun _ _ _ _ _ _ us hl => match us, hl with | [_], _ => rfl, .nil, rfl⟩
end

/-! ### law -/
section
variable {P : Program} {w : World} {K : Fg} {mg : Str → Option Value} {base : Heap}
theorem sc_law : FnScope ["_law_script", "_law_spring_here", "_law_turn", "_law_symbols_here", "_law_distances_here", "_law_handed", "_law_before", "_law_time", "_law_held", "_law_text_here", "_law_found", "_law_place"] ["_law_script"] (defScope s_law) := ⟨rfl, rfl, rfl, by decide +kernel, rfl, by decide +kernel, by decide +kernel⟩
end

def d_is_integer : He.DefD := ⟨("is_integer", none), "is_integer", "is_integer", defArgs s_is_integer, defBody s_is_integer, defScope s_is_integer, [.non], []⟩
def d_is_sequence : He.DefD := ⟨("is_sequence", none), "is_sequence", "is_sequence", defArgs s_is_sequence, defBody s_is_sequence, defScope s_is_sequence, [], []⟩
def d_is_distances : He.DefD := ⟨("is_distances", none), "is_distances", "is_distances", defArgs s_is_distances, defBody s_is_distances, defScope s_is_distances, [], []⟩
def d_is_number : He.DefD := ⟨("is_number", none), "is_number", "is_number", defArgs s_is_number, defBody s_is_number, defScope s_is_number, [], []⟩
def d_list_text : He.DefD := ⟨("list_text", none), "list_text", "list_text", defArgs s_list_text, defBody s_list_text, defScope s_list_text, [], []⟩
def d_format_distances : He.DefD := ⟨("format_distances", none), "format_distances", "format_distances", defArgs s_format_distances, defBody s_format_distances, defScope s_format_distances, [], []⟩
def d_first_bad_word : He.DefD := ⟨("first_bad_word", none), "first_bad_word", "first_bad_word", defArgs s_first_bad_word, defBody s_first_bad_word, defScope s_first_bad_word, [], []⟩
def d_parsed_list : He.DefD := ⟨("parsed_list", none), "parsed_list", "parsed_list", defArgs s_parsed_list, defBody s_parsed_list, defScope s_parsed_list, [], []⟩
def d_parse_distances : He.DefD := ⟨("parse_distances", none), "parse_distances", "parse_distances", defArgs s_parse_distances, defBody s_parse_distances, defScope s_parse_distances, [], []⟩
def d__law_spring : He.DefD := ⟨("_law_spring", none), "_law_spring", "_law_spring", defArgs s__law_spring, defBody s__law_spring, defScope s__law_spring, [], []⟩
def d__law_draw : He.DefD := ⟨("_law_draw", none), "_law_draw", "_law_draw", defArgs s__law_draw, defBody s__law_draw, defScope s__law_draw, [], []⟩
def d__law_same : He.DefD := ⟨("_law_same", none), "_law_same", "_law_same", defArgs s__law_same, defBody s__law_same, defScope s__law_same, [], []⟩
def d__law_symbols : He.DefD := ⟨("_law_symbols", none), "_law_symbols", "_law_symbols", defArgs s__law_symbols, defBody s__law_symbols, defScope s__law_symbols, [], []⟩
def d__law_distances : He.DefD := ⟨("_law_distances", none), "_law_distances", "_law_distances", defArgs s__law_distances, defBody s__law_distances, defScope s__law_distances, [], []⟩
def d__law_dressed : He.DefD := ⟨("_law_dressed", none), "_law_dressed", "_law_dressed", defArgs s__law_dressed, defBody s__law_dressed, defScope s__law_dressed, [], []⟩
def d__law_text : He.DefD := ⟨("_law_text", none), "_law_text", "_law_text", defArgs s__law_text, defBody s__law_text, defScope s__law_text, [], []⟩
def d_law : He.DefD := ⟨("law", none), "law", "law", defArgs s_law, defBody s_law, defScope s_law, [], []⟩
def fn : List He.DefD := [d_is_integer, d_is_sequence, d_is_distances, d_is_number, d_list_text, d_format_distances, d_first_bad_word, d_parsed_list, d_parse_distances, d__law_spring, d__law_draw, d__law_same, d__law_symbols, d__law_distances, d__law_dressed, d__law_text, d_law]
def fa : List He.Fa := [.glo "is_integer", .glo "is_sequence", .glo "is_distances", .glo "is_number", .glo "list_text", .glo "format_distances", .glo "first_bad_word", .glo "parsed_list", .glo "parse_distances", .glo "_law_spring", .glo "_law_draw", .glo "_law_same", .glo "_law_symbols", .glo "_law_distances", .glo "_law_dressed", .glo "_law_text", .glo "law", .free "abs", .free "all", .free "bool", .free "enumerate", .free "int", .free "isinstance", .free "len", .free "list", .free "min", .free "range", .free "repr", .free "set", .free "str", .free "tuple", .str "DIGITS" (Str.ofString "0123456789"), .str "EMPTY_LIST" (Str.ofString "none"), .int "MAX_POSITIONS" 400, .glo "InvalidDistances", .exc "InvalidDistances"]
abbrev R : PySem.W.OpenRow := PySem.W.OpenLaw.row PySem.Challenge.rw_howfarback_k54_distance_texts
abbrev hk : PySem.W.Hook := He.hookD 4 fa fn
def ob (s : PySem.W.SharedT) : He.AlD := He.obsDG 4 fa fn (HandSHeadRun.getT s)
theorem ob_eq (s : PySem.W.SharedT) : ob s = hk.obs s.abs := He.obsDG_eq (HandSHeadRun.getT_eq s)
def lo : List Str := ["__name__", "HowFarBackError", "ParseError", "InvalidDistances", "MAX_POSITIONS", "is_integer", "is_sequence", "is_distances", "EMPTY_LIST", "DIGITS", "is_number", "list_text", "format_distances", "first_bad_word", "parsed_list", "parse_distances", "_law_spring", "_law_draw", "_law_same", "_law_symbols", "_law_distances", "_law_dressed", "_law_text"]
theorem run (w : World) : HandSHeadRun.RunEq R (PySem.W.view R.prog [26]) hk ob 20000 lo w := by
  intro os
  kernel_rfl
theorem tx {K : Fg} {h : Heap} {mg : Str → Option Value} (X : K.In h) (G : h.Ns mainGlobals mg) (c : He.SaysD fa fn K) : Tx K mg where
  g_is_integer := He.glo_ok X G (c.fact 0 (f := .glo "is_integer") rfl)
  f_is_integer := c.def_ 0 (d := d_is_integer) rfl
  g_is_sequence := He.glo_ok X G (c.fact 1 (f := .glo "is_sequence") rfl)
  f_is_sequence := c.def_ 1 (d := d_is_sequence) rfl
  g_is_distances := He.glo_ok X G (c.fact 2 (f := .glo "is_distances") rfl)
  f_is_distances := c.def_ 2 (d := d_is_distances) rfl
  g_is_number := He.glo_ok X G (c.fact 3 (f := .glo "is_number") rfl)
  f_is_number := c.def_ 3 (d := d_is_number) rfl
  g_list_text := He.glo_ok X G (c.fact 4 (f := .glo "list_text") rfl)
  f_list_text := c.def_ 4 (d := d_list_text) rfl
  g_format_distances := He.glo_ok X G (c.fact 5 (f := .glo "format_distances") rfl)
  f_format_distances := c.def_ 5 (d := d_format_distances) rfl
  g_first_bad_word := He.glo_ok X G (c.fact 6 (f := .glo "first_bad_word") rfl)
  f_first_bad_word := c.def_ 6 (d := d_first_bad_word) rfl
  g_parsed_list := He.glo_ok X G (c.fact 7 (f := .glo "parsed_list") rfl)
  f_parsed_list := c.def_ 7 (d := d_parsed_list) rfl
  g_parse_distances := He.glo_ok X G (c.fact 8 (f := .glo "parse_distances") rfl)
  f_parse_distances := c.def_ 8 (d := d_parse_distances) rfl
  g__law_spring := He.glo_ok X G (c.fact 9 (f := .glo "_law_spring") rfl)
  f__law_spring := c.def_ 9 (d := d__law_spring) rfl
  g__law_draw := He.glo_ok X G (c.fact 10 (f := .glo "_law_draw") rfl)
  f__law_draw := c.def_ 10 (d := d__law_draw) rfl
  g__law_same := He.glo_ok X G (c.fact 11 (f := .glo "_law_same") rfl)
  f__law_same := c.def_ 11 (d := d__law_same) rfl
  g__law_symbols := He.glo_ok X G (c.fact 12 (f := .glo "_law_symbols") rfl)
  f__law_symbols := c.def_ 12 (d := d__law_symbols) rfl
  g__law_distances := He.glo_ok X G (c.fact 13 (f := .glo "_law_distances") rfl)
  f__law_distances := c.def_ 13 (d := d__law_distances) rfl
  g__law_dressed := He.glo_ok X G (c.fact 14 (f := .glo "_law_dressed") rfl)
  f__law_dressed := c.def_ 14 (d := d__law_dressed) rfl
  g__law_text := He.glo_ok X G (c.fact 15 (f := .glo "_law_text") rfl)
  f__law_text := c.def_ 15 (d := d__law_text) rfl
  g_law := He.glo_ok X G (c.fact 16 (f := .glo "law") rfl)
  f_law := c.def_ 16 (d := d_law) rfl
  z_abs := He.free_ok X G (c.fact 17 (f := .free "abs") rfl)
  z_all := He.free_ok X G (c.fact 18 (f := .free "all") rfl)
  z_bool := He.free_ok X G (c.fact 19 (f := .free "bool") rfl)
  z_enumerate := He.free_ok X G (c.fact 20 (f := .free "enumerate") rfl)
  z_int := He.free_ok X G (c.fact 21 (f := .free "int") rfl)
  z_isinstance := He.free_ok X G (c.fact 22 (f := .free "isinstance") rfl)
  z_len := He.free_ok X G (c.fact 23 (f := .free "len") rfl)
  z_list := He.free_ok X G (c.fact 24 (f := .free "list") rfl)
  z_min := He.free_ok X G (c.fact 25 (f := .free "min") rfl)
  z_range := He.free_ok X G (c.fact 26 (f := .free "range") rfl)
  z_repr := He.free_ok X G (c.fact 27 (f := .free "repr") rfl)
  z_set := He.free_ok X G (c.fact 28 (f := .free "set") rfl)
  z_str := He.free_ok X G (c.fact 29 (f := .free "str") rfl)
  z_tuple := He.free_ok X G (c.fact 30 (f := .free "tuple") rfl)
  c_DIGITS := He.str_ok X G (c.fact 31 (f := .str "DIGITS" (Str.ofString "0123456789")) rfl)
  c_EMPTY_LIST := He.str_ok X G (c.fact 32 (f := .str "EMPTY_LIST" (Str.ofString "none")) rfl)
  c_MAX_POSITIONS := He.int_ok X G (c.fact 33 (f := .int "MAX_POSITIONS" 400) rfl)
  e_InvalidDistances := by
    have z := He.exc_ok (c.fact 35 (f := .exc "InvalidDistances") rfl)
    exact ⟨He.glo_ok X G (c.fact 34 (f := .glo "InvalidDistances") rfl), z.1, z.2.1, z.2.2.1, z.2.2.2⟩
theorem ok_law {P : Program} {w : World} {K : Fg} {mg : Str → Option Value} {base : Heap} (T : Tx K mg) : ∃ fd, FnG P w K mg base 7 (He.ga K "law") fd ["_law_script"] (spLaw K) ∧ FunD K "law" "law" (defArgs s_law) (defBody s_law) (defScope s_law) [] [] (He.ga K "law") fd := by
  have sc := sc_law
  have C__law_distances : Cal P w K mg base sprG 1 "_law_distances" [] sp__law_distances := cal__law_distances T
  have C__law_draw : Cal P w K mg base sprG 1 "_law_draw" [] sp__law_draw := cal__law_draw T
  have C__law_dressed : Cal P w K mg base sprG 2 "_law_dressed" [] sp__law_dressed := cal__law_dressed T
  have C__law_same : Cal P w K mg base sprG 6 "_law_same" [] sp__law_same := cal__law_same T
  have C__law_spring : Cal P w K mg base sprG 1 "_law_spring" [] sp__law_spring := cal__law_spring T
  have C__law_symbols : Cal P w K mg base sprG 2 "_law_symbols" [] sp__law_symbols := cal__law_symbols T
  have C__law_text : Cal P w K mg base sprG 1 "_law_text" [] sp__law_text := cal__law_text T
  have C_format_distances : Cal P w K mg base sprG 3 "format_distances" [] sp_format_distances := cal_format_distances T
  have C_parse_distances : Cal P w K mg base sprG 4 "parse_distances" [] sp_parse_distances := cal_parse_distances T
  obtain ⟨fd, Fn⟩ := T.f_law
  refine ⟨fd, law_q2 1 sprG (st := (defBody s_law).getD 0 (.Pass ⟨0, 0, 0, 0⟩)) (sts := (defBody s_law).tail) Fn sc rfl (by decide) fun cdv A outer s H E hgd hr => ?_, Fn⟩
  have tk : Takes (cxOf (L2.CX P w) P w K mg base ["_law_script", "_law_spring_here", "_law_turn", "_law_symbols_here", "_law_distances_here", "_law_handed", "_law_before", "_law_time", "_law_held", "_law_text_here", "_law_found", "_law_place"] "law" (defScope s_law) (He.ga K "law") cdv A outer s H E) W0 := takes0
  refine ⟨_, _, _, _, (qf_set (by exact sc.nd) (by exact rfl) (Or.inr rfl) (qn_call [.bor] C__law_spring (by exact hgd) (by exact hr) (by omega) (by exact rfl) (qa_cons (q_var 0) qa_nil (by rfl)) (by decide) (by rfl) (by rfl)) (by rfl) (by first | exact .inl rfl | exact .inr rfl | assumption)), (qs_cons (qs_for [2] (qi_range1 (by exact rfl) T.z_range (qa_cons (QN.qe (qn_opR or_addQ o_add q_int (q_callB (call_min2 (by exact rfl)) c_min (by exact rfl) T.z_min (by decide +kernel) (qa_cons (q_callB call_len c_len (by exact rfl) T.z_len (by decide +kernel) (qa_cons (q_var 0) qa_nil (by rfl)) (by decide) (by decide) (by rfl) (by rfl)) (qa_cons q_int qa_nil (by rfl)) (by rfl)) (by decide) (by decide) (by rfl) (by rfl)))) qa_nil (by rfl)) (by rfl)) (qg_name (i := 2) (by exact sc.nd) (by exact rfl) (by first | exact Or.inl rfl | exact Or.inr rfl) (by decide) (by first | exact .inl rfl | exact .inr rfl | assumption))
      (qs_cons (qs_setN (i := 3) (by exact sc.nd) (by exact rfl) (Or.inl rfl) (qn_call [.bag 0, .bor] C__law_symbols (by exact hgd) (by exact hr) (by omega) (by exact rfl) (qa_cons (q_var 1) (qa_cons q_int qa_nil (by rfl)) (by rfl)) (by decide) (by rfl) (by rfl)) (by rfl) (by first | exact .inl rfl | exact .inr rfl | assumption))
      (qs_cons (qs_if (QW.toT (qw_and (qt_cmp (or_eqQ (by exact hr.units)) o_eq (q_var 2) q_int (by first | exact nomark _ | rfl)) (qw_and1 (qt_cmp (or_eqQ (by exact hr.units)) o_eq (QN.qe (qn_call [.bag 0, .bor] C__law_draw (by exact hgd) (by exact hr) (by omega) (by exact rfl) (qa_cons (q_var 1) (qa_cons q_int qa_nil (by rfl)) (by rfl)) (by decide) (by rfl) (by rfl))) q_int (by first | exact nomark _ | rfl))))) (qs_one (qs_setLcB (i := 3) [("_law_place", 11)] (by exact rfl) (by exact sc.nd) (by exact rfl) (by exact rfl) (sw_true (by exact rfl) (by exact rfl) (by exact rfl) (by decide +kernel)) (qi_range1 (by exact rfl) T.z_range (qa_cons q_int qa_nil (by rfl)) (by rfl)) (blkOk_by (by kernel_rfl)) (fun _ _ _ _ _ => (qg_name (i := 11) (by exact sc.nd) (by exact rfl) (by first | exact Or.inl rfl | exact Or.inr rfl) (by decide) (by first | exact .inl rfl | exact .inr rfl | assumption))) (fun _ _ _ _ _ => qts_nil) (fun _ _ _ _ _ => (QN.qe (qn_call [.bag 0, .bor] C__law_draw (by exact hgd) (by exact hr) (by omega) (by exact rfl) (qa_cons (q_var 1) (qa_cons q_int qa_nil (by rfl)) (by rfl)) (by decide) (by rfl) (by rfl)))) (by intro _; rfl) (by intros; rfl) (by intros; rfl) (by intros; rfl))) qs_nil)
      (qs_cons (qs_setN (i := 4) (by exact sc.nd) (by exact rfl) (Or.inl rfl) (qn_call [.bor] C__law_distances (by exact hgd) (by exact hr) (by omega) (by exact rfl) (qa_cons (q_var 3) qa_nil (by rfl)) (by decide) (by rfl) (by rfl)) (by rfl) (by first | exact .inl rfl | exact .inr rfl | assumption))
      (qs_cons (qs_setN (i := 5) (by exact sc.nd) (by exact rfl) (Or.inl rfl) (qn_call [.bag 0, .bor] C__law_dressed (by exact hgd) (by exact hr) (by omega) (by exact rfl) (qa_cons (q_var 1) (qa_cons (q_var 4) qa_nil (by rfl)) (by rfl)) (by decide) (by rfl) (by rfl)) (by rfl) (by first | exact .inl rfl | exact .inr rfl | assumption))
      (qs_cons (qs_set (i := 6) (by exact sc.nd) (by exact rfl) (Or.inl rfl) (q_callB (call_repr hgd (by exact hr.units)) c_repr (by exact rfl) T.z_repr (by decide +kernel) (qa_cons (q_var 5) qa_nil (by rfl)) (by decide) (by decide) (by rfl) (by rfl)) (by rfl) (by first | exact .inl rfl | exact .inr rfl | assumption))
      (qs_cons (qs_for [7] (qi_range1 (by exact rfl) T.z_range (qa_cons q_int qa_nil (by rfl)) (by rfl)) (qg_name (i := 7) (by exact sc.nd) (by exact rfl) (by first | exact Or.inl rfl | exact Or.inr rfl) (by decide) (by first | exact .inl rfl | exact .inr rfl | assumption))
      (qs_cons (qs_setN (i := 9) (by exact sc.nd) (by exact rfl) (Or.inl rfl) (qn_callS [.bor] C_format_distances (by exact hgd) (by exact hr) (by omega) tk (by exact rfl) (qa_cons (q_var 5) qa_nil (by rfl)) (by decide) (by rfl) (by rfl)) (by rfl) (by first | exact .inl rfl | exact .inr rfl | assumption))
      (qs_cons (qs_if (QW.toT (qw_or (qt_cmp (or_neQ (by exact hr.units)) o_ne (q_var 9) (QN.qe (qn_call [.bor] C__law_text (by exact hgd) (by exact hr) (by omega) (by exact rfl) (qa_cons (q_var 4) qa_nil (by rfl)) (by decide) (by rfl) (by rfl))) (by first | exact nomark _ | rfl)) (qw_or1 (qt_cmp (or_neQ (by exact hr.units)) o_ne (q_callB (call_repr hgd (by exact hr.units)) c_repr (by exact rfl) T.z_repr (by decide +kernel) (qa_cons (q_var 5) qa_nil (by rfl)) (by decide) (by decide) (by rfl) (by rfl)) (q_var 6) (by first | exact nomark _ | rfl))))) (qs_one (qs_ret q_bl)) qs_nil)
      (qs_cons (qs_setN (i := 10) (by exact sc.nd) (by exact rfl) (Or.inl rfl) (qn_callS [.bor] C_parse_distances (by exact hgd) (by exact hr) (by omega) tk (by exact rfl) (qa_cons (q_var 9) qa_nil (by rfl)) (by decide) (by rfl) (by rfl)) (by rfl) (by first | exact .inl rfl | exact .inr rfl | assumption))
      (qs_cons (qs_if (qt_not (qt_val (QN.qe (qn_call [.bor, .bor] C__law_same (by exact hgd) (by exact hr) (by omega) (by exact rfl) (qa_cons (q_var 10) (qa_cons (q_var 4) qa_nil (by rfl)) (by rfl)) (by decide) (by rfl) (by rfl))) (by intro _; rfl))) (qs_one (qs_ret q_bl)) qs_nil)
      (qs_one (qs_expr (q_meth (i := 10) PySem.F.slot_list_append PySem.F.type_list_append mt_append m_append (by exact rfl) (by first | exact Or.inl rfl | exact Or.inr (Or.inl rfl) | exact Or.inr (Or.inr rfl)) (qa_cons q_int qa_nil (by rfl)) (by decide) (by decide) (by rfl) (by rfl) (by rfl) (by rfl) (by rfl)) (by rfl))))))) (passes_of (by exact rfl)) (by rfl) (by intro _; rfl))
      (qs_cons (qs_setN (i := 8) (by exact sc.nd) (by exact rfl) (Or.inl rfl) (qn_ty call_list_of c_list (by exact rfl) T.z_list (by decide +kernel) (qa_cons (q_var 4) qa_nil (by rfl)) (by decide) (by decide) (by rfl) (by rfl)) (by rfl) (by first | exact .inl rfl | exact .inr rfl | assumption))
      (qs_one (qs_for [7] (qi_range1 (by exact rfl) T.z_range (qa_cons (q_callB (call_min2 (by exact rfl)) c_min (by exact rfl) T.z_min (by decide +kernel) (qa_cons q_int (qa_cons (q_callB call_len c_len (by exact rfl) T.z_len (by decide +kernel) (qa_cons (q_var 8) qa_nil (by rfl)) (by decide) (by decide) (by rfl) (by rfl)) qa_nil (by rfl)) (by rfl)) (by decide) (by decide) (by rfl) (by rfl)) qa_nil (by rfl)) (by rfl)) (qg_name (i := 7) (by exact sc.nd) (by exact rfl) (by first | exact Or.inl rfl | exact Or.inr rfl) (by decide) (by first | exact .inl rfl | exact .inr rfl | assumption))
      (qs_cons (qs_expr (q_meth0 (i := 8) PySem.F.slot_list_pop PySem.F.type_list_pop mt_pop m_pop (by exact rfl) (by first | exact Or.inl rfl | exact Or.inr (Or.inl rfl) | exact Or.inr (Or.inr rfl)) (by decide) (by decide) (by rfl) (by rfl)) (by rfl))
      (qs_one (qs_if (qt_cmp (or_neQ (by exact hr.units)) o_ne (QN.qe (qn_callS [.bor] C_format_distances (by exact hgd) (by exact hr) (by omega) tk (by exact rfl) (qa_cons (q_var 8) qa_nil (by rfl)) (by decide) (by rfl) (by rfl))) (QN.qe (qn_call [.bor] C__law_text (by exact hgd) (by exact hr) (by omega) (by exact rfl) (qa_cons (q_var 8) qa_nil (by rfl)) (by decide) (by rfl) (by rfl))) (by first | exact nomark _ | rfl)) (qs_one (qs_ret q_bl)) qs_nil))) (passes_of (by exact rfl)) (by rfl) (by intro _; rfl)))))))))) (passes_of (by exact rfl)) (by rfl) (by intro _; rfl))
      (qs_one (qs_ret (q_and (q_cmp (or_eqQ (by exact hr.units)) o_eq (QN.qe (qn_callS [.bor] C_format_distances (by exact hgd) (by exact hr) (by omega) tk (by exact rfl) (qa_cons (QN.qe (qn_lst qa_nil)) qa_nil (by rfl)) (by decide) (by rfl) (by rfl))) q_str (by first | exact nomark _ | rfl)) (q_one (q_cmp (or_eqQ (by exact hr.units)) o_eq (QN.qe (qn_callS [.bor] C_parse_distances (by exact hgd) (by exact hr) (by omega) tk (by exact rfl) (qa_cons q_str qa_nil (by rfl)) (by decide) (by rfl) (by rfl))) (QN.qe (qn_lst qa_nil)) (by first | exact nomark _ | rfl))))))), fun ns hns => ?_⟩
  clear tk hr hgd Fn sc T
  walk_at "q"
  refine ⟨ns, rfl, hns, fun dg sd g0 s0 s1 => ?_⟩
  walk_at "q"
  refine ⟨_, 0, rfl, ⟨dg, sd, 0, rfl, g0, s0, s1, Int.le_refl _⟩, (by show 0 + 0 ≤ 2 ^ 60; decide), ?_⟩
  simp only [List.set_cons_succ, List.set_cons_zero]
  walk_at "q"
  refine ⟨by split <;> omega, by split <;> omega, ?_⟩
  refine loopJ (fun m env => ∃ s2 s3 s4 s5 s6 s7 s8 s9 s10 s11, env = [.bor (.scr ns), .bag 0, s2, s3, s4, s5, s6, s7, s8, s9, s10, s11]) ⟨_, _, _, _, _, _, _, _, _, _, rfl⟩ (fun m d env X hd hJ hX => ?_) fun env hJ => ?_
  rotate_left
  · obtain ⟨s2, s3, s4, s5, s6, s7, s8, s9, s10, s11, rfl⟩ := hJ
    walk_at "q"
    refine ⟨_, rfl, fun _ h => D.noConfusion h, cIf_l (by decide +kernel) ?_⟩
    walk_at "q"
    rw [show listT (nums (.lst [])) = Str.ofString "none" from rfl]
    walk_at "q"
    refine ⟨[], rfl, ⟨by decide +kernel, by simp, by simp⟩, ?_⟩
    walk_at "q"
  obtain ⟨hm, rfl⟩ := ranged_get hd
  obtain ⟨s2, s3, s4, s5, s6, s7, s8, s9, s10, s11, rfl⟩ := hJ
  walk_at "q"
  refine fun w wl we => ?_
  obtain ⟨N, hN⟩ : ∃ N : Int, 400 = N := ⟨_, rfl⟩
  rw [hN]
  refine cIf_i (fun h1 => ?_) (fun h1 => ?_)
  all_goals walk_at "q"
  all_goals first | refine fun r r0 r1 => cIf_i (fun h2 => ?_) (fun h2 => ?_) | skip
  all_goals first | walk_at "q" | skip
  · refine ⟨by omega, by omega, ?_⟩
    rw [ranged_upto]
    refine comp_rule (fun _ : Unit => [.bor (.scr ns), .bag 0, .sh (.int (m : Int)), .own (.lst (w.map .int)), s4, s5, s6, s7, s8, s9, s10, .no]) (fun i _ acc => ∃ u : List Int, acc = u.map .int ∧ u.length = i) () ⟨[], rfl, rfl⟩ (fun i d b acc X hd hI hX => ?_) fun _ acc hI => ?_
    · obtain ⟨u, rfl, hu⟩ := hI
      obtain ⟨q, hq, rfl⟩ := ints_get hd
      obtain ⟨rfl, hn⟩ := upto_get hq
      unfold compStep
      walk_at "q"
      refine fun e e0 e1 => ⟨by omega, ?_⟩
      exact hX () _ ⟨u ++ [e], rfl, by rw [List.length_append, hu]; rfl⟩
    obtain ⟨u, rfl, hu⟩ := hI
    rw [List.length_map, upto_length] at hu
    have hu4 : u.length ≤ 400 := by omega
    walk_at "q"
    clear we wl w hu
    refine ⟨by omega, fun d hd => ?_⟩
    have hs : Shw d 1 (15 * 400 + 3) ∧ isDist d = true ∧ nums d = dist u ∧ (∀ ns, d ≠ .scr ns) := by
      rcases hd with rfl | rfl
      · exact ⟨(shw_lints (dist_small (by omega)) (n := 400) (by rw [dist_length]; omega)), isDist_l hu4, (seq_nums (.inl rfl)).1, fun _ h => D.noConfusion h⟩
      · exact ⟨(shw_tints (dist_small (by omega)) (n := 400) (by rw [dist_length]; omega)), isDist_t hu4, (seq_nums (.inr rfl)).1, fun _ h => D.noConfusion h⟩
    obtain ⟨a1, a2, a3, a4⟩ := hs
    have bd : ∀ {u : List Int}, u.length ≤ 400 → ∀ i ∈ dist u, 0 ≤ i ∧ i < 400 := fun {u} hu i hi => by
      have := isDist_bd (isDist_l hu) i
      rw [nums_l] at this
      exact this hi
    have hb : okSame 5 (.lst ((dist u).map .int)) = true := by
      show (decide (((dist u).map D.int).length < 1000000) && ((dist u).map D.int).all (okSame 4)) = true
      rw [List.length_map, dist_length, decide_eq_true (by omega), Bool.true_and, List.all_map]
      exact List.all_eq_true.mpr fun _ _ => rfl
    refine ⟨a1.ok, ?_⟩
    refine loopJ (fun m3 env => ∃ s7 s9 s10, env = [.bor (.scr ns), .bag 0, .sh (.int m), .own (.lst (u.map .int)), .own (.lst ((dist u).map .int)), .sh d, .sh (.str (toP d).shown), s7, s8, s9, s10, _]) ⟨_, _, _, rfl⟩ (fun m3 d3 env X3 hd3 hJ3 hX3 => ?_) fun env hJ3 => ?_
    · obtain ⟨s7, s9, s10, rfl⟩ := hJ3
      obtain ⟨hm3, rfl⟩ := ranged_get hd3
      walk_at "q"
      refine ⟨d, rfl, a4, cIf_l a2 ?_⟩
      rw [a3]
      walk_at "q"
      refine ⟨_, _, rfl, ⟨.inl rfl, by rw [dist_length]; omega, fun i hi => ⟨(bd hu4 i hi).1, by have := (bd hu4 i hi).2; omega⟩⟩, ?_⟩
      walk_at "q"
      refine ⟨a1.ok, ?_⟩
      try walk_at "q"
      refine ⟨_, rfl, ⟨isDist_l hu4, by rw [dist_length]; omega, fun i hi => ⟨(bd hu4 i hi).1, by have := (bd hu4 i hi).2; omega⟩⟩, ?_⟩
      walk_at "q"
      refine ⟨_, rfl, hb, ?_⟩
      walk_at "q"
      refine ⟨by rw [dist_length]; omega, ?_⟩
      exact hX3 _ ⟨_, _, _, rfl⟩
    · obtain ⟨s7, s9, s10, rfl⟩ := hJ3
      walk_at "q"
      refine ⟨by split <;> omega, by split <;> omega, ?_⟩
      refine loopJ (fun m3 env => ∃ s7 w2, env = [.bor (.scr ns), .bag 0, .sh (.int m), .own (.lst (u.map .int)), .own (.lst ((dist u).map .int)), .sh d, .sh (.str (toP d).shown), s7, .own (.lst ((dist w2).map .int)), s9, s10, _] ∧ w2.length ≤ 400 ∧ w2.length + m3 = u.length) ⟨_, u, rfl, hu4, rfl⟩ (fun m3 d3 env X3 hd3 hJ3 hX3 => ?_) fun env hJ3 => ?_
      · obtain ⟨s7, w2, rfl, hl2, hm3⟩ := hJ3
        obtain ⟨hm4, rfl⟩ := ranged_get hd3
        have hm5 : m3 < u.length := by rw [dist_length] at hm4; split at hm4 <;> omega
        walk_at "q"
        refine ⟨_, List.getElem?_eq_getElem (by rw [List.length_map, dist_length]; omega), ?_⟩
        have e3 : ((dist w2).map D.int).dropLast = (dist w2.dropLast).map D.int := by first | exact dist_dropLast.symm | (rw [dist_dropLast]; done) | (rw [dist_dropLast, List.map_dropLast])
        rw [← dist_dropLast, e3]
        have hl3 : w2.dropLast.length ≤ 400 := by rw [List.length_dropLast]; omega
        refine ⟨_, rfl, fun _ h => D.noConfusion h, cIf_l (isDist_l hl3) ?_⟩
        rw [nums_l]
        walk_at "q"
        refine ⟨_, _, rfl, ⟨.inl rfl, by rw [dist_length]; omega, fun i hi => ⟨(bd hl3 i hi).1, by have := (bd hl3 i hi).2; omega⟩⟩, ?_⟩
        walk_at "q"
        exact hX3 _ ⟨_, w2.dropLast, rfl, hl3, by rw [List.length_dropLast]; omega⟩
      · obtain ⟨s7, w2, rfl, hl2, hm3⟩ := hJ3
        walk_at "q"
        exact hX _ ⟨_, _, _, _, _, _, _, _, _, _, rfl⟩
  · have hu4 : w.length ≤ 400 := by omega
    refine ⟨by omega, fun d hd => ?_⟩
    have hs : Shw d 1 (15 * 400 + 3) ∧ isDist d = true ∧ nums d = dist w ∧ (∀ ns, d ≠ .scr ns) := by
      rcases hd with rfl | rfl
      · exact ⟨(shw_lints (dist_small (by omega)) (n := 400) (by rw [dist_length]; omega)), isDist_l hu4, (seq_nums (.inl rfl)).1, fun _ h => D.noConfusion h⟩
      · exact ⟨(shw_tints (dist_small (by omega)) (n := 400) (by rw [dist_length]; omega)), isDist_t hu4, (seq_nums (.inr rfl)).1, fun _ h => D.noConfusion h⟩
    obtain ⟨a1, a2, a3, a4⟩ := hs
    have bd : ∀ {u : List Int}, u.length ≤ 400 → ∀ i ∈ dist u, 0 ≤ i ∧ i < 400 := fun {u} hu i hi => by
      have := isDist_bd (isDist_l hu) i
      rw [nums_l] at this
      exact this hi
    have hb : okSame 5 (.lst ((dist w).map .int)) = true := by
      show (decide (((dist w).map D.int).length < 1000000) && ((dist w).map D.int).all (okSame 4)) = true
      rw [List.length_map, dist_length, decide_eq_true (by omega), Bool.true_and, List.all_map]
      exact List.all_eq_true.mpr fun _ _ => rfl
    refine ⟨a1.ok, ?_⟩
    refine loopJ (fun m3 env => ∃ s7 s9 s10, env = [.bor (.scr ns), .bag 0, .sh (.int m), .own (.lst (w.map .int)), .own (.lst ((dist w).map .int)), .sh d, .sh (.str (toP d).shown), s7, s8, s9, s10, _]) ⟨_, _, _, rfl⟩ (fun m3 d3 env X3 hd3 hJ3 hX3 => ?_) fun env hJ3 => ?_
    · obtain ⟨s7, s9, s10, rfl⟩ := hJ3
      obtain ⟨hm3, rfl⟩ := ranged_get hd3
      walk_at "q"
      refine ⟨d, rfl, a4, cIf_l a2 ?_⟩
      rw [a3]
      walk_at "q"
      refine ⟨_, _, rfl, ⟨.inl rfl, by rw [dist_length]; omega, fun i hi => ⟨(bd hu4 i hi).1, by have := (bd hu4 i hi).2; omega⟩⟩, ?_⟩
      walk_at "q"
      refine ⟨a1.ok, ?_⟩
      try walk_at "q"
      refine ⟨_, rfl, ⟨isDist_l hu4, by rw [dist_length]; omega, fun i hi => ⟨(bd hu4 i hi).1, by have := (bd hu4 i hi).2; omega⟩⟩, ?_⟩
      walk_at "q"
      refine ⟨_, rfl, hb, ?_⟩
      walk_at "q"
      refine ⟨by rw [dist_length]; omega, ?_⟩
      exact hX3 _ ⟨_, _, _, rfl⟩
    · obtain ⟨s7, s9, s10, rfl⟩ := hJ3
      walk_at "q"
      refine ⟨by split <;> omega, by split <;> omega, ?_⟩
      refine loopJ (fun m3 env => ∃ s7 w2, env = [.bor (.scr ns), .bag 0, .sh (.int m), .own (.lst (w.map .int)), .own (.lst ((dist w).map .int)), .sh d, .sh (.str (toP d).shown), s7, .own (.lst ((dist w2).map .int)), s9, s10, _] ∧ w2.length ≤ 400 ∧ w2.length + m3 = w.length) ⟨_, w, rfl, hu4, rfl⟩ (fun m3 d3 env X3 hd3 hJ3 hX3 => ?_) fun env hJ3 => ?_
      · obtain ⟨s7, w2, rfl, hl2, hm3⟩ := hJ3
        obtain ⟨hm4, rfl⟩ := ranged_get hd3
        have hm5 : m3 < w.length := by rw [dist_length] at hm4; split at hm4 <;> omega
        walk_at "q"
        refine ⟨_, List.getElem?_eq_getElem (by rw [List.length_map, dist_length]; omega), ?_⟩
        have e3 : ((dist w2).map D.int).dropLast = (dist w2.dropLast).map D.int := by first | exact dist_dropLast.symm | (rw [dist_dropLast]; done) | (rw [dist_dropLast, List.map_dropLast])
        rw [← dist_dropLast, e3]
        have hl3 : w2.dropLast.length ≤ 400 := by rw [List.length_dropLast]; omega
        refine ⟨_, rfl, fun _ h => D.noConfusion h, cIf_l (isDist_l hl3) ?_⟩
        rw [nums_l]
        walk_at "q"
        refine ⟨_, _, rfl, ⟨.inl rfl, by rw [dist_length]; omega, fun i hi => ⟨(bd hl3 i hi).1, by have := (bd hl3 i hi).2; omega⟩⟩, ?_⟩
        walk_at "q"
        exact hX3 _ ⟨_, w2.dropLast, rfl, hl3, by rw [List.length_dropLast]; omega⟩
      · obtain ⟨s7, w2, rfl, hl2, hm3⟩ := hJ3
        walk_at "q"
        exact hX _ ⟨_, _, _, _, _, _, _, _, _, _, rfl⟩
  · have hu4 : w.length ≤ 400 := by omega
    refine ⟨by omega, fun d hd => ?_⟩
    have hs : Shw d 1 (15 * 400 + 3) ∧ isDist d = true ∧ nums d = dist w ∧ (∀ ns, d ≠ .scr ns) := by
      rcases hd with rfl | rfl
      · exact ⟨(shw_lints (dist_small (by omega)) (n := 400) (by rw [dist_length]; omega)), isDist_l hu4, (seq_nums (.inl rfl)).1, fun _ h => D.noConfusion h⟩
      · exact ⟨(shw_tints (dist_small (by omega)) (n := 400) (by rw [dist_length]; omega)), isDist_t hu4, (seq_nums (.inr rfl)).1, fun _ h => D.noConfusion h⟩
    obtain ⟨a1, a2, a3, a4⟩ := hs
    have bd : ∀ {u : List Int}, u.length ≤ 400 → ∀ i ∈ dist u, 0 ≤ i ∧ i < 400 := fun {u} hu i hi => by
      have := isDist_bd (isDist_l hu) i
      rw [nums_l] at this
      exact this hi
    have hb : okSame 5 (.lst ((dist w).map .int)) = true := by
      show (decide (((dist w).map D.int).length < 1000000) && ((dist w).map D.int).all (okSame 4)) = true
      rw [List.length_map, dist_length, decide_eq_true (by omega), Bool.true_and, List.all_map]
      exact List.all_eq_true.mpr fun _ _ => rfl
    refine ⟨a1.ok, ?_⟩
    refine loopJ (fun m3 env => ∃ s7 s9 s10, env = [.bor (.scr ns), .bag 0, .sh (.int m), .own (.lst (w.map .int)), .own (.lst ((dist w).map .int)), .sh d, .sh (.str (toP d).shown), s7, s8, s9, s10, _]) ⟨_, _, _, rfl⟩ (fun m3 d3 env X3 hd3 hJ3 hX3 => ?_) fun env hJ3 => ?_
    · obtain ⟨s7, s9, s10, rfl⟩ := hJ3
      obtain ⟨hm3, rfl⟩ := ranged_get hd3
      walk_at "q"
      refine ⟨d, rfl, a4, cIf_l a2 ?_⟩
      rw [a3]
      walk_at "q"
      refine ⟨_, _, rfl, ⟨.inl rfl, by rw [dist_length]; omega, fun i hi => ⟨(bd hu4 i hi).1, by have := (bd hu4 i hi).2; omega⟩⟩, ?_⟩
      walk_at "q"
      refine ⟨a1.ok, ?_⟩
      try walk_at "q"
      refine ⟨_, rfl, ⟨isDist_l hu4, by rw [dist_length]; omega, fun i hi => ⟨(bd hu4 i hi).1, by have := (bd hu4 i hi).2; omega⟩⟩, ?_⟩
      walk_at "q"
      refine ⟨_, rfl, hb, ?_⟩
      walk_at "q"
      refine ⟨by rw [dist_length]; omega, ?_⟩
      exact hX3 _ ⟨_, _, _, rfl⟩
    · obtain ⟨s7, s9, s10, rfl⟩ := hJ3
      walk_at "q"
      refine ⟨by split <;> omega, by split <;> omega, ?_⟩
      refine loopJ (fun m3 env => ∃ s7 w2, env = [.bor (.scr ns), .bag 0, .sh (.int m), .own (.lst (w.map .int)), .own (.lst ((dist w).map .int)), .sh d, .sh (.str (toP d).shown), s7, .own (.lst ((dist w2).map .int)), s9, s10, _] ∧ w2.length ≤ 400 ∧ w2.length + m3 = w.length) ⟨_, w, rfl, hu4, rfl⟩ (fun m3 d3 env X3 hd3 hJ3 hX3 => ?_) fun env hJ3 => ?_
      · obtain ⟨s7, w2, rfl, hl2, hm3⟩ := hJ3
        obtain ⟨hm4, rfl⟩ := ranged_get hd3
        have hm5 : m3 < w.length := by rw [dist_length] at hm4; split at hm4 <;> omega
        walk_at "q"
        refine ⟨_, List.getElem?_eq_getElem (by rw [List.length_map, dist_length]; omega), ?_⟩
        have e3 : ((dist w2).map D.int).dropLast = (dist w2.dropLast).map D.int := by first | exact dist_dropLast.symm | (rw [dist_dropLast]; done) | (rw [dist_dropLast, List.map_dropLast])
        rw [← dist_dropLast, e3]
        have hl3 : w2.dropLast.length ≤ 400 := by rw [List.length_dropLast]; omega
        refine ⟨_, rfl, fun _ h => D.noConfusion h, cIf_l (isDist_l hl3) ?_⟩
        rw [nums_l]
        walk_at "q"
        refine ⟨_, _, rfl, ⟨.inl rfl, by rw [dist_length]; omega, fun i hi => ⟨(bd hl3 i hi).1, by have := (bd hl3 i hi).2; omega⟩⟩, ?_⟩
        walk_at "q"
        exact hX3 _ ⟨_, w2.dropLast, rfl, hl3, by rw [List.length_dropLast]; omega⟩
      · obtain ⟨s7, w2, rfl, hl2, hm3⟩ := hJ3
        walk_at "q"
        exact hX _ ⟨_, _, _, _, _, _, _, _, _, _, rfl⟩
end Lw
open PySem PySem.W PySem.Calls PyProof.Rows
theorem PySem.Challenge.cw_howfarback_k54_distance_texts_holds : PySem.Challenge.rw_howfarback_k54_distance_texts.Holds := by
  w_on; o_law
  refine HandSHeadRun.head_any (r := OpenLaw.row PySem.Challenge.rw_howfarback_k54_distance_texts) (q := view (OpenLaw.row PySem.Challenge.rw_howfarback_k54_distance_texts).prog [26]) (H := Lw.hk) (ob := Lw.ob) (M := 20000) (loose := Lw.lo) (d := HandSHeadRun.topDef (OpenLaw.row PySem.Challenge.rw_howfarback_k54_distance_texts).prog 26) (kwd := []) Lw.ob_eq
    (by kernel_rfl) (fun s => by kernel_rfl) Lw.run (by kernel_rfl) (by kernel_rfl) (by kernel_rfl) (by rfl) (by first | assumption | decide +kernel) (by decide +kernel) ⟨rfl, rfl, rfl, rfl, rfl, by decide +kernel⟩ ?hw ?hc
  case hw => w_witness2
  case hc =>
    refine Q.walkG (l := PySem.Challenge.rw_howfarback_k54_distance_texts) (n := 63) (k := 7) (x := "_law_script") rfl (by decide) (by kernel_rfl) ⟨rfl, by decide, by decide⟩ ?F
    intro w mg fa h Y G hmg0
    obtain ⟨K, KX, c⟩ := Y
    have hmg : mg ("law" : PySem.Str) = some (.ref fa) := by
      rw [← show (HandSHeadRun.topDef (OpenLaw.row PySem.Challenge.rw_howfarback_k54_distance_texts).prog 26).name = ("law" : PySem.Str) by kernel_rfl]
      exact hmg0
    have T := Lw.tx KX G c
    have e : Value.ref (He.ga K "law") = Value.ref fa := Option.some.inj (T.g_law.symm.trans hmg)
    cases e
    obtain ⟨fd, hF⟩ := T.f_law
    exact ⟨K, fd, Q.spLaw K, KX, fun s v => (L2.FunD.bindsA (ps := ["_law_script"]) hF fun _ _ _ _ _ _ us hl => match us, hl with | [_], _ => rfl) s [v] rfl, fun H a ns hl _ hS => ⟨a, ns, rfl, hS, hl, fun _ => rfl⟩, fun base _ _ => by
      obtain ⟨fd', G', hF'⟩ := Lw.ok_law (P := (PySem.Challenge.rw_howfarback_k54_distance_texts).prog) (w := w) (base := base) T
      obtain ⟨oc, od, dV, kV, doc, pm, an, cdv, ct, osl, e1, lk, _⟩ := hF.ex
      obtain ⟨oc', od', dV', kV', doc', pm', an', cdv', ct', osl', e1', lk', _⟩ := hF'.ex
      rw [lk] at lk'
      cases lk'
      exact G'⟩

